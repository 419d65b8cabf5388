/- Contracts of functions of the given program, walked: each call returns what its Lean function says. Conditions: those that stand at each theorem. (Written by a program of this session.) -/
import Derived.Test.YthkchdfkeieabaaQGrx0
import Derived.Test.YthkchdfkeieabaaQGrx1
import Derived.Test.YthkchdfkeieabaaQGrx3
import Derived.Test.YthkchdfkeieabaaQGrx4
import Derived.Test.YthkchdfkeieabaaQGrx5
namespace Go.Proofs.Ythkchdfkeieabaa.QGr
open Go.RowKit Go.Proofs.YthkchdfkeieabaaW.PrintWords Go.Proofs.YthkchdfkeieabaaW.PrintLast Go.Proofs.YthkchdfkeieabaaW.PrintMore
open List (setIfInBounds_toArray set_cons_zero set_cons_succ map_toArray map_cons map_nil)
attribute [local go_sem] max2_int min2_int max_two min_two max_three min_three max_four min_four
set_option linter.unusedVariables false
set_option maxHeartbeats 8000000
set_option maxRecDepth 100000
set_option linter.unusedSimpArgs false
def spec_seNext.l0 : Nat → List Int → List (List Int) → List (List Int) → Int → Int → List Int → Int → List Bool → Bool → Option ((List (List Int)))
 | 0, _, _, _, _, _, _, _, _, _ => none
 | k + 1, x1, x7, x13, x14, x15, x336000, x336001, x337000, x337001 => if x15 < x14 then (if 0 ≤ x15 then (if x15 < (x13.length : Int) then ((spec_paCross.f k x337000 x337001 (rd_L2 x13 x15)).bind fun bt341 => ((spec_seIndex.f k bt341.1 bt341.2).bind fun t345 => (if 0 ≤ t345 then (if t345 < (x1.length : Int) then (if (rd x1 t345) ≥ 0 then ((spec_paTime.f k x336000 x336001 (rd_L2 x13 x15)).bind fun t347 => ((spec_seIndex.f k x337000 x337001).bind fun t348 => (if 0 ≤ t348 then (if t348 < (x1.length : Int) then (if (wrap64 ((rd x1 t345) + t347)) = (rd x1 t348) then (if x7.length < 5864062014805 then (spec_seNext.l0 k x1 (x7 ++ [rd_L2 x13 x15]) x13 x14 (wrap64 (x15 + 1)) x336000 x336001 x337000 x337001) else (none)) else (spec_seNext.l0 k x1 x7 x13 x14 (wrap64 (x15 + 1)) x336000 x336001 x337000 x337001)) else (none)) else (none)))) else (spec_seNext.l0 k x1 x7 x13 x14 (wrap64 (x15 + 1)) x336000 x336001 x337000 x337001)) else (none)) else (none)))) else (none)) else (none)) else (some x7)
def spec_seNext.f (k : Nat) (l0_0 : List Int) (a0_1 : Int) (l1 : List Int) (l2_0 : List Bool) (a2_1 : Bool) : Option ((List (List Int))) := (spec_paTrips.f k l0_0 a0_1 l2_0 a2_1).bind fun t337 => (spec_seNext.l0 k l1 ([] : List (List Int)) t337 (t337.length : Int) 0 l0_0 a0_1 l2_0 a2_1)
theorem spec_seNext.mono_l : ∀ k, (∀ y0 y1 y2 y3 y4 y5 y6 y7 y8, LeO (spec_seNext.l0 k y0 y1 y2 y3 y4 y5 y6 y7 y8) (spec_seNext.l0 (k + 1) y0 y1 y2 y3 y4 y5 y6 y7 y8))
 | 0 => fun _ _ _ _ _ _ _ _ _ r h => by simp [spec_seNext.l0] at h
 | k + 1 => by
  have ih0 := spec_seNext.mono_l k
  ·intro y0 y1 y2 y3 y4 y5 y6 y7 y8
   unfold spec_seNext.l0
   repeat' first
   | (with_reducible first | exact ih0 _ _ _ _ _ _ _ _ _ | exact spec_paCross.mono _ _ _ _ | exact spec_paTime.mono _ _ _ _ | exact spec_paTrips.mono _ _ _ _ _ | exact spec_seIndex.mono _ _ _ | exact LeO.refl _ | exact LeO.none _ | refine LeO.ite ?_ ?_ | refine LeO.bind ?_ (fun _ => ?_))
   | exact ih0 _ _ _ _ _ _ _ _ _
   | exact spec_paCross.mono _ _ _ _
   | exact spec_paTime.mono _ _ _ _
   | exact spec_paTrips.mono _ _ _ _ _
   | exact spec_seIndex.mono _ _ _
   | exact LeO.none _
   | refine LeO.ite ?_ ?_
   | refine LeO.bind ?_ (fun _ => ?_)
theorem spec_seNext.mono : ∀ a0 a1 a2 a3 a4 k, LeO (spec_seNext.f k a0 a1 a2 a3 a4) (spec_seNext.f (k + 1) a0 a1 a2 a3 a4) := by
 intro a0 a1 a2 a3 a4 k
 have ih0 := spec_seNext.mono_l k
 unfold spec_seNext.f
 repeat' first
  | (with_reducible first | exact ih0 _ _ _ _ _ _ _ _ _ | exact spec_paCross.mono _ _ _ _ | exact spec_paTime.mono _ _ _ _ | exact spec_paTrips.mono _ _ _ _ _ | exact spec_seIndex.mono _ _ _ | exact LeO.refl _ | exact LeO.none _ | refine LeO.ite ?_ ?_ | refine LeO.bind ?_ (fun _ => ?_))
  | exact ih0 _ _ _ _ _ _ _ _ _
  | exact spec_paCross.mono _ _ _ _
  | exact spec_paTime.mono _ _ _ _
  | exact spec_paTrips.mono _ _ _ _ _
  | exact spec_seIndex.mono _ _ _
  | exact LeO.none _
  | refine LeO.ite ?_ ?_
  | refine LeO.bind ?_ (fun _ => ?_)
def spec_seNext.T6 : Bool × List (List Nat × List Nat) := (true, [([], []), ([0], [0]), ([1], [1]), ([2], [2]), ([2], [2]), ([2], [2]), ([4, 5, 2, 2], [2, 4, 5]), ([3, 6, 2], [2, 3, 6]), ([2], [2]), ([2], [2]), ([9, 6, 2], [2, 9]), ([8, 10, 2], [2, 8, 10]), ([11, 2], [2, 11]), ([7, 12, 2], [2, 7, 12]), ([2, 13], [2, 13])])
def spec_seNext.B6 : List Nat := [0, 1, 3, 7, 7, 7, 55, 127, 7, 7, 631, 1911, 3959, 8191, 16383]
theorem spec_seNext.tab6 : rtab .any (opsOf Try.f95 6) = spec_seNext.T6 := by kernel_rfl
theorem spec_seNext.bits6 : waitsOk spec_seNext.T6.2 spec_seNext.B6 = true := by kernel_rfl
theorem spec_seNext.calls (k : Nat) (A0_0 : Option Addr) (c0_0 : Nat) (l0_0 : List Int) (a0_1 : Int) (A1 : Option Addr) (c1 : Nat) (l1 : List Int) (A2_0 : Option Addr) (c2_0 : Nat) (l2_0 : List Bool) (a2_1 : Bool) (r : List (List Int)) (w : World) (hr0_0 : Kd.C (Kd.int .i64) w A0_0 l0_0.length l0_0) (hc0_0 : l0_0.length ≤ c0_0) (hr1 : Kd.C (Kd.int .i64) w A1 l1.length l1) (hc1 : l1.length ≤ c1) (hr2_0 : Kd.C Kd.bool w A2_0 l2_0.length l2_0) (hc2_0 : l2_0.length ≤ c2_0) (h : spec_seNext.f k l0_0 a0_1 l1 l2_0 a2_1 = some r) :
  Calls Try.prog 95 #[.agg #[.slice A0_0 l0_0.length c0_0, .int .i64 a0_1], .slice A1 l1.length c1, .agg #[.slice A2_0 l2_0.length c2_0, .bool a2_1]] w fun e w' => ∃ v0_ : Value, e = .returned (v0_) ∧ Kd.N (Kd.slice 3 (Kd.int .i64)) 29 w' w.heap.size (fun k_ => (w.heap.size ≤ k_)) v0_ r ∧ Below w.heap.size w w' := by
 have hu34 := Try.underlying34
 have hu115 := Try.underlying115
 have HR0_0 := ak_ hr0_0
 have HC0_0 := ak_ hc0_0
 clear hr0_0 hc0_0
 have HR1 := ak_ hr1
 have HC1 := ak_ hc1
 clear hr1 hc1
 have HR2_0 := ak_ hr2_0
 have HC2_0 := ak_ hc2_0
 clear hr2_0 hc2_0
 have HB := ak_ (Below.refl w.heap.size w)
 have H : ((spec_paTrips.f k l0_0 a0_1 l2_0 a2_1).bind fun t337 => (spec_seNext.l0 k l1 ([] : List (List Int)) t337 (t337.length : Int) 0 l0_0 a0_1 l2_0 a2_1)) = some r := h
 clear h
 replace H := Option.bind_eq_some_iff.mp H
 obtain ⟨t337, A40, H⟩ := H
 replace H : (spec_seNext.l0 k l1 ([] : List (List Int)) t337 (t337.length : Int) 0 l0_0 a0_1 l2_0 a2_1) = some r := H
 have A4 := ak_ A40
 clear A40
 have H' := ak_ H
 clear H
 go_enter Try.func95, Try.ntmps95
 go_wp2_with (first | ((with_reducible refine gate_dst (N := 3) rfl ?_); refine box_event ?hg (N := 3) ?hd (cs := #[.slice A0_0 l0_0.length c0_0, .int .i64 a0_1]) (t := 34) ?hr ?_; (case hd => rfl); (case hg => rfl); (case hr => go_simp <;> rfl); intro gb335 hg w5 hbox hb; have n0_ := ak_ (bs_ (bb_ HB.out) hb); have n1_ := ak_ (hbox); have n2_ := ak_ ((by rw [hg]; exact (bz_ (bb_ HB.out)) : w.heap.size ≤ gb335)); have n3_ := n2_; clear HB; have HB := n0_; have BK335 := n1_; have GW335 := n2_; have GE335 := n3_; clear n0_ n1_ n2_ n3_; clear hb hbox hg) | ((with_reducible refine gate_dst (N := 5) rfl ?_); refine box_event ?hg (N := 5) ?hd (cs := #[.slice A2_0 l2_0.length c2_0, .bool a2_1]) (t := 115) ?hr ?_; (case hd => rfl); (case hg => rfl); (case hr => go_simp <;> rfl); intro gb336 hg w6 hbox hb; have n0_ := ak_ (blk_below (pk BK335.out) hb); have n1_ := ak_ (bs_ (by repeat (first | exact HB.out | apply ba_ | apply bN_ | apply b1_ | refine below_set ?_ GE335.out)) hb); have n2_ := ak_ (hbox); have n3_ := ak_ ((by rw [hg]; exact (bz_ (by repeat (first | exact HB.out | apply ba_ | apply bN_ | apply b1_ | refine below_set ?_ GE335.out))) : w.heap.size ≤ gb336)); have n4_ := n3_; have n5_ := ak_ ((by rw [hg]; exact Nat.ne_of_lt (blk_lt (pk BK335.out)) : gb335 ≠ gb336)); have n6_ := ak_ n5_.out.symm; clear BK335; clear HB; have BK335 := n0_; have HB := n1_; have BK336 := n2_; have GW336 := n3_; have GE336 := n4_; have NB335_336 := n5_; have NB336_335 := n6_; clear n0_ n1_ n2_ n3_ n4_ n5_ n6_; clear hb hbox hg; have hnb7 := NB335_336.out; have hnc7 := NB336_335.out; have hcz8_0 : w6.cell? ⟨gb335, 0, none⟩ = some (.slice A0_0 l0_0.length c0_0) := (blk_cell BK335.out 0).trans rfl; have hcz8_1 : w6.cell? ⟨gb335, 1, none⟩ = some (.int .i64 a0_1) := (blk_cell BK335.out 1).trans rfl; have hfz8_0 := blk_frozen BK335.out 0; have hfz8_1 := blk_frozen BK335.out 1; have hcz9_0 : w6.cell? ⟨gb336, 0, none⟩ = some (.slice A2_0 l2_0.length c2_0) := (blk_cell BK336.out 0).trans rfl; have hcz9_1 : w6.cell? ⟨gb336, 1, none⟩ = some (.bool a2_1) := (blk_cell BK336.out 1).trans rfl; have hfz9_0 := blk_frozen BK336.out 0; have hfz9_1 := blk_frozen BK336.out 1) | ((with_reducible refine gate_callee (f := 128) rfl ?_); refine goesL_ (some 13) rfl rfl Try.func128 (by kernel_rfl) rfl #[.agg #[.slice A0_0 l0_0.length c0_0, .int .i64 a0_1], .agg #[.slice A2_0 l2_0.length c2_0, .bool a2_1]] rfl (by first | rfl | (simp only [map_toArray, map_cons, map_nil]; try rfl)) ?_; (with_reducible refine (spec_paTrips.calls k _ _ l0_0 a0_1 _ _ l2_0 a2_1 t337 _ ?side1 ?side2 ?side3 ?side4 A4.out).mono ?_); (case side1 => repeat (first | exact (Kd.C_below HR0_0.out HB.out) | (with_reducible refine Kd.C_alloc ?_ _) | (with_reducible refine Kd.C_drewN ?_ _) | (with_reducible refine Kd.C_drew ?_))); (case side2 => exact HC0_0.out); (case side3 => repeat (first | exact (Kd.C_below HR2_0.out HB.out) | (with_reducible refine Kd.C_alloc ?_ _) | (with_reducible refine Kd.C_drewN ?_ _) | (with_reducible refine Kd.C_drew ?_))); (case side4 => exact HC2_0.out); rintro e w10 ⟨v338, rfl, ho0, hb⟩; refine ⟨_, rfl, ?_⟩; have n0_ := ak_ (Kd.N_lower (Kd.N_mono (ok' := fun k_ => (w.heap.size ≤ k_) ∧ k_ ≠ gb335 ∧ k_ ≠ gb336) ho0 (fun k_ hk_ => ⟨(Nat.le_trans (bz_ (by repeat (first | exact HB.out | apply ba_ | apply bN_ | apply b1_ | refine below_set ?_ (Aside0.out (by assumption))))) hk_), (Kd.freshB (pk BK335.out) k_ hk_), (Kd.freshB (pk BK336.out) k_ hk_)⟩)) (bz_ (by repeat (first | exact HB.out | apply ba_ | apply bN_ | apply b1_ | refine below_set ?_ (Aside0.out (by assumption)))))); have n1_ := ak_ (blk_below (pk BK335.out) hb); have n2_ := ak_ (blk_below (pk BK336.out) hb); have n3_ := ak_ (bs_ (by repeat (first | exact HB.out | apply ba_ | apply bN_ | apply b1_ | refine below_set ?_ (Aside0.out (by assumption)))) hb); clear BK335; clear BK336; clear HB; have HO339 := n0_; have BK335 := n1_; have BK336 := n2_; have HB := n3_; clear n0_ n1_ n2_ n3_; (try clear hb); (try clear hb2); (try clear hk); (try clear hi); (try clear ho0); obtain ⟨Ao11, co11, eo11⟩ := Kd.N_slice HO339.out; subst eo11))
 go_loopg [7, 15] k (fun kq v7 v15 w' => ∃ (x7_1 : List (List Int)) (x15_1 : Int), v15 = .int .i64 x15_1 ∧ Aside0 (spec_seNext.l0 kq l1 x7_1 t337 (t337.length : Int) x15_1 l0_0 a0_1 l2_0 a2_1 = some r) ∧ Aside0 (kq ≤ k) ∧ Aside0 (Kd.N (Kd.slice 3 (Kd.int .i64)) 29 w' w.heap.size (fun k_ => (w.heap.size ≤ k_) ∧ some k_ ≠ ((.slice Ao11 t337.length co11) : Value).ownBlock ∧ k_ ≠ gb335 ∧ k_ ≠ gb336) v7 x7_1) ∧ Aside0 (Kd.N (Kd.slice 3 (Kd.int .i64)) 29 w' w.heap.size (fun k_ => (w.heap.size ≤ k_) ∧ some k_ ≠ (v7 : Value).ownBlock ∧ k_ ≠ gb335 ∧ k_ ≠ gb336) (.slice Ao11 t337.length co11) t337) ∧ Aside0 (w'.heap[gb335]? = some (.cells #[(.slice A0_0 l0_0.length c0_0), .int .i64 a0_1] 34 (0, 0))) ∧ Aside0 (w'.heap[gb336]? = some (.cells #[(.slice A2_0 l2_0.length c2_0), .bool a2_1] 115 (0, 0))) ∧ Aside0 (Below w.heap.size w w'))
 case atStart => exact ⟨(([] : List (List Int))), (0), (by first | rfl | (simp; done) | (simp [*]; done)), H', ⟨Nat.le_refl _⟩, ⟨by first | exact Kd.S_nil _ _ _ _ _ | exact Kd.N_nil _ _ _ _ _ | exact Kd.V_nil _ _ _ _ _ | exact Kd.Q_nil _ _ _ _ _ | exact Kd.R_nil _ _ _ _ _⟩, ⟨by (with_reducible repeat (first | apply Kd.N_alloc | apply Kd.N_drewN | apply Kd.N_drew)); exact Kd.N_mono HO339.out (fun _ hk => ⟨hk.1, ⟨(by simp [Value.ownBlock]), ⟨hk.2.1, hk.2.2⟩⟩⟩)⟩, ⟨pk BK335.out⟩, ⟨pk BK336.out⟩, ⟨by repeat (first | exact HB.out | apply ba_ | apply bN_ | apply b1_ | refine below_set ?_ (Aside0.out (by assumption)))⟩⟩
 case round =>
  clear H'
  try clear c1
  try clear c2
  try clear p2
  try clear c7
  try clear c9
  try clear hcz8_0
  try clear hcz8_1
  try clear hcz9_0
  try clear hcz9_1
  try clear hfz8_0
  try clear hfz8_1
  try clear hfz9_0
  try clear hfz9_1
  obtain ⟨x7_1, x15_1, rfl, HA, HK1, HO_7, HO_13, BK335, BK336, HB⟩ := hrel
  cases gk with
  | zero => exact absurd HA.out (by simp [spec_seNext.l0])
  | succ k1 =>
   have H := HA.out
   clear HA
   simp only [spec_seNext.l0] at H
   by_cases c12 : x15_1 < (t337.length : Int)
   ·
    rw [if_pos c12] at H
    have c12b0 : decide (x15_1 < (t337.length : Int)) = true := decide_eq_true c12
    clear c12
    by_cases c13 : 0 ≤ x15_1
    ·
     rw [if_pos c13] at H
     have c13b0 : decide (0 ≤ x15_1) = true := decide_eq_true c13
     clear c13
     by_cases c14 : x15_1 < (t337.length : Int)
     ·
      rw [if_pos c14] at H
      have c14b0 : decide (x15_1 < (t337.length : Int)) = true := decide_eq_true c14
      clear c14
      replace H := Option.bind_eq_some_iff.mp H
      obtain ⟨⟨t341, t344⟩, A150, H⟩ := H
      replace H : ((spec_seIndex.f k1 t341 t344).bind fun t345 => (if 0 ≤ t345 then (if t345 < (l1.length : Int) then (if (rd l1 t345) ≥ 0 then ((spec_paTime.f k1 l0_0 a0_1 (rd_L2 t337 x15_1)).bind fun t347 => ((spec_seIndex.f k1 l2_0 a2_1).bind fun t348 => (if 0 ≤ t348 then (if t348 < (l1.length : Int) then (if (wrap64 ((rd l1 t345) + t347)) = (rd l1 t348) then (if x7_1.length < 5864062014805 then (spec_seNext.l0 k1 l1 (x7_1 ++ [rd_L2 t337 x15_1]) t337 (t337.length : Int) (wrap64 (x15_1 + 1)) l0_0 a0_1 l2_0 a2_1) else (none)) else (spec_seNext.l0 k1 l1 x7_1 t337 (t337.length : Int) (wrap64 (x15_1 + 1)) l0_0 a0_1 l2_0 a2_1)) else (none)) else (none)))) else (spec_seNext.l0 k1 l1 x7_1 t337 (t337.length : Int) (wrap64 (x15_1 + 1)) l0_0 a0_1 l2_0 a2_1)) else (none)) else (none))) = some r := H
      have A15 := ak_ A150
      clear A150
      replace H := Option.bind_eq_some_iff.mp H
      obtain ⟨t345, A160, H⟩ := H
      replace H : (if 0 ≤ t345 then (if t345 < (l1.length : Int) then (if (rd l1 t345) ≥ 0 then ((spec_paTime.f k1 l0_0 a0_1 (rd_L2 t337 x15_1)).bind fun t347 => ((spec_seIndex.f k1 l2_0 a2_1).bind fun t348 => (if 0 ≤ t348 then (if t348 < (l1.length : Int) then (if (wrap64 ((rd l1 t345) + t347)) = (rd l1 t348) then (if x7_1.length < 5864062014805 then (spec_seNext.l0 k1 l1 (x7_1 ++ [rd_L2 t337 x15_1]) t337 (t337.length : Int) (wrap64 (x15_1 + 1)) l0_0 a0_1 l2_0 a2_1) else (none)) else (spec_seNext.l0 k1 l1 x7_1 t337 (t337.length : Int) (wrap64 (x15_1 + 1)) l0_0 a0_1 l2_0 a2_1)) else (none)) else (none)))) else (spec_seNext.l0 k1 l1 x7_1 t337 (t337.length : Int) (wrap64 (x15_1 + 1)) l0_0 a0_1 l2_0 a2_1)) else (none)) else (none)) = some r := H
      have A16 := ak_ A160
      clear A160
      by_cases c17 : 0 ≤ t345
      ·
       rw [if_pos c17] at H
       have c17b0 : decide (0 ≤ t345) = true := decide_eq_true c17
       clear c17
       by_cases c18 : t345 < (l1.length : Int)
       ·
        rw [if_pos c18] at H
        have c18b0 : decide (t345 < (l1.length : Int)) = true := decide_eq_true c18
        clear c18
        have HC19 := ak_ H
        clear H
        have p340 : 0 ≤ (x15_1 : Int) := odt_ (by assumption)
        have q340 : x15_1 < (t337.length : Int) := odt_ (by assumption)
        obtain ⟨ad340, A340_0, c340_0, e340, hx340_0, hl340_0, hi340_0⟩ := at_L2 (Kd.N_reads' HO_13.out).2.2 x15_1 p340 q340
        cases e340
        obtain ⟨ce340, hce340, hMe340, hcc340⟩ := Kd.N_get HO_13.out [] x15_1 p340 (by first | exact q340 | exact odt_ (by assumption) | (have e_ := (Kd.N_reads' HO_13.out).1; omega))
        obtain ⟨ua340_0, uc340_0, rfl, ul340_0, ge340_0⟩ := Kd.FK_slice_open hMe340
        have hv340_0 := hcc340 0 _ rfl
        rw [Nat.add_zero, show ((Kd.slice 3 (Kd.int .i64))).sz = 1 from rfl, Nat.mul_one] at hv340_0
        replace hv340_0 := Option.some.inj (hv340_0.symm.trans hx340_0)
        injection hv340_0 with hva_ hvn_ hvc_
        rw [hva_] at ge340_0
        rw [hvc_] at ul340_0
        have HL340_0 := ak_ (show Kd.V (Kd.int .i64) 3 _ w.heap.size _ _ (rd_L2 t337 x15_1) from Kd.V_mk ul340_0 ge340_0)
        clear hva_ hvn_ hvc_ ge340_0 ul340_0 hcc340 hce340
        have HR340_0 := ak_ hi340_0
        have HC340_0 := ak_ hl340_0
        clear hi340_0 hl340_0
        replace p340 := eq_true p340
        replace q340 := eq_true q340
        have hnb20 := NB336_335.out
        have hnc20 := NB335_336.out
        have hcz21_0 : wr.cell? ⟨gb336, 0, none⟩ = some (.slice A2_0 l2_0.length c2_0) := (blk_cell BK336.out 0).trans rfl
        have hcz21_1 : wr.cell? ⟨gb336, 1, none⟩ = some (.bool a2_1) := (blk_cell BK336.out 1).trans rfl
        have hfz21_0 := blk_frozen BK336.out 0
        have hfz21_1 := blk_frozen BK336.out 1
        go_upto_region 6 with (first | ((with_reducible refine gate_callee (f := 96) rfl ?_); refine goesL_ (some 22) rfl rfl Try.func96 (by kernel_rfl) rfl #[.agg #[.slice A2_0 l2_0.length c2_0, .bool a2_1], .slice A340_0 (rd_L2 t337 x15_1).length c340_0] rfl (by first | rfl | (simp only [map_toArray, map_cons, map_nil]; try rfl)) ?_; (with_reducible refine (spec_paCross.calls k1 _ _ l2_0 a2_1 _ _ (rd_L2 t337 x15_1) t341 t344 _ ?side1 ?side2 ?side3 ?side4 A15.out).mono ?_); (case side1 => repeat (first | exact (Kd.C_below HR2_0.out HB.out) | (with_reducible refine Kd.C_alloc ?_ _) | (with_reducible refine Kd.C_drewN ?_ _) | (with_reducible refine Kd.C_drew ?_))); (case side2 => exact HC2_0.out); (case side3 => repeat (first | exact (by repeat (first | (with_reducible exact HR340_0.out) | (with_reducible refine Kd.C_alloc ?_ _) | (with_reducible refine Kd.C_drewN ?_ _) | (with_reducible refine Kd.C_drew ?_) | exact HR340_0.out)) | (with_reducible refine Kd.C_alloc ?_ _) | (with_reducible refine Kd.C_drewN ?_ _) | (with_reducible refine Kd.C_drew ?_))); (case side4 => exact HC340_0.out); rintro e w22 ⟨v342, rfl, ho0, hb⟩; refine ⟨_, rfl, ?_⟩; have n0_ := ak_ (Kd.N_elder' (Kd.pN HO_7.out) (Kd.R_base ho0) hb); have n1_ := ak_ (Kd.N_elder' (Kd.pN HO_13.out) (Kd.R_base ho0) hb); have n2_ := ak_ (Kd.V_elder' (Kd.pV HL340_0.out) (Kd.R_base ho0) hb); have n3_ := ak_ (Kd.R_lower (Kd.R_newM (M := fun k_ => (w.heap.size ≤ k_)) ho0 (bz_ (by repeat (first | exact HB.out | apply ba_ | apply bN_ | apply b1_ | refine below_set ?_ (Aside0.out (by assumption))))) (fun k_ h_ => h_)) (bz_ (by repeat (first | exact HB.out | apply ba_ | apply bN_ | apply b1_ | refine below_set ?_ (Aside0.out (by assumption)))))); have n4_ := ak_ (blk_below (pk BK335.out) hb); have n5_ := ak_ (blk_below (pk BK336.out) hb); have n6_ := ak_ (Kd.C_below (by repeat (first | (with_reducible exact HR340_0.out) | (with_reducible refine Kd.C_alloc ?_ _) | (with_reducible refine Kd.C_drewN ?_ _) | (with_reducible refine Kd.C_drew ?_) | exact HR340_0.out)) hb); have n7_ := ak_ (bs_ (by repeat (first | exact HB.out | apply ba_ | apply bN_ | apply b1_ | refine below_set ?_ (Aside0.out (by assumption)))) hb); clear HO_7; clear HO_13; clear HL340_0; clear BK335; clear BK336; clear HR340_0; clear HB; have HO_7 := n0_; have HO_13 := n1_; have HL340_0 := n2_; have HO343 := n3_; have BK335 := n4_; have BK336 := n5_; have HR340_0 := n6_; have HB := n7_; clear n0_ n1_ n2_ n3_ n4_ n5_ n6_ n7_; (try clear hb); (try clear hb2); (try clear hk); (try clear hi); (try clear ho0); obtain ⟨Ao23, co23, eo23⟩ := Kd.R_slice HO343.out; subst eo23) | ((with_reducible refine gate_callee (f := 91) rfl ?_); refine goesL_ (some 23) rfl rfl Try.func91 (by kernel_rfl) rfl #[.agg #[.slice Ao23 t341.length co23, .bool t344]] rfl (by first | rfl | (simp only [map_toArray, map_cons, map_nil]; try rfl)) ?_; (with_reducible refine (spec_seIndex.calls k1 _ _ t341 t344 t345 _ ?side1 ?side2 A16.out).mono ?_); (case side1 => repeat (first | exact (Kd.R_reads' HO343.out).2.2 | (with_reducible refine Kd.C_alloc ?_ _) | (with_reducible refine Kd.C_drewN ?_ _) | (with_reducible refine Kd.C_drew ?_))); (case side2 => exact (Kd.R_reads' HO343.out).2.1); rintro e w24 ⟨rfl, hb⟩; refine ⟨_, rfl, ?_⟩; have n0_ := ak_ (Kd.N_below (Kd.pN HO_7.out) hb); have n1_ := ak_ (Kd.N_below (Kd.pN HO_13.out) hb); have n2_ := ak_ (Kd.V_below (Kd.pV HL340_0.out) hb); have n3_ := ak_ (Kd.R_below (Kd.pR HO343.out) hb); have n4_ := ak_ (blk_below (pk BK335.out) hb); have n5_ := ak_ (blk_below (pk BK336.out) hb); have n6_ := ak_ (Kd.C_below (by repeat (first | (with_reducible exact HR340_0.out) | (with_reducible refine Kd.C_alloc ?_ _) | (with_reducible refine Kd.C_drewN ?_ _) | (with_reducible refine Kd.C_drew ?_) | exact HR340_0.out)) hb); have n7_ := ak_ (bs_ (by repeat (first | exact HB.out | apply ba_ | apply bN_ | apply b1_ | refine below_set ?_ (Aside0.out (by assumption)))) hb); clear HO_7; clear HO_13; clear HL340_0; clear HO343; clear BK335; clear BK336; clear HR340_0; clear HB; have HO_7 := n0_; have HO_13 := n1_; have HL340_0 := n2_; have HO343 := n3_; have BK335 := n4_; have BK336 := n5_; have HR340_0 := n6_; have HB := n7_; clear n0_ n1_ n2_ n3_ n4_ n5_ n6_ n7_; (try clear hb); (try clear hb2); (try clear hk); (try clear hi); have p346 : 0 ≤ (t345 : Int) := odt_ (by assumption); have q346 : t345 < (l1.length : Int) := odt_ (by assumption); obtain ⟨ad346, e346, hx346_0⟩ := Kd.at_int HR1.out t345 p346 q346; cases e346; replace hx346_0 := (HB.out.cell (World.block_lt_of_cell? w _ hx346_0)).trans hx346_0; replace p346 := eq_true p346; replace q346 := eq_true q346))
        (try simp only [Act.put, setIfInBounds_toArray, set_cons_zero, set_cons_succ])
        have H := HC19.out
        clear HC19
        by_cases c25 : (rd l1 t345) ≥ 0
        ·
         rw [if_pos c25] at H
         have c25b0 : decide (0 ≤ (rd l1 t345)) = true := decide_eq_true c25
         clear c25
         replace H := Option.bind_eq_some_iff.mp H
         obtain ⟨t347, A260, H⟩ := H
         replace H : ((spec_seIndex.f k1 l2_0 a2_1).bind fun t348 => (if 0 ≤ t348 then (if t348 < (l1.length : Int) then (if (wrap64 ((rd l1 t345) + t347)) = (rd l1 t348) then (if x7_1.length < 5864062014805 then (spec_seNext.l0 k1 l1 (x7_1 ++ [rd_L2 t337 x15_1]) t337 (t337.length : Int) (wrap64 (x15_1 + 1)) l0_0 a0_1 l2_0 a2_1) else (none)) else (spec_seNext.l0 k1 l1 x7_1 t337 (t337.length : Int) (wrap64 (x15_1 + 1)) l0_0 a0_1 l2_0 a2_1)) else (none)) else (none))) = some r := H
         have A26 := ak_ A260
         clear A260
         replace H := Option.bind_eq_some_iff.mp H
         obtain ⟨t348, A270, H⟩ := H
         replace H : (if 0 ≤ t348 then (if t348 < (l1.length : Int) then (if (wrap64 ((rd l1 t345) + t347)) = (rd l1 t348) then (if x7_1.length < 5864062014805 then (spec_seNext.l0 k1 l1 (x7_1 ++ [rd_L2 t337 x15_1]) t337 (t337.length : Int) (wrap64 (x15_1 + 1)) l0_0 a0_1 l2_0 a2_1) else (none)) else (spec_seNext.l0 k1 l1 x7_1 t337 (t337.length : Int) (wrap64 (x15_1 + 1)) l0_0 a0_1 l2_0 a2_1)) else (none)) else (none)) = some r := H
         have A27 := ak_ A270
         clear A270
         by_cases c28 : 0 ≤ t348
         ·
          rw [if_pos c28] at H
          have c28b0 : decide (0 ≤ t348) = true := decide_eq_true c28
          clear c28
          by_cases c29 : t348 < (l1.length : Int)
          ·
           rw [if_pos c29] at H
           have c29b0 : decide (t348 < (l1.length : Int)) = true := decide_eq_true c29
           clear c29
           have HC30 := ak_ H
           clear H
           try go_wp2
           have n0_ := ak_ (Kd.N_drew HO_7.out)
           have n1_ := ak_ (Kd.N_drew HO_13.out)
           have n2_ := ak_ (Kd.V_drew HL340_0.out)
           have n3_ := ak_ (Kd.R_drew HO343.out)
           have n4_ := ak_ (k1_ BK335.out)
           have n5_ := ak_ (k1_ BK336.out)
           have n6_ := ak_ (Kd.C_drew HR340_0.out)
           have n7_ := ak_ (b1_ HB.out)
           clear HO_7 HO_13 HL340_0 HO343 BK335 BK336 HR340_0 HB
           have HO_7 := n0_; have HO_13 := n1_; have HL340_0 := n2_; have HO343 := n3_; have BK335 := n4_; have BK336 := n5_; have HR340_0 := n6_; have HB := n7_
           clear n0_ n1_ n2_ n3_ n4_ n5_ n6_ n7_
           have p349 : 0 ≤ (t348 : Int) := odt_ (by assumption)
           have q349 : t348 < (l1.length : Int) := odt_ (by assumption)
           obtain ⟨ad349, e349, hx349_0⟩ := Kd.at_int HR1.out t348 p349 q349
           have hw349_0 := hx349_0
           obtain rfl : ad346 = ad349 := (by injection e349)
           try replace hx349_0 := (HB.out.cell (World.block_lt_of_cell? w _ hx349_0)).trans hx349_0
           replace p349 := eq_true p349
           replace q349 := eq_true q349
           refine start_ (n := 15) (S := fun w' => w'.cell? ⟨gb335, 0, none⟩ = some (.slice A0_0 l0_0.length c0_0) ∧ w'.cell? ⟨gb335, 1, none⟩ = some (.int .i64 a0_1) ∧ w'.cell? ⟨gb336, 0, none⟩ = some (.slice A2_0 l2_0.length c2_0) ∧ w'.cell? ⟨gb336, 1, none⟩ = some (.bool a2_1) ∧ w'.cell? (ad346.add (t348).toNat) = some (.int .i64 (rd l1 t348))) (ds := []) (mb_ 15 0) (by kernel_rfl) rfl rfl ⟨(blk_cell BK335.out 0).trans rfl, (blk_cell BK335.out 1).trans rfl, (blk_cell BK336.out 0).trans rfl, (blk_cell BK336.out 1).trans rfl, ((HB.out.cell (World.block_lt_of_cell? w _ hw349_0)).trans hw349_0)⟩ (fun hHeld => ?_); refine with_tabW spec_seNext.tab6 spec_seNext.bits6 (fun HT_ HW_ => ?_)
           generalize w24.drew = w31 at HO_7 HO_13 HL340_0 HO343 BK335 BK336 HR340_0 HB hx349_0 hHeld ⊢
           refine pure_ (i := 0) (N := some 26) (v := ?_) (a' := ?_) (mb_ 15 1) rfl rfl (any_of HT_.out (by kernel_rfl)) (fun _ _ _ h => h) (Or.inl ⟨by rfl, ?_⟩) ?_ ?_
           rotate_left
           ·
            intro w'
            go_simp
            with_reducible rfl
           rotate_left
           ·
            simp only [Act.put, setIfInBounds_toArray, set_cons_zero, set_cons_succ, i64_w, i32_w]
            rfl
           refine pure_ (i := 1) (N := some 27) (v := ?_) (a' := ?_) (mb_ 15 3) rfl rfl (any_of HT_.out (by kernel_rfl)) (fun _ _ _ h => h) (Or.inl ⟨by rfl, ?_⟩) ?_ ?_
           rotate_left
           ·
            intro w'
            go_simp
            with_reducible rfl
           rotate_left
           ·
            simp only [Act.put, setIfInBounds_toArray, set_cons_zero, set_cons_succ, i64_w, i32_w]
            rfl
           refine pure_ (i := 2) (N := some 28) (v := ?_) (a' := ?_) (mb_ 15 7) rfl rfl (any_of HT_.out (by kernel_rfl)) (fun _ _ _ h => h) (Or.inl ⟨by rfl, ?_⟩) ?_ ?_
           rotate_left
           ·
            intro w'
            go_simp
            with_reducible rfl
           rotate_left
           ·
            simp only [Act.put, setIfInBounds_toArray, set_cons_zero, set_cons_succ, i64_w, i32_w]
            rfl
           refine pure_ (i := 3) (N := some 29) (v := ?_) (a' := ?_) (mb_ 15 15) rfl rfl (any_of HT_.out (by kernel_rfl)) (fun _ _ _ h => h) (Or.inl ⟨by rfl, ?_⟩) ?_ ?_
           rotate_left
           ·
            intro w'
            go_simp
            with_reducible rfl
           rotate_left
           ·
            simp only [Act.put, setIfInBounds_toArray, set_cons_zero, set_cons_succ, i64_w, i32_w]
            rfl
           refine pure_ (i := 5) (N := some 31) (v := ?_) (a' := ?_) (mb_ 15 47) rfl rfl (any_of HT_.out (by kernel_rfl)) (fun _ _ _ h => h) (Or.inl ⟨by rfl, ?_⟩) ?_ ?_
           rotate_left
           ·
            intro w'
            go_simp
            with_reducible rfl
           rotate_left
           ·
            simp only [Act.put, setIfInBounds_toArray, set_cons_zero, set_cons_succ, i64_w, i32_w]
            rfl
           refine pure_ (i := 8) (N := some 34) (v := ?_) (a' := ?_) (mb_ 15 303) rfl rfl (any_of HT_.out (by kernel_rfl)) (fun _ _ _ h => h) (Or.inl ⟨by rfl, ?_⟩) ?_ ?_
           rotate_left
           ·
            intro w'
            go_simp
            with_reducible rfl
           rotate_left
           ·
            simp only [Act.put, setIfInBounds_toArray, set_cons_zero, set_cons_succ, i64_w, i32_w]
            rfl
           refine take_ (i := 4) (N := some 30) (v := ?_) (a' := ?_) (mb_ 15 319) rfl rfl (take_ofW HT_.out HW_.out (by kernel_rfl)) (fun _ _ _ h => h) (Or.inl ⟨by rfl, ?_⟩) hHeld ?_ ?_
           rotate_left
           ·
            rintro w' ⟨s0, s1, s2, s3, s4⟩
            go_simp
            with_reducible rfl
           rotate_left
           ·
            simp only [Act.put, setIfInBounds_toArray, set_cons_zero, set_cons_succ, i64_w, i32_w]
            rfl
           refine take_ (i := 9) (N := some 35) (v := ?_) (a' := ?_) (mb_ 15 831) rfl rfl (take_ofW HT_.out HW_.out (by kernel_rfl)) (fun _ _ _ h => h) (Or.inl ⟨by rfl, ?_⟩) hHeld ?_ ?_
           rotate_left
           ·
            rintro w' ⟨s0, s1, s2, s3, s4⟩
            go_simp
            with_reducible rfl
           rotate_left
           ·
            simp only [Act.put, setIfInBounds_toArray, set_cons_zero, set_cons_succ, i64_w, i32_w]
            rfl
           refine one_ (i := 6) (N := some 32) (mb_ 15 895) rfl rfl (one_of HT_.out (by kernel_rfl)) (by decide) (fun K hK => ?_)
           refine goes_ Try.func129 (by kernel_rfl) rfl #[.agg #[.slice A0_0 l0_0.length c0_0, .int .i64 a0_1], .slice A340_0 (rd_L2 t337 x15_1).length c340_0] (by rfl) rfl rfl (by first | rfl | (simp only [map_toArray, map_cons, map_nil]; try rfl)) ?_
           with_reducible refine (spec_paTime.calls k1 _ _ l0_0 a0_1 _ _ (rd_L2 t337 x15_1) t347 _ ?side1 ?side2 ?side3 ?side4 A26.out).mono ?_
           (case side1 => repeat (first | exact (Kd.C_below HR0_0.out HB.out) | (with_reducible refine Kd.C_alloc ?_ _) | (with_reducible refine Kd.C_drewN ?_ _) | (with_reducible refine Kd.C_drew ?_)))
           (case side2 => exact HC0_0.out)
           (case side3 => repeat (first | exact (by repeat (first | (with_reducible exact HR340_0.out) | (with_reducible refine Kd.C_alloc ?_ _) | (with_reducible refine Kd.C_drewN ?_ _) | (with_reducible refine Kd.C_drew ?_) | exact HR340_0.out)) | (with_reducible refine Kd.C_alloc ?_ _) | (with_reducible refine Kd.C_drewN ?_ _) | (with_reducible refine Kd.C_drew ?_)))
           (case side4 => exact HC340_0.out)
           rintro e w32 ⟨rfl, hb⟩
           refine ⟨_, rfl, ?_⟩
           have n0_ := ak_ (Kd.N_below (Kd.pN HO_7.out) hb)
           have n1_ := ak_ (Kd.N_below (Kd.pN HO_13.out) hb)
           have n2_ := ak_ (Kd.V_below (Kd.pV HL340_0.out) hb)
           have n3_ := ak_ (Kd.R_below (Kd.pR HO343.out) hb)
           have n4_ := ak_ (blk_below (pk BK335.out) hb)
           have n5_ := ak_ (blk_below (pk BK336.out) hb)
           have n6_ := ak_ (Kd.C_below (by repeat (first | (with_reducible exact HR340_0.out) | (with_reducible refine Kd.C_alloc ?_ _) | (with_reducible refine Kd.C_drewN ?_ _) | (with_reducible refine Kd.C_drew ?_) | exact HR340_0.out)) hb)
           have n7_ := ak_ (bs_ (by repeat (first | exact HB.out | apply ba_ | apply bN_ | apply b1_ | refine below_set ?_ (Aside0.out (by assumption)))) hb)
           clear HO_7 HO_13 HL340_0 HO343 BK335 BK336 HR340_0 HB
           have HO_7 := n0_; have HO_13 := n1_; have HL340_0 := n2_; have HO343 := n3_; have BK335 := n4_; have BK336 := n5_; have HR340_0 := n6_; have HB := n7_
           clear n0_ n1_ n2_ n3_ n4_ n5_ n6_ n7_
           (try clear hb)
           (try clear hb2)
           (try clear hk)
           (try clear hi)
           refine hK.out _ _ ⟨(blk_cell BK335.out 0).trans rfl, (blk_cell BK335.out 1).trans rfl, (blk_cell BK336.out 0).trans rfl, (blk_cell BK336.out 1).trans rfl, ((HB.out.cell (World.block_lt_of_cell? w _ hw349_0)).trans hw349_0)⟩ (fun hHeld => ?_)
           clear hK K
           refine norm_ (a' := ?_) ?_ ?_
           rotate_left
           ·
            show Act.put _ (some 32) _ = _
            simp only [Act.put, setIfInBounds_toArray, set_cons_zero, set_cons_succ, i64_w, i32_w]
            rfl
           refine pure_ (i := 7) (N := some 33) (v := ?_) (a' := ?_) (mb_ 15 1023) rfl rfl (any_of HT_.out (by kernel_rfl)) (fun _ _ _ h => h) (Or.inl ⟨by rfl, ?_⟩) ?_ ?_
           rotate_left
           ·
            intro w'
            go_simp
            with_reducible rfl
           rotate_left
           ·
            simp only [Act.put, setIfInBounds_toArray, set_cons_zero, set_cons_succ, i64_w, i32_w]
            rfl
           refine one_ (i := 10) (N := some 36) (mb_ 15 2047) rfl rfl (one_of HT_.out (by kernel_rfl)) (by decide) (fun K hK => ?_)
           refine goes_ Try.func91 (by kernel_rfl) rfl #[.agg #[.slice A2_0 l2_0.length c2_0, .bool a2_1]] (by rfl) rfl rfl (by first | rfl | (simp only [map_toArray, map_cons, map_nil]; try rfl)) ?_
           with_reducible refine (spec_seIndex.calls k1 _ _ l2_0 a2_1 t348 _ ?side1 ?side2 A27.out).mono ?_
           (case side1 => repeat (first | exact (Kd.C_below HR2_0.out HB.out) | (with_reducible refine Kd.C_alloc ?_ _) | (with_reducible refine Kd.C_drewN ?_ _) | (with_reducible refine Kd.C_drew ?_)))
           (case side2 => exact HC2_0.out)
           rintro e w33 ⟨rfl, hb⟩
           refine ⟨_, rfl, ?_⟩
           have n0_ := ak_ (Kd.N_below (Kd.pN HO_7.out) hb)
           have n1_ := ak_ (Kd.N_below (Kd.pN HO_13.out) hb)
           have n2_ := ak_ (Kd.V_below (Kd.pV HL340_0.out) hb)
           have n3_ := ak_ (Kd.R_below (Kd.pR HO343.out) hb)
           have n4_ := ak_ (blk_below (pk BK335.out) hb)
           have n5_ := ak_ (blk_below (pk BK336.out) hb)
           have n6_ := ak_ (Kd.C_below (by repeat (first | (with_reducible exact HR340_0.out) | (with_reducible refine Kd.C_alloc ?_ _) | (with_reducible refine Kd.C_drewN ?_ _) | (with_reducible refine Kd.C_drew ?_) | exact HR340_0.out)) hb)
           have n7_ := ak_ (bs_ (by repeat (first | exact HB.out | apply ba_ | apply bN_ | apply b1_ | refine below_set ?_ (Aside0.out (by assumption)))) hb)
           clear HO_7 HO_13 HL340_0 HO343 BK335 BK336 HR340_0 HB
           have HO_7 := n0_; have HO_13 := n1_; have HL340_0 := n2_; have HO343 := n3_; have BK335 := n4_; have BK336 := n5_; have HR340_0 := n6_; have HB := n7_
           clear n0_ n1_ n2_ n3_ n4_ n5_ n6_ n7_
           (try clear hb)
           (try clear hb2)
           (try clear hk)
           (try clear hi)
           refine hK.out _ _ ⟨(blk_cell BK335.out 0).trans rfl, (blk_cell BK335.out 1).trans rfl, (blk_cell BK336.out 0).trans rfl, (blk_cell BK336.out 1).trans rfl, ((HB.out.cell (World.block_lt_of_cell? w _ hw349_0)).trans hw349_0)⟩ (fun hHeld => ?_)
           clear hK K
           refine norm_ (a' := ?_) ?_ ?_
           rotate_left
           ·
            show Act.put _ (some 36) _ = _
            simp only [Act.put, setIfInBounds_toArray, set_cons_zero, set_cons_succ, i64_w, i32_w]
            rfl
           refine pure_ (i := 11) (N := some 37) (v := ?_) (a' := ?_) (mb_ 15 4095) rfl rfl (any_of HT_.out (by kernel_rfl)) (fun _ _ _ h => h) (Or.inl ⟨by rfl, ?_⟩) ?_ ?_
           rotate_left
           ·
            intro w'
            go_simp
            with_reducible rfl
           rotate_left
           ·
            simp only [Act.put, setIfInBounds_toArray, set_cons_zero, set_cons_succ, i64_w, i32_w]
            rfl
           refine take_ (i := 12) (N := some 38) (v := ?_) (a' := ?_) (mb_ 15 8191) rfl rfl (take_ofW HT_.out HW_.out (by kernel_rfl)) (fun _ _ _ h => h) (Or.inl ⟨by rfl, ?_⟩) hHeld ?_ ?_
           rotate_left
           ·
            rintro w' ⟨s0, s1, s2, s3, s4⟩
            go_simp
            with_reducible rfl
           rotate_left
           ·
            simp only [Act.put, setIfInBounds_toArray, set_cons_zero, set_cons_succ, i64_w, i32_w]
            rfl
           refine pure_ (i := 13) (N := some 39) (v := ?_) (a' := ?_) (mb_ 15 16383) rfl rfl (any_of HT_.out (by kernel_rfl)) (fun _ _ _ h => h) (Or.inl ⟨by rfl, ?_⟩) ?_ ?_
           rotate_left
           ·
            intro w'
            go_simp
            with_reducible rfl
           rotate_left
           ·
            simp only [Act.put, setIfInBounds_toArray, set_cons_zero, set_cons_succ, i64_w, i32_w]
            rfl
           refine pure_ (i := 14) (N := some 40) (v := ?_) (a' := ?_) (mb_ 15 32767) rfl rfl (any_of HT_.out (by kernel_rfl)) (fun _ _ _ h => h) (Or.inl ⟨by rfl, ?_⟩) ?_ ?_
           rotate_left
           ·
            intro w'
            go_simp
            with_reducible rfl
           rotate_left
           ·
            simp only [Act.put, setIfInBounds_toArray, set_cons_zero, set_cons_succ, i64_w, i32_w]
            rfl
           refine done_ (done_of HT_.out (by kernel_rfl)) ?_
           go_upto_if 40 with (fail)
           have H := HC30.out
           clear HC30
           by_cases c34 : (wrap64 ((rd l1 t345) + t347)) = (rd l1 t348)
           ·
            rw [if_pos c34] at H
            have c34b0 : ((wrap64 ((rd l1 t345) + t347)) == (rd l1 t348)) = true := beq_iff_eq.mpr c34
            have c34b1 : ((wrap64 ((rd l1 t345) + t347)) != (rd l1 t348)) = false := bne_eq_false_iff_eq.mpr c34
            clear c34
            (first | rw [c34b0] | (simp only [i64_w, i32_w]; rw [c34b0]) | rw [c34b1] | skip)
            by_cases c35 : x7_1.length < 5864062014805
            ·
             rw [if_pos c35] at H
             have LMc35 := ak_ c35
             clear c35
             obtain ⟨y350, hy350⟩ : ∃ y_ : List (List Int), y_ = (x7_1 ++ [rd_L2 t337 x15_1]) := ⟨_, rfl⟩
             replace H : (spec_seNext.l0 k1 l1 y350 t337 (t337.length : Int) (wrap64 (x15_1 + 1)) l0_0 a0_1 l2_0 a2_1) = some r := by first | (rw [hy350]; exact H) | exact H
             have Ny350 := ak_ hy350
             clear hy350
             have H' := ak_ H
             clear H
             go_wp2_with (first | ((with_reducible refine gate_builtin (b := .append) (xs := #[.tmp 41, .tmp 43]) rfl ?_); at_builtin; refine Kd.N_append (Kd.slice 3 (Kd.int .i64)) (w0 := w) w.heap.size rfl (.tmp 41) (.tmp 43) 47 29 (.slice none 0 0) 24 rfl Try.underlying47 info29 rfl (by decide) (by omega) u7 x7_1 (rd_L2 t337 x15_1) [.slice A340_0 (rd_L2 t337 x15_1).length c340_0] (fun k_ => (w.heap.size ≤ k_) ∧ some k_ ≠ (.slice (some ad340) t337.length co11 : Value).ownBlock ∧ some k_ ≠ (.slice Ao23 t341.length co23 : Value).ownBlock ∧ k_ ≠ gb335 ∧ k_ ≠ gb336) (fun k_ => ((fun k_ => (w.heap.size ≤ k_) ∧ some k_ ≠ (.slice (some ad340) t337.length co11 : Value).ownBlock ∧ some k_ ≠ (.slice Ao23 t341.length co23 : Value).ownBlock ∧ k_ ≠ gb335 ∧ k_ ≠ gb336)) k_ ∧ some k_ ≠ (u7 : Value).ownBlock) rfl rfl ?aP (fun _ hk => hk) ?aF ?aO ?aB ?aS ?aL ?_; (case aP => exact (Kd.FK_slice_mk (Kd.V_reads' (Kd.V_mono (ok' := (fun k_ => ((fun k_ => (w.heap.size ≤ k_) ∧ some k_ ≠ (.slice (some ad340) t337.length co11 : Value).ownBlock ∧ some k_ ≠ (.slice Ao23 t341.length co23 : Value).ownBlock ∧ k_ ≠ gb335 ∧ k_ ≠ gb336)) k_ ∧ some k_ ≠ (u7 : Value).ownBlock)) (HL340_0.out) (fun k_ hk => ⟨⟨hk.1.1.1, ⟨hk.1.2, ⟨hk.2, ⟨hk.1.1.2.2.1, hk.1.1.2.2.2⟩⟩⟩⟩, hk.1.1.2.1⟩))).2.1 (Kd.V_F (Kd.V_mono (ok' := (fun k_ => ((fun k_ => (w.heap.size ≤ k_) ∧ some k_ ≠ (.slice (some ad340) t337.length co11 : Value).ownBlock ∧ some k_ ≠ (.slice Ao23 t341.length co23 : Value).ownBlock ∧ k_ ≠ gb335 ∧ k_ ≠ gb336)) k_ ∧ some k_ ≠ (u7 : Value).ownBlock)) (HL340_0.out) (fun k_ hk => ⟨⟨hk.1.1.1, ⟨hk.1.2, ⟨hk.2, ⟨hk.1.1.2.2.1, hk.1.1.2.2.2⟩⟩⟩⟩, hk.1.1.2.1⟩))))); (case aB => exact (by repeat (first | exact HB.out | apply ba_ | apply bN_ | apply b1_ | refine below_set ?_ (Aside0.out (by assumption))))); (case aF => exact (fun k_ hk => ⟨(Nat.le_trans (bz_ (by repeat (first | exact HB.out | apply ba_ | apply bN_ | apply b1_ | refine below_set ?_ (Aside0.out (by assumption))))) hk), Kd.fresh' (Kd.N_lt (Kd.pN HO_13.out)) k_ hk, Kd.fresh' (Kd.R_lt (Kd.pR HO343.out)) k_ hk, Kd.freshB (pk BK335.out) k_ hk, Kd.freshB (pk BK336.out) k_ hk⟩)); (case aO => exact (by (with_reducible repeat (first | apply Kd.N_alloc | apply Kd.N_drewN | apply Kd.N_drew)); exact Kd.N_mono HO_7.out (fun _ hk => ⟨hk.1.1, ⟨hk.1.2.1, ⟨hk.2, ⟨hk.1.2.2.1, hk.1.2.2.2⟩⟩⟩⟩))); (case aS => exact (bz_ (by repeat (first | exact HB.out | apply ba_ | apply bN_ | apply b1_ | refine below_set ?_ (Aside0.out (by assumption)))))); (case aL => have := LMc35.out; omega); intro v351 w36 ho hb hg hat; rw [← Ny350.out] at ho; have n0_ := ak_ (Kd.N_afterv (ok := (fun k_ => (w.heap.size ≤ k_) ∧ some k_ ≠ (.slice Ao23 t341.length co23 : Value).ownBlock ∧ k_ ≠ gb335 ∧ k_ ≠ gb336)) (by (with_reducible repeat (first | apply Kd.N_alloc | apply Kd.N_drewN | apply Kd.N_drew)); exact Kd.N_mono HO_13.out (fun _ hk => ⟨⟨hk.1.1, ⟨hk.2, ⟨hk.1.2.2.1, hk.1.2.2.2⟩⟩⟩, hk.1.2.1⟩)) hg hat); have n1_ := ak_ (blk_grown (pk BK335.out) hg (Kd.N_ne HO_7.out BK335.out (by decide))); have n2_ := ak_ (blk_grown (pk BK336.out) hg (Kd.N_ne HO_7.out BK336.out (by decide))); have n3_ := ak_ (Kd.V_afterv (ok := (fun k_ => (w.heap.size ≤ k_) ∧ some k_ ≠ (.slice (some ad340) t337.length co11 : Value).ownBlock ∧ some k_ ≠ (.slice Ao23 t341.length co23 : Value).ownBlock ∧ k_ ≠ gb335 ∧ k_ ≠ gb336)) (by (with_reducible repeat (first | apply Kd.V_alloc | apply Kd.V_drewN | apply Kd.V_drew)); exact Kd.V_mono HL340_0.out (fun _ hk => ⟨⟨hk.1.1.1, ⟨hk.1.2, ⟨hk.2, ⟨hk.1.1.2.2.1, hk.1.1.2.2.2⟩⟩⟩⟩, hk.1.1.2.1⟩)) hg hat); have n4_ := ak_ (Kd.R_over' (Kd.pR HO343.out) (Kd.N_typed (Kd.pN HO_7.out)) (by decide) hg); have n5_ := ak_ (hb); have n6_ := ak_ (ho); clear HO_13; clear BK335; clear BK336; clear HL340_0; clear HO343; clear HB; clear HO_7; have HO_13 := n0_; have BK335 := n1_; have BK336 := n2_; have HL340_0 := n3_; have HO343 := n4_; have HB := n5_; have HO352 := n6_; clear n0_ n1_ n2_ n3_ n4_ n5_ n6_; clear ho hb hg hat))
             go_roundg k1
             case measure => have := HK1.out; omega
             case rel => exact ⟨(y350), (wrap64 (x15_1 + 1)), (by first | rfl | (simp; done) | (simp [*]; done)), H', ⟨by have := HK1.out; omega⟩, ⟨by (with_reducible repeat (first | apply Kd.N_alloc | apply Kd.N_drewN | apply Kd.N_drew)); exact Kd.N_mono HO352.out (fun _ hk => ⟨hk.1, ⟨hk.2.1, ⟨hk.2.2.2.1, hk.2.2.2.2⟩⟩⟩)⟩, ⟨by (with_reducible repeat (first | apply Kd.N_alloc | apply Kd.N_drewN | apply Kd.N_drew)); exact Kd.N_mono HO_13.out (fun _ hk => ⟨hk.1.1, ⟨hk.2, ⟨hk.1.2.2.1, hk.1.2.2.2⟩⟩⟩)⟩, ⟨pk BK335.out⟩, ⟨pk BK336.out⟩, ⟨by repeat (first | exact HB.out | apply ba_ | apply bN_ | apply b1_ | refine below_set ?_ (Aside0.out (by assumption)))⟩⟩
            ·
             rw [if_neg c35] at H
             exact absurd H (by simp)
           ·
            rw [if_neg c34] at H
            have c34b0 : ((wrap64 ((rd l1 t345) + t347)) == (rd l1 t348)) = false := beq_eq_false_iff_ne.mpr c34
            have c34b1 : ((wrap64 ((rd l1 t345) + t347)) != (rd l1 t348)) = true := bne_iff_ne.mpr c34
            (first | rw [c34b0] | (simp only [i64_w, i32_w]; rw [c34b0]) | rw [c34b1] | skip)
            have H' := ak_ H
            clear H
            go_wp2
            go_roundg k1
            case measure => have := HK1.out; omega
            case rel => exact ⟨(x7_1), (wrap64 (x15_1 + 1)), (by first | rfl | (simp; done) | (simp [*]; done)), H', ⟨by have := HK1.out; omega⟩, ⟨by (with_reducible repeat (first | apply Kd.N_alloc | apply Kd.N_drewN | apply Kd.N_drew)); exact Kd.N_mono HO_7.out (fun _ hk => ⟨hk.1.1, ⟨hk.1.2.1, ⟨hk.1.2.2.1, hk.1.2.2.2⟩⟩⟩)⟩, ⟨by (with_reducible repeat (first | apply Kd.N_alloc | apply Kd.N_drewN | apply Kd.N_drew)); exact Kd.N_mono HO_13.out (fun _ hk => ⟨hk.1.1, ⟨hk.1.2.1, ⟨hk.1.2.2.1, hk.1.2.2.2⟩⟩⟩)⟩, ⟨pk BK335.out⟩, ⟨pk BK336.out⟩, ⟨by repeat (first | exact HB.out | apply ba_ | apply bN_ | apply b1_ | refine below_set ?_ (Aside0.out (by assumption)))⟩⟩
          ·
           rw [if_neg c29] at H
           exact absurd H (by simp)
         ·
          rw [if_neg c28] at H
          exact absurd H (by simp)
        ·
         rw [if_neg c25] at H
         have c25b0 : decide (0 ≤ (rd l1 t345)) = false := decide_eq_false c25
         clear c25
         have H' := ak_ H
         clear H
         try go_wp2
         have n0_ := ak_ (Kd.N_drew HO_7.out)
         have n1_ := ak_ (Kd.N_drew HO_13.out)
         have n2_ := ak_ (Kd.V_drew HL340_0.out)
         have n3_ := ak_ (Kd.R_drew HO343.out)
         have n4_ := ak_ (k1_ BK335.out)
         have n5_ := ak_ (k1_ BK336.out)
         have n6_ := ak_ (Kd.C_drew HR340_0.out)
         have n7_ := ak_ (b1_ HB.out)
         clear HO_7 HO_13 HL340_0 HO343 BK335 BK336 HR340_0 HB
         have HO_7 := n0_; have HO_13 := n1_; have HL340_0 := n2_; have HO343 := n3_; have BK335 := n4_; have BK336 := n5_; have HR340_0 := n6_; have HB := n7_
         clear n0_ n1_ n2_ n3_ n4_ n5_ n6_ n7_
         refine start_ (n := 15) (S := fun w' => True) (ds := []) (mb_ 15 0) (by kernel_rfl) rfl rfl trivial (fun hHeld => ?_); refine with_tabW spec_seNext.tab6 spec_seNext.bits6 (fun HT_ HW_ => ?_)
         generalize w24.drew = w37 at HO_7 HO_13 HL340_0 HO343 BK335 BK336 HR340_0 HB hHeld ⊢
         refine pure_ (i := 0) (N := some 26) (v := ?_) (a' := ?_) (mb_ 15 1) rfl rfl (any_of HT_.out (by kernel_rfl)) (fun _ _ _ h => h) (Or.inl ⟨by rfl, ?_⟩) ?_ ?_
         rotate_left
         ·
          intro w'
          go_simp
          with_reducible rfl
         rotate_left
         ·
          simp only [Act.put, setIfInBounds_toArray, set_cons_zero, set_cons_succ, i64_w, i32_w]
          rfl
         refine pure_ (i := 1) (N := some 27) (v := ?_) (a' := ?_) (mb_ 15 3) rfl rfl (any_of HT_.out (by kernel_rfl)) (fun _ _ _ h => h) (Or.inl ⟨by rfl, ?_⟩) ?_ ?_
         rotate_left
         ·
          intro w'
          go_simp
          with_reducible rfl
         rotate_left
         ·
          simp only [Act.put, setIfInBounds_toArray, set_cons_zero, set_cons_succ, i64_w, i32_w]
          rfl
         refine pure_ (i := 2) (N := some 28) (v := ?_) (a' := ?_) (mb_ 15 7) rfl rfl (any_of HT_.out (by kernel_rfl)) (fun _ _ _ h => h) (Or.inl ⟨by rfl, ?_⟩) ?_ ?_
         rotate_left
         ·
          intro w'
          go_simp
          with_reducible rfl
         rotate_left
         ·
          simp only [Act.put, setIfInBounds_toArray, set_cons_zero, set_cons_succ, i64_w, i32_w]
          rfl
         refine pure_ (i := 3) (N := some 29) (v := undef) (a' := ?_) (mb_ 15 15) rfl rfl (any_of HT_.out (by kernel_rfl)) (fun _ _ _ h => h) (Or.inr ⟨by rfl, rfl⟩) ?_ ?_
         rotate_left
         ·
          simp only [Act.put, setIfInBounds_toArray, set_cons_zero, set_cons_succ, i64_w, i32_w]
          rfl
         refine pure_ (i := 4) (N := some 30) (v := undef) (a' := ?_) (mb_ 15 31) rfl rfl (any_of HT_.out (by kernel_rfl)) (fun _ _ _ h => h) (Or.inr ⟨by rfl, rfl⟩) ?_ ?_
         rotate_left
         ·
          simp only [Act.put, setIfInBounds_toArray, set_cons_zero, set_cons_succ, i64_w, i32_w]
          rfl
         refine pure_ (i := 5) (N := some 31) (v := undef) (a' := ?_) (mb_ 15 63) rfl rfl (any_of HT_.out (by kernel_rfl)) (fun _ _ _ h => h) (Or.inr ⟨by rfl, rfl⟩) ?_ ?_
         rotate_left
         ·
          simp only [Act.put, setIfInBounds_toArray, set_cons_zero, set_cons_succ, i64_w, i32_w]
          rfl
         refine pure_ (i := 6) (N := some 32) (v := undef) (a' := ?_) (mb_ 15 127) rfl rfl (any_of HT_.out (by kernel_rfl)) (fun _ _ _ h => h) (Or.inr ⟨by rfl, rfl⟩) ?_ ?_
         rotate_left
         ·
          simp only [Act.put, setIfInBounds_toArray, set_cons_zero, set_cons_succ, i64_w, i32_w]
          rfl
         refine pure_ (i := 7) (N := some 33) (v := undef) (a' := ?_) (mb_ 15 255) rfl rfl (any_of HT_.out (by kernel_rfl)) (fun _ _ _ h => h) (Or.inr ⟨by rfl, rfl⟩) ?_ ?_
         rotate_left
         ·
          simp only [Act.put, setIfInBounds_toArray, set_cons_zero, set_cons_succ, i64_w, i32_w]
          rfl
         refine pure_ (i := 8) (N := some 34) (v := undef) (a' := ?_) (mb_ 15 511) rfl rfl (any_of HT_.out (by kernel_rfl)) (fun _ _ _ h => h) (Or.inr ⟨by rfl, rfl⟩) ?_ ?_
         rotate_left
         ·
          simp only [Act.put, setIfInBounds_toArray, set_cons_zero, set_cons_succ, i64_w, i32_w]
          rfl
         refine pure_ (i := 9) (N := some 35) (v := undef) (a' := ?_) (mb_ 15 1023) rfl rfl (any_of HT_.out (by kernel_rfl)) (fun _ _ _ h => h) (Or.inr ⟨by rfl, rfl⟩) ?_ ?_
         rotate_left
         ·
          simp only [Act.put, setIfInBounds_toArray, set_cons_zero, set_cons_succ, i64_w, i32_w]
          rfl
         refine pure_ (i := 10) (N := some 36) (v := undef) (a' := ?_) (mb_ 15 2047) rfl rfl (any_of HT_.out (by kernel_rfl)) (fun _ _ _ h => h) (Or.inr ⟨by rfl, rfl⟩) ?_ ?_
         rotate_left
         ·
          simp only [Act.put, setIfInBounds_toArray, set_cons_zero, set_cons_succ, i64_w, i32_w]
          rfl
         refine pure_ (i := 11) (N := some 37) (v := undef) (a' := ?_) (mb_ 15 4095) rfl rfl (any_of HT_.out (by kernel_rfl)) (fun _ _ _ h => h) (Or.inr ⟨by rfl, rfl⟩) ?_ ?_
         rotate_left
         ·
          simp only [Act.put, setIfInBounds_toArray, set_cons_zero, set_cons_succ, i64_w, i32_w]
          rfl
         refine pure_ (i := 12) (N := some 38) (v := undef) (a' := ?_) (mb_ 15 8191) rfl rfl (any_of HT_.out (by kernel_rfl)) (fun _ _ _ h => h) (Or.inr ⟨by rfl, rfl⟩) ?_ ?_
         rotate_left
         ·
          simp only [Act.put, setIfInBounds_toArray, set_cons_zero, set_cons_succ, i64_w, i32_w]
          rfl
         refine pure_ (i := 13) (N := some 39) (v := undef) (a' := ?_) (mb_ 15 16383) rfl rfl (any_of HT_.out (by kernel_rfl)) (fun _ _ _ h => h) (Or.inr ⟨by rfl, rfl⟩) ?_ ?_
         rotate_left
         ·
          simp only [Act.put, setIfInBounds_toArray, set_cons_zero, set_cons_succ, i64_w, i32_w]
          rfl
         refine pure_ (i := 14) (N := some 40) (v := ?_) (a' := ?_) (mb_ 15 32767) rfl rfl (any_of HT_.out (by kernel_rfl)) (fun _ _ _ h => h) (Or.inl ⟨by rfl, ?_⟩) ?_ ?_
         rotate_left
         ·
          intro w'
          go_simp
          with_reducible rfl
         rotate_left
         ·
          simp only [Act.put, setIfInBounds_toArray, set_cons_zero, set_cons_succ, i64_w, i32_w]
          rfl
         refine done_ (done_of HT_.out (by kernel_rfl)) ?_
         try go_wp2
         go_roundg k1
         case measure => have := HK1.out; omega
         case rel => exact ⟨(x7_1), (wrap64 (x15_1 + 1)), (by first | rfl | (simp; done) | (simp [*]; done)), H', ⟨by have := HK1.out; omega⟩, ⟨by (with_reducible repeat (first | apply Kd.N_alloc | apply Kd.N_drewN | apply Kd.N_drew)); exact Kd.N_mono HO_7.out (fun _ hk => ⟨hk.1.1, ⟨hk.1.2.1, ⟨hk.1.2.2.1, hk.1.2.2.2⟩⟩⟩)⟩, ⟨by (with_reducible repeat (first | apply Kd.N_alloc | apply Kd.N_drewN | apply Kd.N_drew)); exact Kd.N_mono HO_13.out (fun _ hk => ⟨hk.1.1, ⟨hk.1.2.1, ⟨hk.1.2.2.1, hk.1.2.2.2⟩⟩⟩)⟩, ⟨pk BK335.out⟩, ⟨pk BK336.out⟩, ⟨by repeat (first | exact HB.out | apply ba_ | apply bN_ | apply b1_ | refine below_set ?_ (Aside0.out (by assumption)))⟩⟩
       ·
        rw [if_neg c18] at H
        exact absurd H (by simp)
      ·
       rw [if_neg c17] at H
       exact absurd H (by simp)
     ·
      rw [if_neg c14] at H
      exact absurd H (by simp)
    ·
     rw [if_neg c13] at H
     exact absurd H (by simp)
   ·
    rw [if_neg c12] at H
    have c12b0 : decide (x15_1 < (t337.length : Int)) = false := decide_eq_false c12
    clear c12
    obtain rfl := Option.some.inj H
    go_wp2
    go_ret
    exact ⟨_, by first | rfl | (simp [errW_none, errW_some] <;> rfl) | (simp [*, errW_none, errW_some] <;> rfl), by (with_reducible repeat (first | apply Kd.N_alloc | apply Kd.N_drewN | apply Kd.N_drew)); exact Kd.N_mono HO_7.out (fun _ hk => hk.1), by repeat (first | exact HB.out | apply ba_ | apply bN_ | apply b1_ | refine below_set ?_ (Aside0.out (by assumption)))⟩
end Go.Proofs.Ythkchdfkeieabaa.QGr
