/- Contracts of functions of the given program, walked. Conditions: those at each theorem. -/
import Derived.Test.YtmdbhpbogbekmaaQNtx0
import Derived.Test.YtmdbhpbogbekmaaQNtx1
namespace Go.Proofs.Ytmdbhpbogbekmaa.QNt
open Go.RowKit Go.Proofs.YtmdbhpbogbekmaaW.PrintWords Go.Proofs.YtmdbhpbogbekmaaW.PrintLast Go.Proofs.YtmdbhpbogbekmaaW.PrintMore
open List (setIfInBounds_toArray set_cons_zero set_cons_succ map_toArray map_cons map_nil)
attribute [local go_sem] max2_int min2_int max_two min_two max_three min_three max_four min_four
set_option linter.unusedVariables false
set_option maxHeartbeats 8000000
set_option maxRecDepth 100000
set_option linter.unusedSimpArgs false
mutual
def spec_toCan.l0 : Nat → List (List Int) → Int → Int → List (List Int) → Int → Int → List Bool → Int → Option (Bool)
 | 0, _, _, _, _, _, _, _, _ => none
 | k + 1, x2, x7, x8, x24, x25, x26, x179000, x179001 => if x26 < x25 then (if 0 ≤ x26 then (if x26 < (x24.length : Int) then (if x26 > 0 then (if 0 ≤ (wrap64 (x26 - 1)) then (if (wrap64 (x26 - 1)) < (x2.length : Int) then ((spec_cuBefore.f k (rd_L1 x2 (wrap64 (x26 - 1))) (rd_L1 x24 x26)).bind fun t182 => (spec_toCan.j1 k x2 x7 x8 (rd_L1 x24 x26) x24 x25 x26 (!t182) x179000 x179001)) else (none)) else (none)) else (spec_toCan.j1 k x2 x7 x8 (rd_L1 x24 x26) x24 x25 x26 false x179000 x179001)) else (none)) else (none)) else (if x7 ≥ 0 then (some (decide (x8 ≥ 0))) else (some false))
def spec_toCan.j1 : Nat → List (List Int) → Int → Int → List Int → List (List Int) → Int → Int → Bool → List Bool → Int → Option (Bool)
 | 0, _, _, _, _, _, _, _, _, _, _ => none
 | k + 1, x2, x7, x8, x10, x24, x25, x26, x42, x179000, x179001 => if x42 = true then (some false) else (spec_toCan.l1 k x2 x7 x8 x10 x24 x25 x26 x10 (x10.length : Int) 0 x179000 x179001)
def spec_toCan.l1 : Nat → List (List Int) → Int → Int → List Int → List (List Int) → Int → Int → List Int → Int → Int → List Bool → Int → Option (Bool)
 | 0, _, _, _, _, _, _, _, _, _, _, _, _ => none
 | k + 1, x2, x7, x8, x10, x24, x25, x26, x43, x44, x45, x179000, x179001 => if x45 < x44 then (if 0 ≤ x45 then (if x45 < (x43.length : Int) then (if 0 ≤ (rd x43 x45) then (if (rd x43 x45) < (x179000.length : Int) then (if 0 < (x10.length : Int) then (if 0 ≤ (rd x10 0) then (if (rd x10 0) < (x179000.length : Int) then (if ((rdOf false x179000 (rd x43 x45)) != (rdOf false x179000 (rd x10 0))) = true then (some false) else (spec_toCan.l1 k x2 x7 x8 x10 x24 x25 x26 x43 x44 (wrap64 (x45 + 1)) x179000 x179001)) else (none)) else (none)) else (none)) else (none)) else (none)) else (none)) else (none)) else (if 0 < (x10.length : Int) then (if 0 ≤ (rd x10 0) then (if (rd x10 0) < (x179000.length : Int) then (if rdOf false x179000 (rd x10 0) = true then (spec_toCan.l0 k x2 x7 (wrap64 (x8 - 1)) x24 x25 (wrap64 (x26 + 1)) x179000 x179001) else (spec_toCan.l0 k x2 (wrap64 (x7 - 1)) x8 x24 x25 (wrap64 (x26 + 1)) x179000 x179001)) else (none)) else (none)) else (none))
end
def spec_toCan.f (k : Nat) (l0_0 : List Int) (a0_1 : Int) (a0_2 : Int) (l1_0 : List Bool) (a1_1 : Int) (l2 : List (List Int)) : Option (Bool) := (spec_toGroups.f k l0_0 a0_1 a0_2 l2).bind fun t179 => (if t179 = true then (spec_toCan.l0 k l2 (wrap64 (a0_2 - a1_1)) a1_1 l2 (l2.length : Int) 0 l1_0 a1_1) else (some false))
theorem spec_toCan.mono_l : ∀ k, (∀ y0 y1 y2 y3 y4 y5 y6 y7, LeO (spec_toCan.l0 k y0 y1 y2 y3 y4 y5 y6 y7) (spec_toCan.l0 (k + 1) y0 y1 y2 y3 y4 y5 y6 y7)) ∧ (∀ y0 y1 y2 y3 y4 y5 y6 y7 y8 y9, LeO (spec_toCan.j1 k y0 y1 y2 y3 y4 y5 y6 y7 y8 y9) (spec_toCan.j1 (k + 1) y0 y1 y2 y3 y4 y5 y6 y7 y8 y9)) ∧ (∀ y0 y1 y2 y3 y4 y5 y6 y7 y8 y9 y10 y11, LeO (spec_toCan.l1 k y0 y1 y2 y3 y4 y5 y6 y7 y8 y9 y10 y11) (spec_toCan.l1 (k + 1) y0 y1 y2 y3 y4 y5 y6 y7 y8 y9 y10 y11))
 | 0 => ⟨fun _ _ _ _ _ _ _ _ r h => by simp [spec_toCan.l0] at h, fun _ _ _ _ _ _ _ _ _ _ r h => by simp [spec_toCan.j1] at h, fun _ _ _ _ _ _ _ _ _ _ _ _ r h => by simp [spec_toCan.l1] at h⟩
 | k + 1 => by
  obtain ⟨ih0, ih1, ih2⟩ := spec_toCan.mono_l k
  refine ⟨?_, ?_, ?_⟩
  ·intro y0 y1 y2 y3 y4 y5 y6 y7
   unfold spec_toCan.l0
   repeat' first
   | (with_reducible first | exact ih0 _ _ _ _ _ _ _ _ | exact ih1 _ _ _ _ _ _ _ _ _ _ | exact ih2 _ _ _ _ _ _ _ _ _ _ _ _ | exact spec_cuBefore.mono _ _ _ | exact spec_toGroups.mono _ _ _ _ _ | exact LeO.refl _ | exact LeO.none _ | refine LeO.ite ?_ ?_ | refine LeO.bind ?_ (fun _ => ?_))
  ·intro y0 y1 y2 y3 y4 y5 y6 y7 y8 y9
   unfold spec_toCan.j1
   repeat' first
   | (with_reducible first | exact ih0 _ _ _ _ _ _ _ _ | exact ih1 _ _ _ _ _ _ _ _ _ _ | exact ih2 _ _ _ _ _ _ _ _ _ _ _ _ | exact spec_cuBefore.mono _ _ _ | exact spec_toGroups.mono _ _ _ _ _ | exact LeO.refl _ | exact LeO.none _ | refine LeO.ite ?_ ?_ | refine LeO.bind ?_ (fun _ => ?_))
  ·intro y0 y1 y2 y3 y4 y5 y6 y7 y8 y9 y10 y11
   unfold spec_toCan.l1
   repeat' first
   | (with_reducible first | exact ih0 _ _ _ _ _ _ _ _ | exact ih1 _ _ _ _ _ _ _ _ _ _ | exact ih2 _ _ _ _ _ _ _ _ _ _ _ _ | exact spec_cuBefore.mono _ _ _ | exact spec_toGroups.mono _ _ _ _ _ | exact LeO.refl _ | exact LeO.none _ | refine LeO.ite ?_ ?_ | refine LeO.bind ?_ (fun _ => ?_))
theorem spec_toCan.mono : ∀ a0 a1 a2 a3 a4 a5 k, LeO (spec_toCan.f k a0 a1 a2 a3 a4 a5) (spec_toCan.f (k + 1) a0 a1 a2 a3 a4 a5) := by
 intro a0 a1 a2 a3 a4 a5 k
 obtain ⟨ih0, ih1, ih2⟩ := spec_toCan.mono_l k
 unfold spec_toCan.f
 repeat' first
  | (with_reducible first | exact ih0 _ _ _ _ _ _ _ _ | exact ih1 _ _ _ _ _ _ _ _ _ _ | exact ih2 _ _ _ _ _ _ _ _ _ _ _ _ | exact spec_cuBefore.mono _ _ _ | exact spec_toGroups.mono _ _ _ _ _ | exact LeO.refl _ | exact LeO.none _ | refine LeO.ite ?_ ?_ | refine LeO.bind ?_ (fun _ => ?_))
theorem spec_toCan.calls (k : Nat) (A0_0 : Option Addr) (c0_0 : Nat) (l0_0 : List Int) (a0_1 : Int) (a0_2 : Int) (A1_0 : Option Addr) (c1_0 : Nat) (l1_0 : List Bool) (a1_1 : Int) (A2 : Option Addr) (c2 : Nat) (l2 : List (List Int)) (r : Bool) (w : World) (hr0_0 : Kd.C (Kd.int .i64) w A0_0 l0_0.length l0_0) (hc0_0 : l0_0.length ≤ c0_0) (hr1_0 : Kd.C Kd.bool w A1_0 l1_0.length l1_0) (hc1_0 : l1_0.length ≤ c1_0) (hr2 : Kd.C (Kd.slice 3 (Kd.int .i64)) w A2 l2.length l2) (hc2 : l2.length ≤ c2) (h : spec_toCan.f k l0_0 a0_1 a0_2 l1_0 a1_1 l2 = some r) :
  Calls Try.prog 67 #[.agg #[.slice A0_0 l0_0.length c0_0, .int .i64 a0_1, .int .i64 a0_2], .agg #[.slice A1_0 l1_0.length c1_0, .int .i64 a1_1], .slice A2 l2.length c2] w fun e w' => e = .returned (.bool r) ∧ Below w.heap.size w w' := by
 have hu33 := Try.underlying33
 have hu35 := Try.underlying35
 have HR0_0 := ak_ hr0_0
 have HC0_0 := ak_ hc0_0
 clear hr0_0 hc0_0
 have HR1_0 := ak_ hr1_0
 have HC1_0 := ak_ hc1_0
 clear hr1_0 hc1_0
 have HR2 := ak_ hr2
 have HC2 := ak_ hc2
 clear hr2 hc2
 have HB := ak_ (Below.refl w.heap.size w)
 have H : ((spec_toGroups.f k l0_0 a0_1 a0_2 l2).bind fun t179 => (if t179 = true then (spec_toCan.l0 k l2 (wrap64 (a0_2 - a1_1)) a1_1 l2 (l2.length : Int) 0 l1_0 a1_1) else (some false))) = some r := h
 clear h
 replace H := Option.bind_eq_some_iff.mp H
 obtain ⟨t179, A40, H⟩ := H
 replace H : (if t179 = true then (spec_toCan.l0 k l2 (wrap64 (a0_2 - a1_1)) a1_1 l2 (l2.length : Int) 0 l1_0 a1_1) else (some false)) = some r := H
 have A4 := ak_ A40
 clear A40
 have HC5 := ak_ H
 clear H
 go_enter Try.func67, Try.ntmps67
 go_upto_if 16 with (first | ((with_reducible refine gate_dst (N := 3) rfl ?_); refine bx_ 3 #[.slice A0_0 l0_0.length c0_0, .int .i64 a0_1, .int .i64 a0_2] 33 ?_; intro gb177 hg w6 hbox hb; have BK177 := ak_ (hbox); have GW177 := ak_ ((by rw [hg]; exact (bz_ (bb_ HB.out)) : w.heap.size ≤ gb177)); replace HB := ak_ (bs_ (bb_ HB.out) hb); have GE177 := GW177; clear hb hbox hg) | ((with_reducible refine gate_dst (N := 4) rfl ?_); refine bx_ 4 #[.slice A1_0 l1_0.length c1_0, .int .i64 a1_1] 35 ?_; intro gb178 hg w7 hbox hb; have BK178 := ak_ (hbox); have GW178 := ak_ ((by rw [hg]; exact (bz_ bl_) : w.heap.size ≤ gb178)); replace HB := ak_ (bs_ bl_ hb); have GE178 := GW178; have NB177_178 := ak_ ((by rw [hg]; exact Nat.ne_of_lt (blk_lt (pk BK177.out)) : gb177 ≠ gb178)); replace BK177 := ak_ (blk_below (pk BK177.out) hb); have NB178_177 := ak_ NB177_178.out.symm; clear hb hbox hg; have hnb8 := NB177_178.out; have hnc8 := NB178_177.out; obtain ⟨hcz9_0, hcz9_1, hcz9_2, hfz9_0, hfz9_1, hfz9_2⟩ := c3_ BK177.out) | (go_at_call 85; (with_reducible refine (spec_toGroups.calls k _ _ l0_0 a0_1 a0_2 _ _ l2 t179 _ ?side1 ?side2 ?side3 ?side4 A4.out).mono ?_); (case side1 => exact cs_ (Kd.C_below HR0_0.out HB.out)); (case side2 => exact HC0_0.out); (case side3 => exact cs_ (Kd.C_below HR2.out HB.out)); (case side4 => exact HC2.out); rintro e w10 ⟨rfl, hb⟩; replace BK177 := ak_ (blk_below (pk BK177.out) hb); replace BK178 := ak_ (blk_below (pk BK178.out) hb); replace HB := ak_ (bs_ bl_ hb); (try clear hb); (try clear hb2); (try clear hk); (try clear hi)))
 repeat (go_quiet (first | ((with_reducible refine gate_dst (N := 3) rfl ?_); refine bx_ 3 #[.slice A0_0 l0_0.length c0_0, .int .i64 a0_1, .int .i64 a0_2] 33 ?_; intro gb177 hg w6 hbox hb; have BK177 := ak_ (hbox); have GW177 := ak_ ((by rw [hg]; exact (bz_ (bb_ HB.out)) : w.heap.size ≤ gb177)); replace HB := ak_ (bs_ (bb_ HB.out) hb); have GE177 := GW177; clear hb hbox hg) | ((with_reducible refine gate_dst (N := 4) rfl ?_); refine bx_ 4 #[.slice A1_0 l1_0.length c1_0, .int .i64 a1_1] 35 ?_; intro gb178 hg w7 hbox hb; have BK178 := ak_ (hbox); have GW178 := ak_ ((by rw [hg]; exact (bz_ bl_) : w.heap.size ≤ gb178)); replace HB := ak_ (bs_ bl_ hb); have GE178 := GW178; have NB177_178 := ak_ ((by rw [hg]; exact Nat.ne_of_lt (blk_lt (pk BK177.out)) : gb177 ≠ gb178)); replace BK177 := ak_ (blk_below (pk BK177.out) hb); have NB178_177 := ak_ NB177_178.out.symm; clear hb hbox hg; have hnb8 := NB177_178.out; have hnc8 := NB178_177.out; obtain ⟨hcz9_0, hcz9_1, hcz9_2, hfz9_0, hfz9_1, hfz9_2⟩ := c3_ BK177.out) | (go_at_call 85; (with_reducible refine (spec_toGroups.calls k _ _ l0_0 a0_1 a0_2 _ _ l2 t179 _ ?side1 ?side2 ?side3 ?side4 A4.out).mono ?_); (case side1 => exact cs_ (Kd.C_below HR0_0.out HB.out)); (case side2 => exact HC0_0.out); (case side3 => exact cs_ (Kd.C_below HR2.out HB.out)); (case side4 => exact HC2.out); rintro e w10 ⟨rfl, hb⟩; replace BK177 := ak_ (blk_below (pk BK177.out) hb); replace BK178 := ak_ (blk_below (pk BK178.out) hb); replace HB := ak_ (bs_ bl_ hb); (try clear hb); (try clear hb2); (try clear hk); (try clear hi))); go_upto_if 16 with (first | ((with_reducible refine gate_dst (N := 3) rfl ?_); refine bx_ 3 #[.slice A0_0 l0_0.length c0_0, .int .i64 a0_1, .int .i64 a0_2] 33 ?_; intro gb177 hg w6 hbox hb; have BK177 := ak_ (hbox); have GW177 := ak_ ((by rw [hg]; exact (bz_ (bb_ HB.out)) : w.heap.size ≤ gb177)); replace HB := ak_ (bs_ (bb_ HB.out) hb); have GE177 := GW177; clear hb hbox hg) | ((with_reducible refine gate_dst (N := 4) rfl ?_); refine bx_ 4 #[.slice A1_0 l1_0.length c1_0, .int .i64 a1_1] 35 ?_; intro gb178 hg w7 hbox hb; have BK178 := ak_ (hbox); have GW178 := ak_ ((by rw [hg]; exact (bz_ bl_) : w.heap.size ≤ gb178)); replace HB := ak_ (bs_ bl_ hb); have GE178 := GW178; have NB177_178 := ak_ ((by rw [hg]; exact Nat.ne_of_lt (blk_lt (pk BK177.out)) : gb177 ≠ gb178)); replace BK177 := ak_ (blk_below (pk BK177.out) hb); have NB178_177 := ak_ NB177_178.out.symm; clear hb hbox hg; have hnb8 := NB177_178.out; have hnc8 := NB178_177.out; obtain ⟨hcz9_0, hcz9_1, hcz9_2, hfz9_0, hfz9_1, hfz9_2⟩ := c3_ BK177.out) | (go_at_call 85; (with_reducible refine (spec_toGroups.calls k _ _ l0_0 a0_1 a0_2 _ _ l2 t179 _ ?side1 ?side2 ?side3 ?side4 A4.out).mono ?_); (case side1 => exact cs_ (Kd.C_below HR0_0.out HB.out)); (case side2 => exact HC0_0.out); (case side3 => exact cs_ (Kd.C_below HR2.out HB.out)); (case side4 => exact HC2.out); rintro e w10 ⟨rfl, hb⟩; replace BK177 := ak_ (blk_below (pk BK177.out) hb); replace BK178 := ak_ (blk_below (pk BK178.out) hb); replace HB := ak_ (bs_ bl_ hb); (try clear hb); (try clear hb2); (try clear hk); (try clear hi))))
 (try simp only [Act.put, setIfInBounds_toArray, set_cons_zero, set_cons_succ])
 have H := HC5.out
 clear HC5
 by_cases c11 : t179 = true
 ·
  subst c11
  have H1 : (spec_toCan.l0 k l2 (wrap64 (a0_2 - a1_1)) a1_1 l2 (l2.length : Int) 0 l1_0 a1_1) = some r := by rw [if_pos rfl] at H; exact H
  clear H
  have H := H1
  clear H1
  have H' := ak_ H
  clear H
  have hnb12 := NB177_178.out
  have hnc12 := NB178_177.out
  obtain ⟨hcz13_0, hcz13_1, hcz13_2, hfz13_0, hfz13_1, hfz13_2⟩ := c3_ BK177.out
  obtain ⟨hcz14_0, hcz14_1, hfz14_0, hfz14_1⟩ := c2_ BK178.out
  go_wp2
  repeat (go_quiet (fail); try go_wp2)
  go_loopg [7, 8, 26] k (fun kq v7 v8 v26 w' => ∃ (x7_1 : Int) (x8_1 : Int) (x26_1 : Int), v7 = .int .i64 x7_1 ∧ v8 = .int .i64 x8_1 ∧ v26 = .int .i64 x26_1 ∧ Aside0 (spec_toCan.l0 kq l2 x7_1 x8_1 l2 (l2.length : Int) x26_1 l1_0 a1_1 = some r) ∧ Aside0 (kq ≤ k) ∧ Aside0 (w'.heap[gb177]? = some (.cells #[(.slice A0_0 l0_0.length c0_0), .int .i64 a0_1, .int .i64 a0_2] 33 (0, 0))) ∧ Aside0 (w'.heap[gb178]? = some (.cells #[(.slice A1_0 l1_0.length c1_0), .int .i64 a1_1] 35 (0, 0))) ∧ Aside0 (Below w.heap.size w w'))
  case atStart => exact ⟨(wrap64 (a0_2 - a1_1)), (a1_1), (0), (ry_), (ry_), (ry_), H', ⟨Nat.le_refl _⟩, ⟨pk BK177.out⟩, ⟨pk BK178.out⟩, ⟨bl_⟩⟩
  case round =>
   clear H'
   try clear c1
   try clear c2
   try clear p2
   try clear c6
   try clear p6
   try clear c8
   try clear c11
   try clear c12
   try clear hcz13_0
   try clear hcz13_1
   try clear hcz13_2
   try clear hcz14_0
   try clear hcz14_1
   try clear hcz9_0
   try clear hcz9_1
   try clear hcz9_2
   try clear hfz13_0
   try clear hfz13_1
   try clear hfz13_2
   try clear hfz14_0
   try clear hfz14_1
   try clear hfz9_0
   try clear hfz9_1
   try clear hfz9_2
   obtain ⟨x7_1, x8_1, x26_1, rfl, rfl, rfl, HA, HK1, BK177, BK178, HB⟩ := hrel
   cases gk with
   | zero => exact absurd HA.out (by simp [spec_toCan.l0])
   | succ k1 =>
    have H := HA.out
    clear HA
    simp only [spec_toCan.l0] at H
    by_cases c15 : x26_1 < (l2.length : Int)
    ·
     rw [if_pos c15] at H
     have c15b0 := decide_eq_true c15
     clear c15
     (first | rw [c15b0] | (simp only [i64_w, i32_w]; rw [c15b0]) | rw [c15b1] | skip)
     by_cases c16 : 0 ≤ x26_1
     ·
      rw [if_pos c16] at H
      have c16b0 := decide_eq_true c16
      clear c16
      by_cases c17 : x26_1 < (l2.length : Int)
      ·
       rw [if_pos c17] at H
       have c17b0 := decide_eq_true c17
       clear c17
       have HC18 := ak_ H
       clear H
       have p180 : 0 ≤ (x26_1 : Int) := od_
       have q180 : x26_1 < (l2.length : Int) := od_
       obtain ⟨ad180, A180_0, c180_0, e180, hx180_0, hl180_0, hi180_0⟩ := at_L1 HR2.out x26_1 p180 q180
       cases e180
       try replace hx180_0 := (HB.out.cell (World.block_lt_of_cell? w _ hx180_0)).trans hx180_0
       have HR180_0 := ak_ hi180_0
       have HC180_0 := ak_ hl180_0
       clear hi180_0 hl180_0
       replace p180 := eq_true p180
       replace q180 := eq_true q180
       go_upto_region 7 with (fail)
       repeat (go_quiet (fail); go_upto_region 7 with (fail))
       go_cut [42] (fun v42 wc => ∃ (kq : Nat) (x42_17 : Bool), v42 = .bool x42_17 ∧ Aside0 (spec_toCan.j1 kq l2 x7_1 x8_1 (rd_L1 l2 x26_1) l2 (l2.length : Int) x26_1 x42_17 l1_0 a1_1 = some r) ∧ Aside0 (kq ≤ k1) ∧ Aside0 (wc.heap[gb177]? = some (.cells #[(.slice A0_0 l0_0.length c0_0), .int .i64 a0_1, .int .i64 a0_2] 33 (0, 0))) ∧ Aside0 (wc.heap[gb178]? = some (.cells #[(.slice A1_0 l1_0.length c1_0), .int .i64 a1_1] 35 (0, 0))) ∧ Aside0 (Below w.heap.size w wc))
       case first =>
        have H := HC18.out
        clear HC18
        by_cases c19 : x26_1 > 0
        ·
         rw [if_pos c19] at H
         have c19b0 : decide (0 < x26_1) = true := decide_eq_true c19
         clear c19
         (first | rw [c19b0] | (simp only [i64_w, i32_w]; rw [c19b0]) | rw [c19b1] | skip)
         obtain ⟨ji20, hji20⟩ : ∃ j_ : Int, (wrap64 (x26_1 - 1)) = j_ := ⟨_, rfl⟩
         replace H : (if 0 ≤ (ji20) then (if (ji20) < (l2.length : Int) then ((spec_cuBefore.f k1 (rd_L1 l2 (ji20)) (rd_L1 l2 x26_1)).bind fun t182 => (spec_toCan.j1 k1 l2 x7_1 x8_1 (rd_L1 l2 x26_1) l2 (l2.length : Int) x26_1 (!t182) l1_0 a1_1)) else (none)) else (none)) = some r := by first | (rw [hji20] at H; exact H) | (simp only [hji20] at H ⊢; exact H)
         have hji20w : (IntKind.i64.wrap (x26_1 - 1)) = ji20 := (i64_w _).trans hji20
         by_cases c21 : 0 ≤ (ji20)
         ·
          rw [if_pos c21] at H
          have c21b0 := decide_eq_true c21
          clear c21
          by_cases c22 : (ji20) < (l2.length : Int)
          ·
           rw [if_pos c22] at H
           have c22b0 := decide_eq_true c22
           clear c22
           replace H := Option.bind_eq_some_iff.mp H
           obtain ⟨t182, A230, H⟩ := H
           replace H : (spec_toCan.j1 k1 l2 x7_1 x8_1 (rd_L1 l2 x26_1) l2 (l2.length : Int) x26_1 (!t182) l1_0 a1_1) = some r := H
           have A23 := ak_ A230
           clear A230
           have H' := ak_ H
           clear H
           have p181 : 0 ≤ ((ji20) : Int) := od_
           have q181 : (ji20) < (l2.length : Int) := od_
           obtain ⟨ad181, A181_0, c181_0, e181, hx181_0, hl181_0, hi181_0⟩ := at_L1 HR2.out (ji20) p181 q181
           obtain rfl : ad180 = ad181 := (by injection e181)
           try replace hx181_0 := (HB.out.cell (World.block_lt_of_cell? w _ hx181_0)).trans hx181_0
           have HR181_0 := ak_ hi181_0
           have HC181_0 := ak_ hl181_0
           clear hi181_0 hl181_0
           replace p181 := eq_true p181
           replace q181 := eq_true q181
           go_wp2_with (first | (go_at_call 86; (with_reducible refine (spec_cuBefore.calls k1 _ _ (rd_L1 l2 (ji20)) _ _ (rd_L1 l2 x26_1) t182 _ ?side1 ?side2 ?side3 ?side4 A23.out).mono ?_); (case side1 => exact cs_ (Kd.C_below HR181_0.out HB.out)); (case side2 => exact HC181_0.out); (case side3 => exact cs_ (Kd.C_below HR180_0.out HB.out)); (case side4 => exact HC180_0.out); rintro e w' ⟨rfl, ⟨nd, rfl⟩⟩; (try first | exact ⟨rfl, _, World.drewN_drewN _ _ _⟩ | exact ⟨rfl, _, Eq.trans (World.drewN_drewN _ _ _) (congrArg (World.drewN _) (Nat.add_assoc _ _ _))⟩)))
           repeat (go_quiet (first | (go_at_call 86; (with_reducible refine (spec_cuBefore.calls k1 _ _ (rd_L1 l2 (ji20)) _ _ (rd_L1 l2 x26_1) t182 _ ?side1 ?side2 ?side3 ?side4 A23.out).mono ?_); (case side1 => exact cs_ (Kd.C_below HR181_0.out HB.out)); (case side2 => exact HC181_0.out); (case side3 => exact cs_ (Kd.C_below HR180_0.out HB.out)); (case side4 => exact HC180_0.out); rintro e w' ⟨rfl, ⟨nd, rfl⟩⟩; (try first | exact ⟨rfl, _, World.drewN_drewN _ _ _⟩ | exact ⟨rfl, _, Eq.trans (World.drewN_drewN _ _ _) (congrArg (World.drewN _) (Nat.add_assoc _ _ _))⟩))); try go_wp2_with (first | (go_at_call 86; (with_reducible refine (spec_cuBefore.calls k1 _ _ (rd_L1 l2 (ji20)) _ _ (rd_L1 l2 x26_1) t182 _ ?side1 ?side2 ?side3 ?side4 A23.out).mono ?_); (case side1 => exact cs_ (Kd.C_below HR181_0.out HB.out)); (case side2 => exact HC181_0.out); (case side3 => exact cs_ (Kd.C_below HR180_0.out HB.out)); (case side4 => exact HC180_0.out); rintro e w' ⟨rfl, ⟨nd, rfl⟩⟩; (try first | exact ⟨rfl, _, World.drewN_drewN _ _ _⟩ | exact ⟨rfl, _, Eq.trans (World.drewN_drewN _ _ _) (congrArg (World.drewN _) (Nat.add_assoc _ _ _))⟩))))
           go_meet
           case rel => exact ⟨_, (!t182), (ry_), H', ⟨by have := HK1.out; first | omega | exact Nat.le_refl _⟩, ⟨pk BK177.out⟩, ⟨pk BK178.out⟩, ⟨bl_⟩⟩
          ·
           rw [if_neg c22] at H
           exact absurd H (by simp)
         ·
          rw [if_neg c21] at H
          exact absurd H (by simp)
        ·
         rw [if_neg c19] at H
         have c19b0 : decide (0 < x26_1) = false := decide_eq_false c19
         clear c19
         (first | rw [c19b0] | (simp only [i64_w, i32_w]; rw [c19b0]) | rw [c19b1] | skip)
         have H' := ak_ H
         clear H
         go_wp2
         repeat (go_quiet (fail); try go_wp2)
         go_meet
         case rel => exact ⟨_, (false), (ry_), H', ⟨by have := HK1.out; first | omega | exact Nat.le_refl _⟩, ⟨pk BK177.out⟩, ⟨pk BK178.out⟩, ⟨bl_⟩⟩
       case rest =>
        clear HC18
        try clear c1
        try clear p1
        try clear q1
        try clear hx1
        try clear c2
        try clear p2
        try clear c6
        try clear p6
        try clear c8
        try clear c11
        try clear c12
        try clear c15
        try clear c15b0
        try clear c16
        try clear c16b0
        try clear c17
        try clear c17b0
        try clear c18
        try clear p18
        try clear q18
        try clear hx18
        try clear c19
        try clear c19b0
        try clear c21
        try clear c21b0
        try clear c22
        try clear c22b0
        try clear hcz13_0
        try clear hcz13_1
        try clear hcz13_2
        try clear hcz14_0
        try clear hcz14_1
        try clear hcz9_0
        try clear hcz9_1
        try clear hcz9_2
        try clear hfz13_0
        try clear hfz13_1
        try clear hfz13_2
        try clear hfz14_0
        try clear hfz14_1
        try clear hfz9_0
        try clear hfz9_1
        try clear hfz9_2
        try clear hx180_0
        try clear hx181_0
        try clear p180
        try clear p181
        try clear p2
        try clear p6
        try clear q180
        try clear q181
        obtain ⟨kq, x42_17, rfl, HA, HJ17, BK177, BK178, HB⟩ := hcut
        cases kq with
        | zero => exact absurd HA.out (by simp [spec_toCan.j1])
        | succ kj17 =>
         have H := HA.out
         clear HA
         simp only [spec_toCan.j1] at H
         by_cases c24 : x42_17 = true
         ·
          subst c24
          have H1 : (some false) = some r := by rw [if_pos rfl] at H; exact H
          clear H
          have H := H1
          clear H1
          obtain rfl := Option.some.inj H
          go_wp2
          repeat (go_quiet (fail); try go_wp2)
          go_ret
          exact ⟨rx_, bl_⟩
         ·
          replace c24 := Bool.eq_false_iff.mpr c24
          subst c24
          have H1 : (spec_toCan.l1 kj17 l2 x7_1 x8_1 (rd_L1 l2 x26_1) l2 (l2.length : Int) x26_1 (rd_L1 l2 x26_1) ((rd_L1 l2 x26_1).length : Int) 0 l1_0 a1_1) = some r := by rw [if_neg (show ¬ (false = true) by decide)] at H; exact H
          clear H
          have H := H1
          clear H1
          have H' := ak_ H
          clear H
          go_wp2
          repeat (go_quiet (fail); try go_wp2)
          go_loopg [45] kj17 (fun kq v45 w' => ∃ (x45_3 : Int), v45 = .int .i64 x45_3 ∧ Aside0 (spec_toCan.l1 kq l2 x7_1 x8_1 (rd_L1 l2 x26_1) l2 (l2.length : Int) x26_1 (rd_L1 l2 x26_1) ((rd_L1 l2 x26_1).length : Int) x45_3 l1_0 a1_1 = some r) ∧ Aside0 (kq ≤ kj17) ∧ Aside0 (w'.heap[gb177]? = some (.cells #[(.slice A0_0 l0_0.length c0_0), .int .i64 a0_1, .int .i64 a0_2] 33 (0, 0))) ∧ Aside0 (w'.heap[gb178]? = some (.cells #[(.slice A1_0 l1_0.length c1_0), .int .i64 a1_1] 35 (0, 0))) ∧ Aside0 (Below w.heap.size w w'))
          case atStart => exact ⟨(0), (ry_), H', ⟨Nat.le_refl _⟩, ⟨pk BK177.out⟩, ⟨pk BK178.out⟩, ⟨bl_⟩⟩
          case round =>
           clear H'
           try clear c1
           try clear p1
           try clear q1
           try clear hx1
           try clear c2
           try clear p2
           try clear c6
           try clear p6
           try clear c8
           try clear c11
           try clear c12
           try clear c15
           try clear c15b0
           try clear c16
           try clear c16b0
           try clear c17
           try clear c17b0
           try clear c18
           try clear p18
           try clear q18
           try clear hx18
           try clear c19
           try clear c19b0
           try clear c21
           try clear c21b0
           try clear c22
           try clear c22b0
           try clear c24
           try clear hcz13_0
           try clear hcz13_1
           try clear hcz13_2
           try clear hcz14_0
           try clear hcz14_1
           try clear hcz9_0
           try clear hcz9_1
           try clear hcz9_2
           try clear hfz13_0
           try clear hfz13_1
           try clear hfz13_2
           try clear hfz14_0
           try clear hfz14_1
           try clear hfz9_0
           try clear hfz9_1
           try clear hfz9_2
           try clear hx180_0
           try clear hx181_0
           try clear p1
           try clear p18
           try clear p180
           try clear p181
           try clear p2
           try clear p6
           try clear q1
           try clear q18
           try clear q180
           try clear q181
           obtain ⟨x45_3, rfl, HA, HK3, BK177, BK178, HB⟩ := hrel
           cases gk with
           | zero => exact absurd HA.out (by simp [spec_toCan.l1])
           | succ k3 =>
            have H := HA.out
            clear HA
            simp only [spec_toCan.l1] at H
            by_cases c25 : x45_3 < ((rd_L1 l2 x26_1).length : Int)
            ·
             rw [if_pos c25] at H
             have c25b0 := decide_eq_true c25
             clear c25
             by_cases c26 : 0 ≤ x45_3
             ·
              rw [if_pos c26] at H
              have c26b0 := decide_eq_true c26
              clear c26
              by_cases c27 : x45_3 < ((rd_L1 l2 x26_1).length : Int)
              ·
               rw [if_pos c27] at H
               have c27b0 := decide_eq_true c27
               clear c27
               by_cases c28 : 0 ≤ (rd (rd_L1 l2 x26_1) x45_3)
               ·
                rw [if_pos c28] at H
                have c28b0 := decide_eq_true c28
                clear c28
                by_cases c29 : (rd (rd_L1 l2 x26_1) x45_3) < (l1_0.length : Int)
                ·
                 rw [if_pos c29] at H
                 have c29b0 := decide_eq_true c29
                 clear c29
                 by_cases c30 : 0 < ((rd_L1 l2 x26_1).length : Int)
                 ·
                  rw [if_pos c30] at H
                  have c30b0 := decide_eq_true c30
                  have c30b1 : decide (0 < (rd_L1 l2 x26_1).length) = true := decide_eq_true (by omega)
                  clear c30
                  by_cases c31 : 0 ≤ (rd (rd_L1 l2 x26_1) 0)
                  ·
                   rw [if_pos c31] at H
                   have c31b0 := decide_eq_true c31
                   clear c31
                   by_cases c32 : (rd (rd_L1 l2 x26_1) 0) < (l1_0.length : Int)
                   ·
                    rw [if_pos c32] at H
                    have c32b0 := decide_eq_true c32
                    clear c32
                    have HC33 := ak_ H
                    clear H
                    have p183 : 0 ≤ (x45_3 : Int) := od_
                    have q183 : x45_3 < ((rd_L1 l2 x26_1).length : Int) := od_
                    obtain ⟨ad183, e183, hx183_0⟩ := Kd.at_int HR180_0.out x45_3 p183 q183
                    cases e183
                    try replace hx183_0 := (HB.out.cell (World.block_lt_of_cell? w _ hx183_0)).trans hx183_0
                    replace p183 := eq_true p183
                    replace q183 := eq_true q183
                    have hnb34 := NB178_177.out
                    have hnc34 := NB177_178.out
                    obtain ⟨hcz35_0, hcz35_1, hfz35_0, hfz35_1⟩ := c2_ BK178.out
                    have p184 : 0 ≤ ((rd (rd_L1 l2 x26_1) x45_3) : Int) := od_
                    have q184 : (rd (rd_L1 l2 x26_1) x45_3) < (l1_0.length : Int) := od_
                    obtain ⟨ad184, e184, hx184_0⟩ := Kd.at_bool HR1_0.out (rd (rd_L1 l2 x26_1) x45_3) p184 q184
                    cases e184
                    try replace hx184_0 := (HB.out.cell (World.block_lt_of_cell? w _ hx184_0)).trans hx184_0
                    replace p184 := eq_true p184
                    replace q184 := eq_true q184
                    have p185 : 0 ≤ (0 : Int) := (by omega)
                    have q185 : 0 < ((rd_L1 l2 x26_1).length : Int) := od_
                    obtain ⟨ad185, e185, hx185_0⟩ := Kd.at_int HR180_0.out 0 p185 q185
                    obtain rfl : ad183 = ad185 := (by injection e185)
                    have qi185 : (0 < (rd_L1 l2 x26_1).length) = True := eq_true (by omega)
                    (try rw [show ((0 : Int)).toNat = 0 from rfl] at hx185_0)
                    (try rw [Addr.add_zero'] at hx185_0)
                    try replace hx185_0 := (HB.out.cell (World.block_lt_of_cell? w _ hx185_0)).trans hx185_0
                    replace p185 := eq_true p185
                    replace q185 := eq_true q185
                    have p186 : 0 ≤ ((rd (rd_L1 l2 x26_1) 0) : Int) := od_
                    have q186 : (rd (rd_L1 l2 x26_1) 0) < (l1_0.length : Int) := od_
                    obtain ⟨ad186, e186, hx186_0⟩ := Kd.at_bool HR1_0.out (rd (rd_L1 l2 x26_1) 0) p186 q186
                    obtain rfl : ad184 = ad186 := (by injection e186)
                    try replace hx186_0 := (HB.out.cell (World.block_lt_of_cell? w _ hx186_0)).trans hx186_0
                    replace p186 := eq_true p186
                    replace q186 := eq_true q186
                    go_upto_if 61 with (fail)
                    repeat (go_quiet (fail); go_upto_if 61 with (fail))
                    have H := HC33.out
                    clear HC33
                    by_cases c36 : ((rdOf false l1_0 (rd (rd_L1 l2 x26_1) x45_3)) != (rdOf false l1_0 (rd (rd_L1 l2 x26_1) 0))) = true
                    ·
                     rw [if_pos c36] at H
                     have c36b0 : ((rdOf false l1_0 (rd (rd_L1 l2 x26_1) x45_3)) != (rdOf false l1_0 (rd (rd_L1 l2 x26_1) 0))) = true := c36
                     (try (have c36b1 : decide ((rdOf false l1_0 (rd (rd_L1 l2 x26_1) x45_3)) = (rdOf false l1_0 (rd (rd_L1 l2 x26_1) 0))) = false := by simpa using c36))
                     (try (have c36b2 : ((rdOf false l1_0 (rd (rd_L1 l2 x26_1) x45_3)) == (rdOf false l1_0 (rd (rd_L1 l2 x26_1) 0))) = false := by simpa using c36))
                     (try (have c36b7 : (!((rdOf false l1_0 (rd (rd_L1 l2 x26_1) x45_3)) == (rdOf false l1_0 (rd (rd_L1 l2 x26_1) 0)))) = true := by simp only [c36b2, Bool.not_true, Bool.not_false]))
                     (try (have c36b3 : ¬ ((rdOf false l1_0 (rd (rd_L1 l2 x26_1) x45_3)) = (rdOf false l1_0 (rd (rd_L1 l2 x26_1) 0))) := by simpa using c36))
                     clear c36
                     (first | rw [c36b0] | rw [c36b7] | (simp only [i64_w, i32_w]; rw [c36b0]) | rw [c36b1] | skip)
                     obtain rfl := Option.some.inj H
                     go_wp2
                     repeat (go_quiet (fail); try go_wp2)
                     go_ret
                     exact ⟨rx_, bl_⟩
                    ·
                     rw [if_neg c36] at H
                     have c36b0 : ((rdOf false l1_0 (rd (rd_L1 l2 x26_1) x45_3)) != (rdOf false l1_0 (rd (rd_L1 l2 x26_1) 0))) = false := by simpa using c36
                     (try (have c36b1 : decide ((rdOf false l1_0 (rd (rd_L1 l2 x26_1) x45_3)) = (rdOf false l1_0 (rd (rd_L1 l2 x26_1) 0))) = true := by simpa using c36))
                     (try (have c36b2 : ((rdOf false l1_0 (rd (rd_L1 l2 x26_1) x45_3)) == (rdOf false l1_0 (rd (rd_L1 l2 x26_1) 0))) = true := by simpa using c36))
                     (try (have c36b7 : (!((rdOf false l1_0 (rd (rd_L1 l2 x26_1) x45_3)) == (rdOf false l1_0 (rd (rd_L1 l2 x26_1) 0)))) = false := by simp only [c36b2, Bool.not_true, Bool.not_false]))
                     clear c36
                     (first | rw [c36b0] | rw [c36b7] | (simp only [i64_w, i32_w]; rw [c36b0]) | rw [c36b1] | skip)
                     have H' := ak_ H
                     clear H
                     go_wp2
                     repeat (go_quiet (fail); try go_wp2)
                     go_roundg k3
                     case measure => have := HK1.out; have := HJ17.out; have := HK3.out; omega
                     case rel => exact ⟨(wrap64 (x45_3 + 1)), (ry_), H', ⟨by have := HK1.out; have := HJ17.out; have := HK3.out; omega⟩, ⟨pk BK177.out⟩, ⟨pk BK178.out⟩, ⟨bl_⟩⟩
                   ·
                    rw [if_neg c32] at H
                    exact absurd H (by simp)
                  ·
                   rw [if_neg c31] at H
                   exact absurd H (by simp)
                 ·
                  rw [if_neg c30] at H
                  exact absurd H (by simp)
                ·
                 rw [if_neg c29] at H
                 exact absurd H (by simp)
               ·
                rw [if_neg c28] at H
                exact absurd H (by simp)
              ·
               rw [if_neg c27] at H
               exact absurd H (by simp)
             ·
              rw [if_neg c26] at H
              exact absurd H (by simp)
            ·
             rw [if_neg c25] at H
             have c25b0 := decide_eq_false c25
             clear c25
             by_cases c37 : 0 < ((rd_L1 l2 x26_1).length : Int)
             ·
              rw [if_pos c37] at H
              have c37b0 := decide_eq_true c37
              have c37b1 : decide (0 < (rd_L1 l2 x26_1).length) = true := decide_eq_true (by omega)
              clear c37
              by_cases c38 : 0 ≤ (rd (rd_L1 l2 x26_1) 0)
              ·
               rw [if_pos c38] at H
               have c38b0 := decide_eq_true c38
               clear c38
               by_cases c39 : (rd (rd_L1 l2 x26_1) 0) < (l1_0.length : Int)
               ·
                rw [if_pos c39] at H
                have c39b0 := decide_eq_true c39
                clear c39
                have HC40 := ak_ H
                clear H
                have hnb41 := NB178_177.out
                have hnc41 := NB177_178.out
                obtain ⟨hcz42_0, hcz42_1, hfz42_0, hfz42_1⟩ := c2_ BK178.out
                have p187 : 0 ≤ (0 : Int) := (by omega)
                have q187 : 0 < ((rd_L1 l2 x26_1).length : Int) := od_
                obtain ⟨ad187, e187, hx187_0⟩ := Kd.at_int HR180_0.out 0 p187 q187
                cases e187
                have qi187 : (0 < (rd_L1 l2 x26_1).length) = True := eq_true (by omega)
                (try rw [show ((0 : Int)).toNat = 0 from rfl] at hx187_0)
                (try rw [Addr.add_zero'] at hx187_0)
                try replace hx187_0 := (HB.out.cell (World.block_lt_of_cell? w _ hx187_0)).trans hx187_0
                replace p187 := eq_true p187
                replace q187 := eq_true q187
                have p188 : 0 ≤ ((rd (rd_L1 l2 x26_1) 0) : Int) := od_
                have q188 : (rd (rd_L1 l2 x26_1) 0) < (l1_0.length : Int) := od_
                obtain ⟨ad188, e188, hx188_0⟩ := Kd.at_bool HR1_0.out (rd (rd_L1 l2 x26_1) 0) p188 q188
                cases e188
                try replace hx188_0 := (HB.out.cell (World.block_lt_of_cell? w _ hx188_0)).trans hx188_0
                replace p188 := eq_true p188
                replace q188 := eq_true q188
                go_upto_if 69 with (fail)
                repeat (go_quiet (fail); go_upto_if 69 with (fail))
                have H := HC40.out
                clear HC40
                obtain ⟨bq43, hbq43⟩ : ∃ b_ : Bool, b_ = (rdOf false l1_0 (rd (rd_L1 l2 x26_1) 0)) := ⟨_, rfl⟩
                replace H : (if bq43 = true then (spec_toCan.l0 k3 l2 x7_1 (wrap64 (x8_1 - 1)) l2 (l2.length : Int) (wrap64 (x26_1 + 1)) l1_0 a1_1) else (spec_toCan.l0 k3 l2 (wrap64 (x7_1 - 1)) x8_1 l2 (l2.length : Int) (wrap64 (x26_1 + 1)) l1_0 a1_1)) = some r := by rw [← hbq43] at H; exact H
                have Nbq43 := ak_ hbq43
                clear hbq43
                (try rw [← Nbq43.out])
                by_cases c44 : bq43 = true
                ·
                 subst c44
                 have H1 : (spec_toCan.l0 k3 l2 x7_1 (wrap64 (x8_1 - 1)) l2 (l2.length : Int) (wrap64 (x26_1 + 1)) l1_0 a1_1) = some r := by rw [if_pos rfl] at H; exact H
                 clear H
                 have H := H1
                 clear H1
                 have H' := ak_ H
                 clear H
                 go_wp2
                 repeat (go_quiet (fail); try go_wp2)
                 go_roundg k3
                 case measure => have := HK1.out; have := HJ17.out; have := HK3.out; omega
                 case rel => exact ⟨(x7_1), (wrap64 (x8_1 - 1)), (wrap64 (x26_1 + 1)), (ry_), (ry_), (ry_), H', ⟨by have := HK1.out; have := HJ17.out; have := HK3.out; omega⟩, ⟨pk BK177.out⟩, ⟨pk BK178.out⟩, ⟨bl_⟩⟩
                ·
                 replace c44 := Bool.eq_false_iff.mpr c44
                 subst c44
                 have H1 : (spec_toCan.l0 k3 l2 (wrap64 (x7_1 - 1)) x8_1 l2 (l2.length : Int) (wrap64 (x26_1 + 1)) l1_0 a1_1) = some r := by rw [if_neg (show ¬ (false = true) by decide)] at H; exact H
                 clear H
                 have H := H1
                 clear H1
                 have H' := ak_ H
                 clear H
                 go_wp2
                 repeat (go_quiet (fail); try go_wp2)
                 go_roundg k3
                 case measure => have := HK1.out; have := HJ17.out; have := HK3.out; omega
                 case rel => exact ⟨(wrap64 (x7_1 - 1)), (x8_1), (wrap64 (x26_1 + 1)), (ry_), (ry_), (ry_), H', ⟨by have := HK1.out; have := HJ17.out; have := HK3.out; omega⟩, ⟨pk BK177.out⟩, ⟨pk BK178.out⟩, ⟨bl_⟩⟩
               ·
                rw [if_neg c39] at H
                exact absurd H (by simp)
              ·
               rw [if_neg c38] at H
               exact absurd H (by simp)
             ·
              rw [if_neg c37] at H
              exact absurd H (by simp)
      ·
       rw [if_neg c17] at H
       exact absurd H (by simp)
     ·
      rw [if_neg c16] at H
      exact absurd H (by simp)
    ·
     rw [if_neg c15] at H
     have c15b0 := decide_eq_false c15
     clear c15
     (first | rw [c15b0] | (simp only [i64_w, i32_w]; rw [c15b0]) | rw [c15b1] | skip)
     by_cases c45 : x7_1 ≥ 0
     ·
      rw [if_pos c45] at H
      have c45b0 : decide (0 ≤ x7_1) = true := decide_eq_true c45
      clear c45
      obtain rfl := Option.some.inj H
      go_wp2
      repeat (go_quiet (fail); try go_wp2)
      go_ret
      exact ⟨rx_, bl_⟩
     ·
      rw [if_neg c45] at H
      have c45b0 : decide (0 ≤ x7_1) = false := decide_eq_false c45
      clear c45
      obtain rfl := Option.some.inj H
      go_wp2
      repeat (go_quiet (fail); try go_wp2)
      go_ret
      exact ⟨rx_, bl_⟩
 ·
  replace c11 := Bool.eq_false_iff.mpr c11
  subst c11
  have H1 : (some false) = some r := by rw [if_neg (show ¬ (false = true) by decide)] at H; exact H
  clear H
  have H := H1
  clear H1
  obtain rfl := Option.some.inj H
  go_wp2
  repeat (go_quiet (fail); try go_wp2)
  go_ret
  exact ⟨rx_, bl_⟩
end Go.Proofs.Ytmdbhpbogbekmaa.QNt
