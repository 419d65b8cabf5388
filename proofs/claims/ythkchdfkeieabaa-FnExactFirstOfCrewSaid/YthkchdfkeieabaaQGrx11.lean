/- Contracts of functions of the given program, walked: each call returns what its Lean function says. Conditions: those that stand at each theorem. (Written by a program of this session.) -/
import Derived.Test.YthkchdfkeieabaaQGrx0
import Derived.Test.YthkchdfkeieabaaQGrx2
import Derived.Test.YthkchdfkeieabaaQGrx4
import Derived.Test.YthkchdfkeieabaaQGrx8
import Derived.Test.YthkchdfkeieabaaQGrx9
import Derived.Test.YthkchdfkeieabaaQGrx10
namespace Go.Proofs.Ythkchdfkeieabaa.QGr
open Go.RowKit Go.Proofs.YthkchdfkeieabaaW.PrintWords Go.Proofs.YthkchdfkeieabaaW.PrintLast Go.Proofs.YthkchdfkeieabaaW.PrintMore
open List (setIfInBounds_toArray set_cons_zero set_cons_succ map_toArray map_cons map_nil)
attribute [local go_sem] max2_int min2_int max_two min_two max_three min_three max_four min_four
set_option linter.unusedVariables false
set_option maxHeartbeats 8000000
set_option maxRecDepth 100000
set_option linter.unusedSimpArgs false
mutual
def spec_loFirst.l0 : Nat → Bool → List Int → List (List Int) → List Int → List Bool → Int → List Bool → Bool → Option ((List (List Int)))
 | 0, _, _, _, _, _, _, _, _ => none
 | k + 1, x1, x5, x8, x412000, x412001, x412002, x427000, x427001 => (spec_seIndex.f k x427000 x427001).bind fun t427 => (if 0 ≤ t427 then (if t427 < (x5.length : Int) then (if (rd x5 t427) > 0 then ((spec_loRides.f k x412000 x412001 x412002 x427000 x427001).bind fun t429 => (spec_loFirst.l1 k x1 x5 x8 t429 (t429.length : Int) 0 x412000 x412001 x412002 x427000 x427001)) else (some x8)) else (none)) else (none))
def spec_loFirst.l1 : Nat → Bool → List Int → List (List Int) → List (List Int) → Int → Int → List Int → List Bool → Int → List Bool → Bool → Option ((List (List Int)))
 | 0, _, _, _, _, _, _, _, _, _, _, _ => none
 | k + 1, x1, x5, x8, x30, x31, x32, x412000, x412001, x412002, x427000, x427001 => if x32 < x31 then (if 0 ≤ x32 then (if x32 < (x30.length : Int) then ((spec_paCross.f k x427000 x427001 (rd_L2 x30 x32)).bind fun bt433 => ((spec_seIndex.f k bt433.1 bt433.2).bind fun t438 => (if 0 ≤ t438 then (if t438 < (x5.length : Int) then (if (rd x5 t438) ≥ 0 then ((spec_loCost.f k x412000 x412001 x412002 (rd_L2 x30 x32) x1).bind fun t440 => ((spec_seIndex.f k x427000 x427001).bind fun t441 => (if 0 ≤ t441 then (if t441 < (x5.length : Int) then (if (wrap64 ((rd x5 t438) + t440)) = (rd x5 t441) then (if x8.length < 5864062014805 then (spec_loFirst.l0 k x1 x5 (x8 ++ [rd_L2 x30 x32]) x412000 x412001 x412002 bt433.1 bt433.2) else (none)) else (spec_loFirst.l1 k x1 x5 x8 x30 x31 (wrap64 (x32 + 1)) x412000 x412001 x412002 x427000 x427001)) else (none)) else (none)))) else (spec_loFirst.l1 k x1 x5 x8 x30 x31 (wrap64 (x32 + 1)) x412000 x412001 x412002 x427000 x427001)) else (none)) else (none)))) else (none)) else (none)) else (spec_loFirst.l0 k x1 x5 x8 x412000 x412001 x412002 x427000 x427001)
end
def spec_loFirst.f (k : Nat) (l0_0 : List Int) (l0_1 : List Bool) (a0_2 : Int) (a1 : Bool) : Option ((List (List Int))) := (spec_loFar.f k l0_0 l0_1 a0_2 a1).bind fun bt412 => ((spec_loParty.f l0_0 l0_1 a0_2).bind fun bt418 => ((spec_paFirst.f bt418.1 bt418.2).bind fun bt422 => (spec_loFirst.l0 k a1 bt412.1 ([] : List (List Int)) l0_0 l0_1 a0_2 bt422.1 bt422.2)))
theorem spec_loFirst.mono_l : ∀ k, (∀ y0 y1 y2 y3 y4 y5 y6 y7, LeO (spec_loFirst.l0 k y0 y1 y2 y3 y4 y5 y6 y7) (spec_loFirst.l0 (k + 1) y0 y1 y2 y3 y4 y5 y6 y7)) ∧ (∀ y0 y1 y2 y3 y4 y5 y6 y7 y8 y9 y10, LeO (spec_loFirst.l1 k y0 y1 y2 y3 y4 y5 y6 y7 y8 y9 y10) (spec_loFirst.l1 (k + 1) y0 y1 y2 y3 y4 y5 y6 y7 y8 y9 y10))
 | 0 => ⟨fun _ _ _ _ _ _ _ _ r h => by simp [spec_loFirst.l0] at h, fun _ _ _ _ _ _ _ _ _ _ _ r h => by simp [spec_loFirst.l1] at h⟩
 | k + 1 => by
  obtain ⟨ih0, ih1⟩ := spec_loFirst.mono_l k
  refine ⟨?_, ?_⟩
  ·intro y0 y1 y2 y3 y4 y5 y6 y7
   unfold spec_loFirst.l0
   repeat' first
   | (with_reducible first | exact ih0 _ _ _ _ _ _ _ _ | exact ih1 _ _ _ _ _ _ _ _ _ _ _ | exact spec_loCost.mono _ _ _ _ _ _ | exact spec_loFar.mono _ _ _ _ _ | exact spec_loRides.mono _ _ _ _ _ _ | exact spec_paCross.mono _ _ _ _ | exact spec_seIndex.mono _ _ _ | exact LeO.refl _ | exact LeO.none _ | refine LeO.ite ?_ ?_ | refine LeO.bind ?_ (fun _ => ?_))
   | exact ih0 _ _ _ _ _ _ _ _
   | exact ih1 _ _ _ _ _ _ _ _ _ _ _
   | exact spec_loCost.mono _ _ _ _ _ _
   | exact spec_loFar.mono _ _ _ _ _
   | exact spec_loRides.mono _ _ _ _ _ _
   | exact spec_paCross.mono _ _ _ _
   | exact spec_seIndex.mono _ _ _
   | exact LeO.none _
   | refine LeO.ite ?_ ?_
   | refine LeO.bind ?_ (fun _ => ?_)
  ·intro y0 y1 y2 y3 y4 y5 y6 y7 y8 y9 y10
   unfold spec_loFirst.l1
   repeat' first
   | (with_reducible first | exact ih0 _ _ _ _ _ _ _ _ | exact ih1 _ _ _ _ _ _ _ _ _ _ _ | exact spec_loCost.mono _ _ _ _ _ _ | exact spec_loFar.mono _ _ _ _ _ | exact spec_loRides.mono _ _ _ _ _ _ | exact spec_paCross.mono _ _ _ _ | exact spec_seIndex.mono _ _ _ | exact LeO.refl _ | exact LeO.none _ | refine LeO.ite ?_ ?_ | refine LeO.bind ?_ (fun _ => ?_))
   | exact ih0 _ _ _ _ _ _ _ _
   | exact ih1 _ _ _ _ _ _ _ _ _ _ _
   | exact spec_loCost.mono _ _ _ _ _ _
   | exact spec_loFar.mono _ _ _ _ _
   | exact spec_loRides.mono _ _ _ _ _ _
   | exact spec_paCross.mono _ _ _ _
   | exact spec_seIndex.mono _ _ _
   | exact LeO.none _
   | refine LeO.ite ?_ ?_
   | refine LeO.bind ?_ (fun _ => ?_)
theorem spec_loFirst.mono : ∀ a0 a1 a2 a3 k, LeO (spec_loFirst.f k a0 a1 a2 a3) (spec_loFirst.f (k + 1) a0 a1 a2 a3) := by
 intro a0 a1 a2 a3 k
 obtain ⟨ih0, ih1⟩ := spec_loFirst.mono_l k
 unfold spec_loFirst.f
 repeat' first
  | (with_reducible first | exact ih0 _ _ _ _ _ _ _ _ | exact ih1 _ _ _ _ _ _ _ _ _ _ _ | exact spec_loCost.mono _ _ _ _ _ _ | exact spec_loFar.mono _ _ _ _ _ | exact spec_loRides.mono _ _ _ _ _ _ | exact spec_paCross.mono _ _ _ _ | exact spec_seIndex.mono _ _ _ | exact LeO.refl _ | exact LeO.none _ | refine LeO.ite ?_ ?_ | refine LeO.bind ?_ (fun _ => ?_))
  | exact ih0 _ _ _ _ _ _ _ _
  | exact ih1 _ _ _ _ _ _ _ _ _ _ _
  | exact spec_loCost.mono _ _ _ _ _ _
  | exact spec_loFar.mono _ _ _ _ _
  | exact spec_loRides.mono _ _ _ _ _ _
  | exact spec_paCross.mono _ _ _ _
  | exact spec_seIndex.mono _ _ _
  | exact LeO.none _
  | refine LeO.ite ?_ ?_
  | refine LeO.bind ?_ (fun _ => ?_)
def spec_loFirst.T10 : Bool × List (List Nat × List Nat) := (true, [([], []), ([0], [0]), ([1], [1]), ([2], [2]), ([2], [2]), ([2], [2]), ([2], [2]), ([4, 5, 6, 2, 2], [2, 4, 5, 6]), ([3, 7, 2], [2, 3, 7]), ([2], [2]), ([2], [2]), ([10, 7, 2], [2, 10]), ([9, 11, 2], [2, 9, 11]), ([12, 2], [2, 12]), ([8, 13, 2], [2, 8, 13]), ([2, 14], [2, 14])])
def spec_loFirst.B10 : List Nat := [0, 1, 3, 7, 7, 7, 7, 119, 255, 7, 7, 1271, 3831, 7927, 16383, 32767]
theorem spec_loFirst.tab10 : rtab .any (opsOf Try.f69 10) = spec_loFirst.T10 := by kernel_rfl
theorem spec_loFirst.bits10 : waitsOk spec_loFirst.T10.2 spec_loFirst.B10 = true := by kernel_rfl
theorem spec_loFirst.calls (k : Nat) (P0_0_ : Nat → Prop) (A0_0 : Option Addr) (c0_0 : Nat) (l0_0 : List Int) (A0_1 : Option Addr) (c0_1 : Nat) (l0_1 : List Bool) (a0_2 : Int) (a1 : Bool) (r : List (List Int)) (w : World) (hs0_0 : Kd.V (Kd.int .i64) 3 w w.heap.size (fun k_ => P0_0_ k_) (.slice A0_0 l0_0.length c0_0) l0_0) (hr0_1 : Kd.C Kd.bool w A0_1 l0_1.length l0_1) (hc0_1 : l0_1.length ≤ c0_1) (h : spec_loFirst.f k l0_0 l0_1 a0_2 a1 = some r) :
  Calls Try.prog 69 #[.agg #[.slice A0_0 l0_0.length c0_0, .slice A0_1 l0_1.length c0_1, .int .i64 a0_2], .bool a1] w fun e w' => ∃ v0_ : Value, e = .returned (v0_) ∧ Kd.N (Kd.slice 3 (Kd.int .i64)) 29 w' w.heap.size (fun k_ => (P0_0_ k_ ∨ w.heap.size ≤ k_)) v0_ r ∧ Below w.heap.size w w' := by
 have hu43 := Try.underlying43
 have hu115 := Try.underlying115
 have HO0_0 := ak_ (show Kd.V (Kd.int .i64) 3 w w.heap.size (fun k_ => (P0_0_ k_ ∨ w.heap.size ≤ k_)) (.slice A0_0 l0_0.length c0_0) l0_0 from Kd.V_mono hs0_0 (fun k_ hk => .inl hk))
 have HR0_1 := ak_ hr0_1
 have HC0_1 := ak_ hc0_1
 clear hr0_1 hc0_1
 have HB := ak_ (Below.refl w.heap.size w)
 have H : ((spec_loFar.f k l0_0 l0_1 a0_2 a1).bind fun bt412 => ((spec_loParty.f l0_0 l0_1 a0_2).bind fun bt418 => ((spec_paFirst.f bt418.1 bt418.2).bind fun bt422 => (spec_loFirst.l0 k a1 bt412.1 ([] : List (List Int)) l0_0 l0_1 a0_2 bt422.1 bt422.2)))) = some r := h
 clear h
 replace H := Option.bind_eq_some_iff.mp H
 obtain ⟨⟨t412, t415⟩, A30, H⟩ := H
 replace H : ((spec_loParty.f l0_0 l0_1 a0_2).bind fun bt418 => ((spec_paFirst.f bt418.1 bt418.2).bind fun bt422 => (spec_loFirst.l0 k a1 t412 ([] : List (List Int)) l0_0 l0_1 a0_2 bt422.1 bt422.2))) = some r := H
 have A3 := ak_ A30
 clear A30
 replace H := Option.bind_eq_some_iff.mp H
 obtain ⟨⟨t418, t421⟩, A40, H⟩ := H
 replace H : ((spec_paFirst.f t418 t421).bind fun bt422 => (spec_loFirst.l0 k a1 t412 ([] : List (List Int)) l0_0 l0_1 a0_2 bt422.1 bt422.2)) = some r := H
 have A4 := ak_ A40
 clear A40
 replace H := Option.bind_eq_some_iff.mp H
 obtain ⟨⟨t422, t425⟩, A50, H⟩ := H
 replace H : (spec_loFirst.l0 k a1 t412 ([] : List (List Int)) l0_0 l0_1 a0_2 t422 t425) = some r := H
 have A5 := ak_ A50
 clear A50
 have H' := ak_ H
 clear H
 go_enter Try.func69, Try.ntmps69
 go_wp2_with (first | ((with_reducible refine gate_dst (N := 2) rfl ?_); refine bx_ 2 #[.slice A0_0 l0_0.length c0_0, .slice A0_1 l0_1.length c0_1, .int .i64 a0_2] 43 ?_; intro gb411 hg w6 hbox hb; have n0_ := ak_ (Kd.V_below (Kd.V_elderB (Kd.pV HO0_0.out) gb411 (Nat.le_of_eq hg.symm)) hb); have n1_ := ak_ (bs_ (bb_ HB.out) hb); have n2_ := ak_ (hbox); have n3_ := ak_ ((by rw [hg]; exact (bz_ (bb_ HB.out)) : w.heap.size ≤ gb411)); have n4_ := n3_; clear HO0_0; clear HB; have HO0_0 := n0_; have HB := n1_; have BK411 := n2_; have GW411 := n3_; have GE411 := n4_; clear n0_ n1_ n2_ n3_ n4_; clear hb hbox hg; have hcz7_0 : w6.cell? ⟨gb411, 0, none⟩ = some (.slice A0_0 l0_0.length c0_0) := (blk_cell BK411.out 0).trans rfl; have hcz7_1 : w6.cell? ⟨gb411, 1, none⟩ = some (.slice A0_1 l0_1.length c0_1) := (blk_cell BK411.out 1).trans rfl; have hcz7_2 : w6.cell? ⟨gb411, 2, none⟩ = some (.int .i64 a0_2) := (blk_cell BK411.out 2).trans rfl; have hfz7_0 := blk_frozen BK411.out 0; have hfz7_1 := blk_frozen BK411.out 1; have hfz7_2 := blk_frozen BK411.out 2) | ((with_reducible refine gate_callee (f := 54) rfl ?_); refine goesL_ (some 16) rfl rfl Try.func54 (by kernel_rfl) rfl #[.agg #[.slice A0_0 l0_0.length c0_0, .slice A0_1 l0_1.length c0_1, .int .i64 a0_2], .bool a1] rfl (by first | rfl | (simp only [map_toArray, map_cons, map_nil]; try rfl)) ?_; (with_reducible refine (spec_loFar.calls k _ _ l0_0 _ _ l0_1 a0_2 a1 t412 t415 _ ?side1 ?side2 ?side3 ?side4 A3.out).mono ?_); (case side1 => repeat (first | exact (Kd.V_reads' HO0_0.out).2.2 | (with_reducible refine Kd.C_alloc ?_ _) | (with_reducible refine Kd.C_drewN ?_ _) | (with_reducible refine Kd.C_drew ?_))); (case side2 => exact (Kd.V_reads' HO0_0.out).2.1); (case side3 => repeat (first | exact (Kd.C_below HR0_1.out HB.out) | (with_reducible refine Kd.C_alloc ?_ _) | (with_reducible refine Kd.C_drewN ?_ _) | (with_reducible refine Kd.C_drew ?_))); (case side4 => exact HC0_1.out); rintro e w8 ⟨v413, v416, rfl, ho0, ho1, hb⟩; refine ⟨_, rfl, ?_⟩; have n0_ := ak_ (Kd.V_mono (Kd.V_told (Kd.V_told (Kd.V_old (Kd.pV HO0_0.out) hb) (Kd.R_base ho0)) (Kd.R_base ho1)) (fun _ h_ => h_.1)); have n1_ := ak_ (Kd.R_lower (Kd.R_newM (M := fun k_ => (w.heap.size ≤ k_)) ho0 (bz_ bl_) (fun k_ h_ => h_)) (bz_ bl_)); have n2_ := ak_ (Kd.R_lower (Kd.R_newM (M := fun k_ => (w.heap.size ≤ k_)) ho1 (bz_ bl_) (fun k_ h_ => h_)) (bz_ bl_)); have n3_ := ak_ (blk_below (pk BK411.out) hb); have n4_ := ak_ (bs_ bl_ hb); clear HO0_0; clear BK411; clear HB; have HO0_0 := n0_; have HO414 := n1_; have HO417 := n2_; have BK411 := n3_; have HB := n4_; clear n0_ n1_ n2_ n3_ n4_; (try clear hb); (try clear hb2); (try clear hk); (try clear hi); (try clear ho0); (try clear ho1); have hcz9_0 : w8.cell? ⟨gb411, 0, none⟩ = some (.slice A0_0 l0_0.length c0_0) := (blk_cell BK411.out 0).trans rfl; have hcz9_1 : w8.cell? ⟨gb411, 1, none⟩ = some (.slice A0_1 l0_1.length c0_1) := (blk_cell BK411.out 1).trans rfl; have hcz9_2 : w8.cell? ⟨gb411, 2, none⟩ = some (.int .i64 a0_2) := (blk_cell BK411.out 2).trans rfl; have hfz9_0 := blk_frozen BK411.out 0; have hfz9_1 := blk_frozen BK411.out 1; have hfz9_2 := blk_frozen BK411.out 2) | ((with_reducible refine gate_callee (f := 99) rfl ?_); refine goesL_ (some 20) rfl rfl Try.func99 (by kernel_rfl) rfl #[.agg #[.slice A0_0 l0_0.length c0_0, .slice A0_1 l0_1.length c0_1, .int .i64 a0_2]] rfl (by first | rfl | (simp only [map_toArray, map_cons, map_nil]; try rfl)) ?_; (with_reducible refine (spec_loParty.calls (fun k_ => ((((P0_0_ k_ ∨ w.heap.size ≤ k_) ∧ k_ ≠ gb411) ∧ some k_ ≠ (v413 : Value).ownBlock) ∧ some k_ ≠ (v416 : Value).ownBlock)) _ _ l0_0 _ _ l0_1 a0_2 t418 t421 _ ?side1 ?side2 ?side3 A4.out).mono ?_); (case side1 => exact HO0_0.out); (case side2 => repeat (first | exact (Kd.C_below HR0_1.out HB.out) | (with_reducible refine Kd.C_alloc ?_ _) | (with_reducible refine Kd.C_drewN ?_ _) | (with_reducible refine Kd.C_drew ?_))); (case side3 => exact HC0_1.out); rintro e w10 ⟨v419, rfl, ho0, hb⟩; refine ⟨_, rfl, ?_⟩; have n0_ := ak_ (Kd.V_below (Kd.pV HO0_0.out) hb); have n1_ := ak_ (Kd.R_below (Kd.pR HO414.out) hb); have n2_ := ak_ (Kd.R_below (Kd.pR HO417.out) hb); have n3_ := ak_ (Kd.V_lower (Kd.V_mono (ok' := fun k_ => (P0_0_ k_ ∨ w.heap.size ≤ k_) ∧ some k_ ≠ (v413 : Value).ownBlock ∧ some k_ ≠ (v416 : Value).ownBlock ∧ k_ ≠ gb411) ho0 (fun k_ hk_ => ⟨Or.elim hk_ (fun hs_ => hs_.1.1.1) (fun hn_ => (.inr (Nat.le_trans (bz_ bl_) hn_))), Or.elim hk_ (fun hs_ => hs_.1.2) (fun hn_ => (Kd.fresh' (Kd.R_lt (Kd.pR HO414.out)) k_ hn_)), Or.elim hk_ (fun hs_ => hs_.2) (fun hn_ => (Kd.fresh' (Kd.R_lt (Kd.pR HO417.out)) k_ hn_)), Or.elim hk_ (fun hs_ => hs_.1.1.2) (fun hn_ => (Kd.freshB (pk BK411.out) k_ hn_))⟩)) (bz_ bl_)); have n4_ := ak_ (blk_below (pk BK411.out) hb); have n5_ := ak_ (bs_ bl_ hb); clear HO0_0; clear HO414; clear HO417; clear BK411; clear HB; have HO0_0 := n0_; have HO414 := n1_; have HO417 := n2_; have HO420 := n3_; have BK411 := n4_; have HB := n5_; clear n0_ n1_ n2_ n3_ n4_ n5_; (try clear hb); (try clear hb2); (try clear hk); (try clear hi); (try clear ho0); obtain ⟨Ao11, co11, eo11⟩ := Kd.V_slice HO420.out; subst eo11) | ((with_reducible refine gate_callee (f := 90) rfl ?_); refine goesL_ (some 21) rfl rfl Try.func90 (by kernel_rfl) rfl #[.agg #[.slice Ao11 t418.length co11, .int .i64 t421]] rfl (by first | rfl | (simp only [map_toArray, map_cons, map_nil]; try rfl)) ?_; (with_reducible refine (spec_paFirst.calls _ _ t418 t421 t422 t425 _ ?side1 ?side2 A5.out).mono ?_); (case side1 => repeat (first | exact (Kd.V_reads' HO420.out).2.2 | (with_reducible refine Kd.C_alloc ?_ _) | (with_reducible refine Kd.C_drewN ?_ _) | (with_reducible refine Kd.C_drew ?_))); (case side2 => exact (Kd.V_reads' HO420.out).2.1); rintro e w12 ⟨v423, rfl, ho0, hb⟩; refine ⟨_, rfl, ?_⟩; have n0_ := ak_ (Kd.V_elder' (Kd.pV HO0_0.out) (Kd.R_base ho0) hb); have n1_ := ak_ (Kd.R_below (Kd.pR HO414.out) hb); have n2_ := ak_ (Kd.R_below (Kd.pR HO417.out) hb); have n3_ := ak_ (Kd.V_elder' (Kd.pV HO420.out) (Kd.R_base ho0) hb); have n4_ := ak_ (Kd.R_lower (Kd.R_newM (M := fun k_ => (w.heap.size ≤ k_)) ho0 (bz_ bl_) (fun k_ h_ => h_)) (bz_ bl_)); have n5_ := ak_ (blk_below (pk BK411.out) hb); have n6_ := ak_ (bs_ bl_ hb); clear HO0_0; clear HO414; clear HO417; clear HO420; clear BK411; clear HB; have HO0_0 := n0_; have HO414 := n1_; have HO417 := n2_; have HO420 := n3_; have HO424 := n4_; have BK411 := n5_; have HB := n6_; clear n0_ n1_ n2_ n3_ n4_ n5_ n6_; (try clear hb); (try clear hb2); (try clear hk); (try clear hi); (try clear ho0)) | ((with_reducible refine gate_dst (N := 7) rfl ?_); refine bx_ 7 #[.slice none 0 0, .bool false] 115 ?_; intro gb426 hg w13 hbox hb; have n0_ := ak_ (Kd.V_below (Kd.V_elderB (Kd.pV HO0_0.out) gb426 (Nat.le_of_eq hg.symm)) hb); have n1_ := ak_ (Kd.R_below (Kd.pR HO414.out) hb); have n2_ := ak_ (Kd.R_below (Kd.pR HO417.out) hb); have n3_ := ak_ (Kd.V_below (Kd.V_elderB (Kd.pV HO420.out) gb426 (Nat.le_of_eq hg.symm)) hb); have n4_ := ak_ (Kd.R_below (Kd.pR HO424.out) hb); have n5_ := ak_ (blk_below (pk BK411.out) hb); have n6_ := ak_ (bs_ bl_ hb); have n7_ := ak_ (hbox); have n8_ := ak_ ((by rw [hg]; exact (bz_ bl_) : w.heap.size ≤ gb426)); have n9_ := n8_; have n10_ := ak_ ((by rw [hg]; exact Nat.ne_of_lt (blk_lt (pk BK411.out)) : gb411 ≠ gb426)); have n11_ := ak_ n10_.out.symm; clear HO0_0; clear HO414; clear HO417; clear HO420; clear HO424; clear BK411; clear HB; have HO0_0 := n0_; have HO414 := n1_; have HO417 := n2_; have HO420 := n3_; have HO424 := n4_; have BK411 := n5_; have HB := n6_; have BK426 := n7_; have GW426 := n8_; have GE426 := n9_; have NB411_426 := n10_; have NB426_411 := n11_; clear n0_ n1_ n2_ n3_ n4_ n5_ n6_ n7_ n8_ n9_ n10_ n11_; clear hb hbox hg; obtain ⟨Ao14, co14, eo14⟩ := Kd.R_slice HO424.out; subst eo14; have hnb15 := NB426_411.out; have hnc15 := NB411_426.out; have hcz16_0 : w13.cell? ⟨gb426, 0, none⟩ = some (.slice none 0 0) := (blk_cell BK426.out 0).trans rfl; have hcz16_1 : w13.cell? ⟨gb426, 1, none⟩ = some (.bool false) := (blk_cell BK426.out 1).trans rfl; have hfz16_0 := blk_frozen BK426.out 0; have hfz16_1 := blk_frozen BK426.out 1))
 go_loopg [8] k (fun kq v8 w' => ∃ (x8_1 : List (List Int)) (x427000_1 : List Bool) (x427001_1 : Bool) (u427000 : Value), Aside0 (spec_loFirst.l0 kq a1 t412 x8_1 l0_0 l0_1 a0_2 x427000_1 x427001_1 = some r) ∧ Aside0 (kq ≤ k) ∧ Aside0 (Kd.R (Kd.int .i64) 3 w' w.heap.size (fun k_ => (w.heap.size ≤ k_)) v413 t412) ∧ Aside0 (Kd.N (Kd.slice 3 (Kd.int .i64)) 29 w' w.heap.size (fun k_ => (P0_0_ k_ ∨ w.heap.size ≤ k_) ∧ some k_ ≠ (v413 : Value).ownBlock ∧ some k_ ≠ (u427000 : Value).ownBlock ∧ k_ ≠ gb411 ∧ k_ ≠ gb426) v8 x8_1) ∧ Aside0 (Kd.V (Kd.int .i64) 3 w' w.heap.size (fun k_ => (P0_0_ k_ ∨ w.heap.size ≤ k_) ∧ some k_ ≠ (v413 : Value).ownBlock ∧ some k_ ≠ (v8 : Value).ownBlock ∧ some k_ ≠ (u427000 : Value).ownBlock ∧ k_ ≠ gb411 ∧ k_ ≠ gb426) (.slice A0_0 l0_0.length c0_0) l0_0) ∧ Aside0 (Kd.R Kd.bool 4 w' w.heap.size (fun k_ => (w.heap.size ≤ k_)) u427000 x427000_1) ∧ Aside0 (w'.heap[gb411]? = some (.cells #[(.slice A0_0 l0_0.length c0_0), (.slice A0_1 l0_1.length c0_1), .int .i64 a0_2] 43 (0, 0))) ∧ Aside0 (w'.heap[gb426]? = some (.cells #[u427000, .bool x427001_1] 115 (0, 0))) ∧ Aside0 (Below w.heap.size w w'))
 case atStart => exact ⟨(([] : List (List Int))), (t422), (t425), (.slice Ao14 t422.length co14), H', ⟨Nat.le_refl _⟩, ⟨by (with_reducible repeat (first | apply Kd.R_alloc | apply Kd.R_drewN | apply Kd.R_drew)); exact Kd.R_mono (Kd.R_far (p := ⟨gb426, 1, none⟩) (Kd.R_far (p := ⟨gb426, 0, none⟩) (Kd.R_types HO414.out BK426.out (by decide)) (fun _ hk => hk.2) (.slice Ao14 t422.length co14)) (fun _ hk => hk.2) (.bool t425)) (fun _ hk => hk.1.1)⟩, ⟨by first | exact Kd.S_nil _ _ _ _ _ | exact Kd.N_nil _ _ _ _ _ | exact Kd.V_nil _ _ _ _ _ | exact Kd.Q_nil _ _ _ _ _ | exact Kd.R_nil _ _ _ _ _⟩, ⟨by (with_reducible repeat (first | apply Kd.V_alloc | apply Kd.V_drewN | apply Kd.V_drew)); exact Kd.V_mono (Kd.V_far (p := ⟨gb426, 1, none⟩) (Kd.V_far (p := ⟨gb426, 0, none⟩) (Kd.V_mono HO0_0.out (fun k_ hk => (⟨hk, hk.2⟩ : _ ∧ k_ ≠ gb426))) (fun _ hk => hk.2) (.slice Ao14 t422.length co14)) (fun _ hk => hk.2) (.bool t425)) (fun _ hk => ⟨hk.1.1.1.1.1.1, ⟨hk.1.1.1.1.2, ⟨(by simp [Value.ownBlock]), ⟨hk.1.1.2, ⟨hk.1.1.1.1.1.2, hk.1.2⟩⟩⟩⟩⟩)⟩, ⟨by (with_reducible repeat (first | apply Kd.R_alloc | apply Kd.R_drewN | apply Kd.R_drew)); exact Kd.R_mono (Kd.R_far (p := ⟨gb426, 1, none⟩) (Kd.R_far (p := ⟨gb426, 0, none⟩) (Kd.R_types HO424.out BK426.out (by decide)) (fun _ hk => hk.2) (.slice Ao14 t422.length co14)) (fun _ hk => hk.2) (.bool t425)) (fun _ hk => hk.1.1)⟩, ⟨by (with_reducible repeat (first | refine kN_ ?_ _ | refine k1_ ?_ | refine ka_ ?_ _)); refine blk_far ?_ NB411_426.out _; (with_reducible repeat (first | refine kN_ ?_ _ | refine k1_ ?_ | refine ka_ ?_ _)); refine blk_far ?_ NB411_426.out _; exact pk BK411.out⟩, ⟨by (with_reducible repeat (first | refine kN_ ?_ _ | refine k1_ ?_ | refine ka_ ?_ _)); refine blk_put (cs := #[.slice Ao14 t422.length co14, .bool false]) ?_ 1 _ rfl; (with_reducible repeat (first | refine kN_ ?_ _ | refine k1_ ?_ | refine ka_ ?_ _)); refine blk_put (cs := #[.slice none 0 0, .bool false]) ?_ 0 _ rfl; exact pk BK426.out⟩, ⟨by repeat (first | exact HB.out | apply ba_ | apply bN_ | apply b1_ | refine below_set ?_ (Aside0.out (by assumption)))⟩⟩
 case round =>
  clear H'
  try clear c1
  try clear p2
  try clear c5
  try clear c6
  try clear c9
  try clear c15
  try clear hcz16_0
  try clear hcz16_1
  try clear hcz7_0
  try clear hcz7_1
  try clear hcz7_2
  try clear hcz9_0
  try clear hcz9_1
  try clear hcz9_2
  try clear hfz16_0
  try clear hfz16_1
  try clear hfz7_0
  try clear hfz7_1
  try clear hfz7_2
  try clear hfz9_0
  try clear hfz9_1
  try clear hfz9_2
  obtain ⟨x8_1, x427000_1, x427001_1, u427000, HA, HK1, HO_5, HO_8, HO_412000, HO_427000, BK411, BK426, HB⟩ := hrel
  cases gk with
  | zero => exact absurd HA.out (by simp [spec_loFirst.l0])
  | succ k1 =>
   have H := HA.out
   clear HA
   simp only [spec_loFirst.l0] at H
   replace H := Option.bind_eq_some_iff.mp H
   obtain ⟨t427, A170, H⟩ := H
   replace H : (if 0 ≤ t427 then (if t427 < (t412.length : Int) then (if (rd t412 t427) > 0 then ((spec_loRides.f k1 l0_0 l0_1 a0_2 x427000_1 x427001_1).bind fun t429 => (spec_loFirst.l1 k1 a1 t412 x8_1 t429 (t429.length : Int) 0 l0_0 l0_1 a0_2 x427000_1 x427001_1)) else (some x8_1)) else (none)) else (none)) = some r := H
   have A17 := ak_ A170
   clear A170
   by_cases c18 : 0 ≤ t427
   ·
    rw [if_pos c18] at H
    have c18b0 : decide (0 ≤ t427) = true := decide_eq_true c18
    clear c18
    by_cases c19 : t427 < (t412.length : Int)
    ·
     rw [if_pos c19] at H
     have c19b0 : decide (t427 < (t412.length : Int)) = true := decide_eq_true c19
     clear c19
     have HC20 := ak_ H
     clear H
     have hnb21 := NB426_411.out
     have hnc21 := NB411_426.out
     have hcz22_0 : wr.cell? ⟨gb426, 0, none⟩ = some (u427000) := (blk_cell BK426.out 0).trans rfl
     have hcz22_1 : wr.cell? ⟨gb426, 1, none⟩ = some (.bool x427001_1) := (blk_cell BK426.out 1).trans rfl
     have hfz22_0 := blk_frozen BK426.out 0
     have hfz22_1 := blk_frozen BK426.out 1
     obtain ⟨Ao23, co23, eo23⟩ := Kd.R_slice HO_427000.out
     subst eo23
     go_upto_if 27 with (first | ((with_reducible refine gate_callee (f := 91) rfl ?_); refine goesL_ (some 24) rfl rfl Try.func91 (by kernel_rfl) rfl #[.agg #[.slice Ao23 x427000_1.length co23, .bool x427001_1]] rfl (by first | rfl | (simp only [map_toArray, map_cons, map_nil]; try rfl)) ?_; (with_reducible refine (spec_seIndex.calls k1 _ _ x427000_1 x427001_1 t427 _ ?side1 ?side2 A17.out).mono ?_); (case side1 => repeat (first | exact (Kd.R_reads' HO_427000.out).2.2 | (with_reducible refine Kd.C_alloc ?_ _) | (with_reducible refine Kd.C_drewN ?_ _) | (with_reducible refine Kd.C_drew ?_))); (case side2 => exact (Kd.R_reads' HO_427000.out).2.1); rintro e w24 ⟨rfl, hb⟩; refine ⟨_, rfl, ?_⟩; have n0_ := ak_ (Kd.R_below (Kd.pR HO_5.out) hb); have n1_ := ak_ (Kd.N_below (Kd.pN HO_8.out) hb); have n2_ := ak_ (Kd.V_below (Kd.pV HO_412000.out) hb); have n3_ := ak_ (Kd.R_below (Kd.pR HO_427000.out) hb); have n4_ := ak_ (blk_below (pk BK411.out) hb); have n5_ := ak_ (blk_below (pk BK426.out) hb); have n6_ := ak_ (bs_ bl_ hb); clear HO_5; clear HO_8; clear HO_412000; clear HO_427000; clear BK411; clear BK426; clear HB; have HO_5 := n0_; have HO_8 := n1_; have HO_412000 := n2_; have HO_427000 := n3_; have BK411 := n4_; have BK426 := n5_; have HB := n6_; clear n0_ n1_ n2_ n3_ n4_ n5_ n6_; (try clear hb); (try clear hb2); (try clear hk); (try clear hi); obtain ⟨Ao25, co25, eo25⟩ := Kd.R_slice HO_5.out; subst eo25; have p428 : 0 ≤ (t427 : Int) := odt_ (by assumption); have q428 : t427 < (t412.length : Int) := odt_ (by assumption); obtain ⟨ad428, e428, hx428_0⟩ := Kd.at_int (Kd.R_reads' HO_5.out).2.2 t427 p428 q428; cases e428; replace p428 := eq_true p428; replace q428 := eq_true q428))
     (try simp only [Act.put, setIfInBounds_toArray, set_cons_zero, set_cons_succ])
     have H := HC20.out
     clear HC20
     by_cases c26 : (rd t412 t427) > 0
     ·
      rw [if_pos c26] at H
      have c26b0 : decide (0 < (rd t412 t427)) = true := decide_eq_true c26
      clear c26
      (first | rw [c26b0] | (simp only [i64_w, i32_w]; rw [c26b0]) | rw [c26b1] | skip)
      replace H := Option.bind_eq_some_iff.mp H
      obtain ⟨t429, A270, H⟩ := H
      replace H : (spec_loFirst.l1 k1 a1 t412 x8_1 t429 (t429.length : Int) 0 l0_0 l0_1 a0_2 x427000_1 x427001_1) = some r := H
      have A27 := ak_ A270
      clear A270
      have H' := ak_ H
      clear H
      have hnb28 := NB411_426.out
      have hnc28 := NB426_411.out
      have hcz29_0 : w24.cell? ⟨gb411, 0, none⟩ = some (.slice A0_0 l0_0.length c0_0) := (blk_cell BK411.out 0).trans rfl
      have hcz29_1 : w24.cell? ⟨gb411, 1, none⟩ = some (.slice A0_1 l0_1.length c0_1) := (blk_cell BK411.out 1).trans rfl
      have hcz29_2 : w24.cell? ⟨gb411, 2, none⟩ = some (.int .i64 a0_2) := (blk_cell BK411.out 2).trans rfl
      have hfz29_0 := blk_frozen BK411.out 0
      have hfz29_1 := blk_frozen BK411.out 1
      have hfz29_2 := blk_frozen BK411.out 2
      have hcz30_0 : w24.cell? ⟨gb426, 0, none⟩ = some (.slice Ao23 x427000_1.length co23) := (blk_cell BK426.out 0).trans rfl
      have hcz30_1 : w24.cell? ⟨gb426, 1, none⟩ = some (.bool x427001_1) := (blk_cell BK426.out 1).trans rfl
      have hfz30_0 := blk_frozen BK426.out 0
      have hfz30_1 := blk_frozen BK426.out 1
      go_wp2_with (first | ((with_reducible refine gate_callee (f := 100) rfl ?_); refine goesL_ (some 30) rfl rfl Try.func100 (by kernel_rfl) rfl #[.agg #[.slice A0_0 l0_0.length c0_0, .slice A0_1 l0_1.length c0_1, .int .i64 a0_2], .agg #[.slice Ao23 x427000_1.length co23, .bool x427001_1]] rfl (by first | rfl | (simp only [map_toArray, map_cons, map_nil]; try rfl)) ?_; (with_reducible refine (spec_loRides.calls k1 _ _ l0_0 _ _ l0_1 a0_2 _ _ x427000_1 x427001_1 t429 _ ?side1 ?side2 ?side3 ?side4 ?side5 ?side6 A27.out).mono ?_); (case side1 => repeat (first | exact (Kd.V_reads' HO_412000.out).2.2 | (with_reducible refine Kd.C_alloc ?_ _) | (with_reducible refine Kd.C_drewN ?_ _) | (with_reducible refine Kd.C_drew ?_))); (case side2 => exact (Kd.V_reads' HO_412000.out).2.1); (case side3 => repeat (first | exact (Kd.C_below HR0_1.out HB.out) | (with_reducible refine Kd.C_alloc ?_ _) | (with_reducible refine Kd.C_drewN ?_ _) | (with_reducible refine Kd.C_drew ?_))); (case side4 => exact HC0_1.out); (case side5 => repeat (first | exact (Kd.R_reads' HO_427000.out).2.2 | (with_reducible refine Kd.C_alloc ?_ _) | (with_reducible refine Kd.C_drewN ?_ _) | (with_reducible refine Kd.C_drew ?_))); (case side6 => exact (Kd.R_reads' HO_427000.out).2.1); rintro e w31 ⟨v430, rfl, ho0, hb⟩; refine ⟨_, rfl, ?_⟩; have n0_ := ak_ (Kd.R_below (Kd.pR HO_5.out) hb); have n1_ := ak_ (Kd.N_elder' (Kd.pN HO_8.out) (Kd.N_base ho0) hb); have n2_ := ak_ (Kd.V_elder' (Kd.pV HO_412000.out) (Kd.N_base ho0) hb); have n3_ := ak_ (Kd.R_below (Kd.pR HO_427000.out) hb); have n4_ := ak_ (Kd.N_lower (Kd.N_mono (ok' := fun k_ => (P0_0_ k_ ∨ w.heap.size ≤ k_) ∧ some k_ ≠ (.slice (some ad428) t412.length co25 : Value).ownBlock ∧ some k_ ≠ (u8 : Value).ownBlock ∧ some k_ ≠ (.slice Ao23 x427000_1.length co23 : Value).ownBlock ∧ k_ ≠ gb411 ∧ k_ ≠ gb426) ho0 (fun k_ hk_ => ⟨(.inr (Nat.le_trans (bz_ bl_) hk_)), (Kd.fresh' (Kd.R_lt (Kd.pR HO_5.out)) k_ hk_), (Kd.fresh' (Kd.N_lt (Kd.pN HO_8.out)) k_ hk_), (Kd.fresh' (Kd.R_lt (Kd.pR HO_427000.out)) k_ hk_), (Kd.freshB (pk BK411.out) k_ hk_), (Kd.freshB (pk BK426.out) k_ hk_)⟩)) (bz_ bl_)); have n5_ := ak_ (blk_below (pk BK411.out) hb); have n6_ := ak_ (blk_below (pk BK426.out) hb); have n7_ := ak_ (bs_ bl_ hb); clear HO_5; clear HO_8; clear HO_412000; clear HO_427000; clear BK411; clear BK426; clear HB; have HO_5 := n0_; have HO_8 := n1_; have HO_412000 := n2_; have HO_427000 := n3_; have HO431 := n4_; have BK411 := n5_; have BK426 := n6_; have HB := n7_; clear n0_ n1_ n2_ n3_ n4_ n5_ n6_ n7_; (try clear hb); (try clear hb2); (try clear hk); (try clear hi); (try clear ho0); obtain ⟨Ao32, co32, eo32⟩ := Kd.N_slice HO431.out; subst eo32))
      go_loopg [8, 32] k1 (fun kq v8 v32 w' => ∃ (x8_2 : List (List Int)) (x32_2 : Int) (x427000_2 : List Bool) (x427001_2 : Bool) (u427000 : Value), v32 = .int .i64 x32_2 ∧ Aside0 (spec_loFirst.l1 kq a1 t412 x8_2 t429 (t429.length : Int) x32_2 l0_0 l0_1 a0_2 x427000_2 x427001_2 = some r) ∧ Aside0 (kq ≤ k1) ∧ Aside0 (Kd.R (Kd.int .i64) 3 w' w.heap.size (fun k_ => (w.heap.size ≤ k_)) (.slice (some ad428) t412.length co25) t412) ∧ Aside0 (Kd.N (Kd.slice 3 (Kd.int .i64)) 29 w' w.heap.size (fun k_ => (P0_0_ k_ ∨ w.heap.size ≤ k_) ∧ some k_ ≠ ((.slice (some ad428) t412.length co25) : Value).ownBlock ∧ some k_ ≠ ((.slice Ao32 t429.length co32) : Value).ownBlock ∧ some k_ ≠ (u427000 : Value).ownBlock ∧ k_ ≠ gb411 ∧ k_ ≠ gb426) v8 x8_2) ∧ Aside0 (Kd.N (Kd.slice 3 (Kd.int .i64)) 29 w' w.heap.size (fun k_ => (P0_0_ k_ ∨ w.heap.size ≤ k_) ∧ some k_ ≠ ((.slice (some ad428) t412.length co25) : Value).ownBlock ∧ some k_ ≠ (v8 : Value).ownBlock ∧ some k_ ≠ (u427000 : Value).ownBlock ∧ k_ ≠ gb411 ∧ k_ ≠ gb426) (.slice Ao32 t429.length co32) t429) ∧ Aside0 (Kd.V (Kd.int .i64) 3 w' w.heap.size (fun k_ => (P0_0_ k_ ∨ w.heap.size ≤ k_) ∧ some k_ ≠ ((.slice (some ad428) t412.length co25) : Value).ownBlock ∧ some k_ ≠ (v8 : Value).ownBlock ∧ some k_ ≠ ((.slice Ao32 t429.length co32) : Value).ownBlock ∧ some k_ ≠ (u427000 : Value).ownBlock ∧ k_ ≠ gb411 ∧ k_ ≠ gb426) (.slice A0_0 l0_0.length c0_0) l0_0) ∧ Aside0 (Kd.R Kd.bool 4 w' w.heap.size (fun k_ => (w.heap.size ≤ k_)) u427000 x427000_2) ∧ Aside0 (w'.heap[gb411]? = some (.cells #[(.slice A0_0 l0_0.length c0_0), (.slice A0_1 l0_1.length c0_1), .int .i64 a0_2] 43 (0, 0))) ∧ Aside0 (w'.heap[gb426]? = some (.cells #[u427000, .bool x427001_2] 115 (0, 0))) ∧ Aside0 (Below w.heap.size w w'))
      case atStart => exact ⟨(x8_1), (0), (x427000_1), (x427001_1), (.slice Ao23 x427000_1.length co23), (ry_), H', ⟨Nat.le_refl _⟩, ⟨Kd.pR HO_5.out⟩, ⟨by (with_reducible repeat (first | apply Kd.N_alloc | apply Kd.N_drewN | apply Kd.N_drew)); exact Kd.N_mono HO_8.out (fun _ hk => ⟨hk.1.1, ⟨hk.1.2.1, ⟨hk.2, ⟨hk.1.2.2.1, ⟨hk.1.2.2.2.1, hk.1.2.2.2.2⟩⟩⟩⟩⟩)⟩, ⟨Kd.pN HO431.out⟩, ⟨by (with_reducible repeat (first | apply Kd.V_alloc | apply Kd.V_drewN | apply Kd.V_drew)); exact Kd.V_mono HO_412000.out (fun _ hk => ⟨hk.1.1, ⟨hk.1.2.1, ⟨hk.1.2.2.1, ⟨hk.2, ⟨hk.1.2.2.2.1, ⟨hk.1.2.2.2.2.1, hk.1.2.2.2.2.2⟩⟩⟩⟩⟩⟩)⟩, ⟨Kd.pR HO_427000.out⟩, ⟨pk BK411.out⟩, ⟨pk BK426.out⟩, ⟨by repeat (first | exact HB.out | apply ba_ | apply bN_ | apply b1_ | refine below_set ?_ (Aside0.out (by assumption)))⟩⟩
      case round =>
       clear H'
       try clear c1
       try clear c2
       try clear p2
       try clear p4
       try clear q4
       try clear hx4
       try clear c5
       try clear c6
       try clear c9
       try clear c10
       try clear c15
       try clear c18
       try clear c18b0
       try clear c19
       try clear c19b0
       try clear c21
       try clear c26
       try clear c26b0
       try clear c28
       try clear hcz16_0
       try clear hcz16_1
       try clear hcz22_0
       try clear hcz22_1
       try clear hcz29_0
       try clear hcz29_1
       try clear hcz29_2
       try clear hcz30_0
       try clear hcz30_1
       try clear hcz7_0
       try clear hcz7_1
       try clear hcz7_2
       try clear hcz9_0
       try clear hcz9_1
       try clear hcz9_2
       try clear hfz16_0
       try clear hfz16_1
       try clear hfz22_0
       try clear hfz22_1
       try clear hfz29_0
       try clear hfz29_1
       try clear hfz29_2
       try clear hfz30_0
       try clear hfz30_1
       try clear hfz7_0
       try clear hfz7_1
       try clear hfz7_2
       try clear hfz9_0
       try clear hfz9_1
       try clear hfz9_2
       try clear hx428_0
       try clear p2
       try clear p428
       try clear q428
       obtain ⟨x8_2, x32_2, x427000_2, x427001_2, u427000, rfl, HA, HK2, HO_5, HO_8, HO_30, HO_412000, HO_427000, BK411, BK426, HB⟩ := hrel
       cases gk with
       | zero => exact absurd HA.out (by simp [spec_loFirst.l1])
       | succ k2 =>
        have H := HA.out
        clear HA
        simp only [spec_loFirst.l1] at H
        by_cases c33 : x32_2 < (t429.length : Int)
        ·
         rw [if_pos c33] at H
         have c33b0 : decide (x32_2 < (t429.length : Int)) = true := decide_eq_true c33
         clear c33
         by_cases c34 : 0 ≤ x32_2
         ·
          rw [if_pos c34] at H
          have c34b0 : decide (0 ≤ x32_2) = true := decide_eq_true c34
          clear c34
          by_cases c35 : x32_2 < (t429.length : Int)
          ·
           rw [if_pos c35] at H
           have c35b0 : decide (x32_2 < (t429.length : Int)) = true := decide_eq_true c35
           clear c35
           replace H := Option.bind_eq_some_iff.mp H
           obtain ⟨⟨t433, t436⟩, A360, H⟩ := H
           replace H : ((spec_seIndex.f k2 t433 t436).bind fun t438 => (if 0 ≤ t438 then (if t438 < (t412.length : Int) then (if (rd t412 t438) ≥ 0 then ((spec_loCost.f k2 l0_0 l0_1 a0_2 (rd_L2 t429 x32_2) a1).bind fun t440 => ((spec_seIndex.f k2 x427000_2 x427001_2).bind fun t441 => (if 0 ≤ t441 then (if t441 < (t412.length : Int) then (if (wrap64 ((rd t412 t438) + t440)) = (rd t412 t441) then (if x8_2.length < 5864062014805 then (spec_loFirst.l0 k2 a1 t412 (x8_2 ++ [rd_L2 t429 x32_2]) l0_0 l0_1 a0_2 t433 t436) else (none)) else (spec_loFirst.l1 k2 a1 t412 x8_2 t429 (t429.length : Int) (wrap64 (x32_2 + 1)) l0_0 l0_1 a0_2 x427000_2 x427001_2)) else (none)) else (none)))) else (spec_loFirst.l1 k2 a1 t412 x8_2 t429 (t429.length : Int) (wrap64 (x32_2 + 1)) l0_0 l0_1 a0_2 x427000_2 x427001_2)) else (none)) else (none))) = some r := H
           have A36 := ak_ A360
           clear A360
           replace H := Option.bind_eq_some_iff.mp H
           obtain ⟨t438, A370, H⟩ := H
           replace H : (if 0 ≤ t438 then (if t438 < (t412.length : Int) then (if (rd t412 t438) ≥ 0 then ((spec_loCost.f k2 l0_0 l0_1 a0_2 (rd_L2 t429 x32_2) a1).bind fun t440 => ((spec_seIndex.f k2 x427000_2 x427001_2).bind fun t441 => (if 0 ≤ t441 then (if t441 < (t412.length : Int) then (if (wrap64 ((rd t412 t438) + t440)) = (rd t412 t441) then (if x8_2.length < 5864062014805 then (spec_loFirst.l0 k2 a1 t412 (x8_2 ++ [rd_L2 t429 x32_2]) l0_0 l0_1 a0_2 t433 t436) else (none)) else (spec_loFirst.l1 k2 a1 t412 x8_2 t429 (t429.length : Int) (wrap64 (x32_2 + 1)) l0_0 l0_1 a0_2 x427000_2 x427001_2)) else (none)) else (none)))) else (spec_loFirst.l1 k2 a1 t412 x8_2 t429 (t429.length : Int) (wrap64 (x32_2 + 1)) l0_0 l0_1 a0_2 x427000_2 x427001_2)) else (none)) else (none)) = some r := H
           have A37 := ak_ A370
           clear A370
           by_cases c38 : 0 ≤ t438
           ·
            rw [if_pos c38] at H
            have c38b0 : decide (0 ≤ t438) = true := decide_eq_true c38
            clear c38
            by_cases c39 : t438 < (t412.length : Int)
            ·
             rw [if_pos c39] at H
             have c39b0 : decide (t438 < (t412.length : Int)) = true := decide_eq_true c39
             clear c39
             have HC40 := ak_ H
             clear H
             have p432 : 0 ≤ (x32_2 : Int) := odt_ (by assumption)
             have q432 : x32_2 < (t429.length : Int) := odt_ (by assumption)
             obtain ⟨ad432, A432_0, c432_0, e432, hx432_0, hl432_0, hi432_0⟩ := at_L2 (Kd.N_reads' HO_30.out).2.2 x32_2 p432 q432
             cases e432
             obtain ⟨ce432, hce432, hMe432, hcc432⟩ := Kd.N_get HO_30.out [] x32_2 p432 (by first | exact q432 | exact odt_ (by assumption) | (have e_ := (Kd.N_reads' HO_30.out).1; omega))
             obtain ⟨ua432_0, uc432_0, rfl, ul432_0, ge432_0⟩ := Kd.FK_slice_open hMe432
             have hv432_0 := hcc432 0 _ rfl
             rw [Nat.add_zero, show ((Kd.slice 3 (Kd.int .i64))).sz = 1 from rfl, Nat.mul_one] at hv432_0
             replace hv432_0 := Option.some.inj (hv432_0.symm.trans hx432_0)
             injection hv432_0 with hva_ hvn_ hvc_
             rw [hva_] at ge432_0
             rw [hvc_] at ul432_0
             have HL432_0 := ak_ (show Kd.V (Kd.int .i64) 3 _ w.heap.size _ _ (rd_L2 t429 x32_2) from Kd.V_mk ul432_0 ge432_0)
             clear hva_ hvn_ hvc_ ge432_0 ul432_0 hcc432 hce432
             have HR432_0 := ak_ hi432_0
             have HC432_0 := ak_ hl432_0
             clear hi432_0 hl432_0
             replace p432 := eq_true p432
             replace q432 := eq_true q432
             have hnb41 := NB426_411.out
             have hnc41 := NB411_426.out
             have hcz42_0 : wr.cell? ⟨gb426, 0, none⟩ = some (u427000) := (blk_cell BK426.out 0).trans rfl
             have hcz42_1 : wr.cell? ⟨gb426, 1, none⟩ = some (.bool x427001_2) := (blk_cell BK426.out 1).trans rfl
             have hfz42_0 := blk_frozen BK426.out 0
             have hfz42_1 := blk_frozen BK426.out 1
             obtain ⟨Ao43, co43, eo43⟩ := Kd.R_slice HO_427000.out
             subst eo43
             go_upto_region 10 with (first | ((with_reducible refine gate_callee (f := 96) rfl ?_); refine goesL_ (some 38) rfl rfl Try.func96 (by kernel_rfl) rfl #[.agg #[.slice Ao43 x427000_2.length co43, .bool x427001_2], .slice A432_0 (rd_L2 t429 x32_2).length c432_0] rfl (by first | rfl | (simp only [map_toArray, map_cons, map_nil]; try rfl)) ?_; (with_reducible refine (spec_paCross.calls k2 _ _ x427000_2 x427001_2 _ _ (rd_L2 t429 x32_2) t433 t436 _ ?side1 ?side2 ?side3 ?side4 A36.out).mono ?_); (case side1 => repeat (first | exact (Kd.R_reads' HO_427000.out).2.2 | (with_reducible refine Kd.C_alloc ?_ _) | (with_reducible refine Kd.C_drewN ?_ _) | (with_reducible refine Kd.C_drew ?_))); (case side2 => exact (Kd.R_reads' HO_427000.out).2.1); (case side3 => repeat (first | exact (by repeat (first | (with_reducible exact HR432_0.out) | (with_reducible refine Kd.C_alloc ?_ _) | (with_reducible refine Kd.C_drewN ?_ _) | (with_reducible refine Kd.C_drew ?_) | exact HR432_0.out)) | (with_reducible refine Kd.C_alloc ?_ _) | (with_reducible refine Kd.C_drewN ?_ _) | (with_reducible refine Kd.C_drew ?_))); (case side4 => exact HC432_0.out); rintro e w44 ⟨v434, rfl, ho0, hb⟩; refine ⟨_, rfl, ?_⟩; have n0_ := ak_ (Kd.R_below (Kd.pR HO_5.out) hb); have n1_ := ak_ (Kd.N_elder' (Kd.pN HO_8.out) (Kd.R_base ho0) hb); have n2_ := ak_ (Kd.N_elder' (Kd.pN HO_30.out) (Kd.R_base ho0) hb); have n3_ := ak_ (Kd.V_elder' (Kd.pV HO_412000.out) (Kd.R_base ho0) hb); have n4_ := ak_ (Kd.R_elder' (Kd.pR HO_427000.out) (Kd.R_base ho0) hb); have n5_ := ak_ (Kd.V_elder' (Kd.pV HL432_0.out) (Kd.R_base ho0) hb); have n6_ := ak_ (Kd.R_lower (Kd.R_new' (Kd.R_newM (M := fun k_ => (w.heap.size ≤ k_)) ho0 (bz_ bl_) (fun k_ h_ => h_)) (Kd.R_lt (Kd.pR HO_427000.out))) (bz_ bl_)); have n7_ := ak_ (blk_below (pk BK411.out) hb); have n8_ := ak_ (blk_below (pk BK426.out) hb); have n9_ := ak_ (Kd.C_below (by repeat (first | (with_reducible exact HR432_0.out) | (with_reducible refine Kd.C_alloc ?_ _) | (with_reducible refine Kd.C_drewN ?_ _) | (with_reducible refine Kd.C_drew ?_) | exact HR432_0.out)) hb); have n10_ := ak_ (bs_ bl_ hb); clear HO_5; clear HO_8; clear HO_30; clear HO_412000; clear HO_427000; clear HL432_0; clear BK411; clear BK426; clear HR432_0; clear HB; have HO_5 := n0_; have HO_8 := n1_; have HO_30 := n2_; have HO_412000 := n3_; have HO_427000 := n4_; have HL432_0 := n5_; have HO435 := n6_; have BK411 := n7_; have BK426 := n8_; have HR432_0 := n9_; have HB := n10_; clear n0_ n1_ n2_ n3_ n4_ n5_ n6_ n7_ n8_ n9_ n10_; (try clear hb); (try clear hb2); (try clear hk); (try clear hi); (try clear ho0)) | ((with_reducible refine gate_dst (N := 11) rfl ?_); refine bx_ 11 #[.slice none 0 0, .bool false] 115 ?_; intro gb437 hg w45 hbox hb; have n0_ := ak_ (Kd.R_below (Kd.pR HO_5.out) hb); have n1_ := ak_ (Kd.N_below (Kd.N_elderB (Kd.pN HO_8.out) gb437 (Nat.le_of_eq hg.symm)) hb); have n2_ := ak_ (Kd.N_below (Kd.N_elderB (Kd.pN HO_30.out) gb437 (Nat.le_of_eq hg.symm)) hb); have n3_ := ak_ (Kd.V_below (Kd.V_elderB (Kd.pV HO_412000.out) gb437 (Nat.le_of_eq hg.symm)) hb); have n4_ := ak_ (Kd.R_below (Kd.pR HO_427000.out) hb); have n5_ := ak_ (Kd.V_below (Kd.V_elderB (Kd.pV HL432_0.out) gb437 (Nat.le_of_eq hg.symm)) hb); have n6_ := ak_ (Kd.R_below (Kd.pR HO435.out) hb); have n7_ := ak_ (blk_below (pk BK411.out) hb); have n8_ := ak_ (blk_below (pk BK426.out) hb); have n9_ := ak_ (Kd.C_below (by repeat (first | (with_reducible exact HR432_0.out) | (with_reducible refine Kd.C_alloc ?_ _) | (with_reducible refine Kd.C_drewN ?_ _) | (with_reducible refine Kd.C_drew ?_) | exact HR432_0.out)) hb); have n10_ := ak_ (bs_ bl_ hb); have n11_ := ak_ (hbox); have n12_ := ak_ ((by rw [hg]; exact (bz_ bl_) : w.heap.size ≤ gb437)); have n13_ := n12_; have n14_ := ak_ ((by rw [hg]; exact Nat.ne_of_lt (blk_lt (pk BK411.out)) : gb411 ≠ gb437)); have n15_ := ak_ n14_.out.symm; have n16_ := ak_ ((by rw [hg]; exact Nat.ne_of_lt (blk_lt (pk BK426.out)) : gb426 ≠ gb437)); have n17_ := ak_ n16_.out.symm; clear HO_5; clear HO_8; clear HO_30; clear HO_412000; clear HO_427000; clear HL432_0; clear HO435; clear BK411; clear BK426; clear HR432_0; clear HB; have HO_5 := n0_; have HO_8 := n1_; have HO_30 := n2_; have HO_412000 := n3_; have HO_427000 := n4_; have HL432_0 := n5_; have HO435 := n6_; have BK411 := n7_; have BK426 := n8_; have HR432_0 := n9_; have HB := n10_; have BK437 := n11_; have GW437 := n12_; have GE437 := n13_; have NB411_437 := n14_; have NB437_411 := n15_; have NB426_437 := n16_; have NB437_426 := n17_; clear n0_ n1_ n2_ n3_ n4_ n5_ n6_ n7_ n8_ n9_ n10_ n11_ n12_ n13_ n14_ n15_ n16_ n17_; clear hb hbox hg; obtain ⟨Ao46, co46, eo46⟩ := Kd.R_slice HO435.out; subst eo46; have hnb47 := NB437_411.out; have hnc47 := NB411_437.out; have hnb48 := NB437_426.out; have hnc48 := NB426_437.out; have hcz49_0 : w45.cell? ⟨gb437, 0, none⟩ = some (.slice none 0 0) := (blk_cell BK437.out 0).trans rfl; have hcz49_1 : w45.cell? ⟨gb437, 1, none⟩ = some (.bool false) := (blk_cell BK437.out 1).trans rfl; have hfz49_0 := blk_frozen BK437.out 0; have hfz49_1 := blk_frozen BK437.out 1) | ((with_reducible refine gate_callee (f := 91) rfl ?_); refine goesL_ (some 41) rfl rfl Try.func91 (by kernel_rfl) rfl #[.agg #[.slice Ao46 t433.length co46, .bool t436]] rfl (by first | rfl | (simp only [map_toArray, map_cons, map_nil]; try rfl)) ?_; (with_reducible refine (spec_seIndex.calls k2 _ _ t433 t436 t438 _ ?side1 ?side2 A37.out).mono ?_); (case side1 => refine (Kd.R_reads' (e := 4) (base := w.heap.size) (ok := fun k_ => (((w.heap.size ≤ k_) ∧ True) ∧ some k_ ≠ (.slice Ao43 x427000_2.length co43 : Value).ownBlock)) (n := t433.length) (c := co46) ?_).2.2; exact (by (with_reducible repeat (first | apply Kd.R_alloc | apply Kd.R_drewN | apply Kd.R_drew)); exact (Kd.R_mono (Kd.R_far (p := ⟨gb437, 1, none⟩) (Kd.R_far (p := ⟨gb437, 0, none⟩) (Kd.R_types HO435.out BK437.out (by decide)) (fun _ hk => hk.2) (.slice Ao46 t433.length co46)) (fun _ hk => hk.2) (.bool t436)) (fun _ h_ => h_.1)))); (case side2 => exact (Kd.R_reads' HO435.out).2.1); rintro e w50 ⟨rfl, hb⟩; refine ⟨_, rfl, ?_⟩; have n0_ := ak_ (Kd.R_below (by (with_reducible repeat (first | apply Kd.R_alloc | apply Kd.R_drewN | apply Kd.R_drew)); exact (Kd.R_mono (Kd.R_far (p := ⟨gb437, 1, none⟩) (Kd.R_far (p := ⟨gb437, 0, none⟩) (Kd.R_types HO_5.out BK437.out (by decide)) (fun _ hk => hk.2) (.slice Ao46 t433.length co46)) (fun _ hk => hk.2) (.bool t436)) (fun _ h_ => h_.1))) hb); have n1_ := ak_ (Kd.N_below (by (with_reducible repeat (first | apply Kd.N_alloc | apply Kd.N_drewN | apply Kd.N_drew)); exact (Kd.N_mono (Kd.N_far (p := ⟨gb437, 1, none⟩) (Kd.N_far (p := ⟨gb437, 0, none⟩) (Kd.N_mono HO_8.out (fun k_ hk => (⟨hk, hk.2⟩ : _ ∧ k_ ≠ gb437))) (fun _ hk => hk.2) (.slice Ao46 t433.length co46)) (fun _ hk => hk.2) (.bool t436)) (fun _ h_ => h_.1))) hb); have n2_ := ak_ (Kd.N_below (by (with_reducible repeat (first | apply Kd.N_alloc | apply Kd.N_drewN | apply Kd.N_drew)); exact (Kd.N_mono (Kd.N_far (p := ⟨gb437, 1, none⟩) (Kd.N_far (p := ⟨gb437, 0, none⟩) (Kd.N_mono HO_30.out (fun k_ hk => (⟨hk, hk.2⟩ : _ ∧ k_ ≠ gb437))) (fun _ hk => hk.2) (.slice Ao46 t433.length co46)) (fun _ hk => hk.2) (.bool t436)) (fun _ h_ => h_.1))) hb); have n3_ := ak_ (Kd.V_below (by (with_reducible repeat (first | apply Kd.V_alloc | apply Kd.V_drewN | apply Kd.V_drew)); exact (Kd.V_mono (Kd.V_far (p := ⟨gb437, 1, none⟩) (Kd.V_far (p := ⟨gb437, 0, none⟩) (Kd.V_mono HO_412000.out (fun k_ hk => (⟨hk, hk.2⟩ : _ ∧ k_ ≠ gb437))) (fun _ hk => hk.2) (.slice Ao46 t433.length co46)) (fun _ hk => hk.2) (.bool t436)) (fun _ h_ => h_.1))) hb); have n4_ := ak_ (Kd.R_below (by (with_reducible repeat (first | apply Kd.R_alloc | apply Kd.R_drewN | apply Kd.R_drew)); exact (Kd.R_mono (Kd.R_far (p := ⟨gb437, 1, none⟩) (Kd.R_far (p := ⟨gb437, 0, none⟩) (Kd.R_types HO_427000.out BK437.out (by decide)) (fun _ hk => hk.2) (.slice Ao46 t433.length co46)) (fun _ hk => hk.2) (.bool t436)) (fun _ h_ => h_.1))) hb); have n5_ := ak_ (Kd.V_below (by (with_reducible repeat (first | apply Kd.V_alloc | apply Kd.V_drewN | apply Kd.V_drew)); exact (Kd.V_mono (Kd.V_far (p := ⟨gb437, 1, none⟩) (Kd.V_far (p := ⟨gb437, 0, none⟩) (Kd.V_mono HL432_0.out (fun k_ hk => (⟨hk, hk.2⟩ : _ ∧ k_ ≠ gb437))) (fun _ hk => hk.2) (.slice Ao46 t433.length co46)) (fun _ hk => hk.2) (.bool t436)) (fun _ h_ => h_.1))) hb); have n6_ := ak_ (Kd.R_below (by (with_reducible repeat (first | apply Kd.R_alloc | apply Kd.R_drewN | apply Kd.R_drew)); exact (Kd.R_mono (Kd.R_far (p := ⟨gb437, 1, none⟩) (Kd.R_far (p := ⟨gb437, 0, none⟩) (Kd.R_types HO435.out BK437.out (by decide)) (fun _ hk => hk.2) (.slice Ao46 t433.length co46)) (fun _ hk => hk.2) (.bool t436)) (fun _ h_ => h_.1))) hb); have n7_ := ak_ (blk_below (g := gb411) (o := .cells #[.slice A0_0 l0_0.length c0_0, .slice A0_1 l0_1.length c0_1, .int .i64 a0_2] 43 (0, 0)) (by (with_reducible repeat (first | refine kN_ ?_ _ | refine k1_ ?_ | refine ka_ ?_ _)); refine blk_far ?_ NB411_437.out _; (with_reducible repeat (first | refine kN_ ?_ _ | refine k1_ ?_ | refine ka_ ?_ _)); refine blk_far ?_ NB411_437.out _; exact pk BK411.out) hb); have n8_ := ak_ (blk_below (g := gb426) (o := .cells #[.slice Ao43 x427000_2.length co43, .bool x427001_2] 115 (0, 0)) (by (with_reducible repeat (first | refine kN_ ?_ _ | refine k1_ ?_ | refine ka_ ?_ _)); refine blk_far ?_ NB426_437.out _; (with_reducible repeat (first | refine kN_ ?_ _ | refine k1_ ?_ | refine ka_ ?_ _)); refine blk_far ?_ NB426_437.out _; exact pk BK426.out) hb); have n9_ := ak_ (Kd.C_below ((Kd.V_reads' (by (with_reducible repeat (first | apply Kd.V_alloc | apply Kd.V_drewN | apply Kd.V_drew)); exact (Kd.V_mono (Kd.V_far (p := ⟨gb437, 1, none⟩) (Kd.V_far (p := ⟨gb437, 0, none⟩) (Kd.V_mono HL432_0.out (fun k_ hk => (⟨hk, hk.2⟩ : _ ∧ k_ ≠ gb437))) (fun _ hk => hk.2) (.slice Ao46 t433.length co46)) (fun _ hk => hk.2) (.bool t436)) (fun _ h_ => h_.1)))).2.2) hb); have n10_ := ak_ (blk_below (g := gb437) (o := .cells #[.slice Ao46 t433.length co46, .bool t436] 115 (0, 0)) (by (with_reducible repeat (first | refine kN_ ?_ _ | refine k1_ ?_ | refine ka_ ?_ _)); refine blk_put (cs := #[.slice Ao46 t433.length co46, .bool false]) ?_ 1 _ rfl; (with_reducible repeat (first | refine kN_ ?_ _ | refine k1_ ?_ | refine ka_ ?_ _)); refine blk_put (cs := #[.slice none 0 0, .bool false]) ?_ 0 _ rfl; exact pk BK437.out) hb); have n11_ := ak_ (bs_ bl_ hb); clear HO_5; clear HO_8; clear HO_30; clear HO_412000; clear HO_427000; clear HL432_0; clear HO435; clear BK411; clear BK426; clear HR432_0; clear BK437; clear HB; have HO_5 := n0_; have HO_8 := n1_; have HO_30 := n2_; have HO_412000 := n3_; have HO_427000 := n4_; have HL432_0 := n5_; have HO435 := n6_; have BK411 := n7_; have BK426 := n8_; have HR432_0 := n9_; have BK437 := n10_; have HB := n11_; clear n0_ n1_ n2_ n3_ n4_ n5_ n6_ n7_ n8_ n9_ n10_ n11_; (try clear hb); (try clear hb2); (try clear hk); (try clear hi); have p439 : 0 ≤ (t438 : Int) := odt_ (by assumption); have q439 : t438 < (t412.length : Int) := odt_ (by assumption); obtain ⟨ad439, e439, hx439_0⟩ := Kd.at_int (Kd.R_reads' HO_5.out).2.2 t438 p439 q439; obtain rfl : ad428 = ad439 := (by injection e439); replace p439 := eq_true p439; replace q439 := eq_true q439))
             (try simp only [Act.put, setIfInBounds_toArray, set_cons_zero, set_cons_succ])
             have H := HC40.out
             clear HC40
             by_cases c51 : (rd t412 t438) ≥ 0
             ·
              rw [if_pos c51] at H
              have c51b0 : decide (0 ≤ (rd t412 t438)) = true := decide_eq_true c51
              clear c51
              replace H := Option.bind_eq_some_iff.mp H
              obtain ⟨t440, A520, H⟩ := H
              replace H : ((spec_seIndex.f k2 x427000_2 x427001_2).bind fun t441 => (if 0 ≤ t441 then (if t441 < (t412.length : Int) then (if (wrap64 ((rd t412 t438) + t440)) = (rd t412 t441) then (if x8_2.length < 5864062014805 then (spec_loFirst.l0 k2 a1 t412 (x8_2 ++ [rd_L2 t429 x32_2]) l0_0 l0_1 a0_2 t433 t436) else (none)) else (spec_loFirst.l1 k2 a1 t412 x8_2 t429 (t429.length : Int) (wrap64 (x32_2 + 1)) l0_0 l0_1 a0_2 x427000_2 x427001_2)) else (none)) else (none))) = some r := H
              have A52 := ak_ A520
              clear A520
              replace H := Option.bind_eq_some_iff.mp H
              obtain ⟨t441, A530, H⟩ := H
              replace H : (if 0 ≤ t441 then (if t441 < (t412.length : Int) then (if (wrap64 ((rd t412 t438) + t440)) = (rd t412 t441) then (if x8_2.length < 5864062014805 then (spec_loFirst.l0 k2 a1 t412 (x8_2 ++ [rd_L2 t429 x32_2]) l0_0 l0_1 a0_2 t433 t436) else (none)) else (spec_loFirst.l1 k2 a1 t412 x8_2 t429 (t429.length : Int) (wrap64 (x32_2 + 1)) l0_0 l0_1 a0_2 x427000_2 x427001_2)) else (none)) else (none)) = some r := H
              have A53 := ak_ A530
              clear A530
              by_cases c54 : 0 ≤ t441
              ·
               rw [if_pos c54] at H
               have c54b0 : decide (0 ≤ t441) = true := decide_eq_true c54
               clear c54
               by_cases c55 : t441 < (t412.length : Int)
               ·
                rw [if_pos c55] at H
                have c55b0 : decide (t441 < (t412.length : Int)) = true := decide_eq_true c55
                clear c55
                have HC56 := ak_ H
                clear H
                try go_wp2
                have n0_ := ak_ (Kd.R_drew HO_5.out)
                have n1_ := ak_ (Kd.N_drew HO_8.out)
                have n2_ := ak_ (Kd.N_drew HO_30.out)
                have n3_ := ak_ (Kd.V_drew HO_412000.out)
                have n4_ := ak_ (Kd.R_drew HO_427000.out)
                have n5_ := ak_ (Kd.V_drew HL432_0.out)
                have n6_ := ak_ (Kd.R_drew HO435.out)
                have n7_ := ak_ (k1_ BK411.out)
                have n8_ := ak_ (k1_ BK426.out)
                have n9_ := ak_ (k1_ BK437.out)
                have n10_ := ak_ (Kd.C_drew HR432_0.out)
                have n11_ := ak_ (b1_ HB.out)
                clear HO_5 HO_8 HO_30 HO_412000 HO_427000 HL432_0 HO435 BK411 BK426 BK437 HR432_0 HB
                have HO_5 := n0_; have HO_8 := n1_; have HO_30 := n2_; have HO_412000 := n3_; have HO_427000 := n4_; have HL432_0 := n5_; have HO435 := n6_; have BK411 := n7_; have BK426 := n8_; have BK437 := n9_; have HR432_0 := n10_; have HB := n11_
                clear n0_ n1_ n2_ n3_ n4_ n5_ n6_ n7_ n8_ n9_ n10_ n11_
                have p442 : 0 ≤ (t441 : Int) := odt_ (by assumption)
                have q442 : t441 < (t412.length : Int) := odt_ (by assumption)
                obtain ⟨ad442, e442, hx442_0⟩ := Kd.at_int (Kd.R_reads' HO_5.out).2.2 t441 p442 q442
                obtain rfl : ad428 = ad442 := (by injection e442)
                replace p442 := eq_true p442
                replace q442 := eq_true q442
                refine start_ (n := 16) (S := fun w' => w'.cell? ⟨gb411, 0, none⟩ = some (.slice A0_0 l0_0.length c0_0) ∧ w'.cell? ⟨gb411, 1, none⟩ = some (.slice A0_1 l0_1.length c0_1) ∧ w'.cell? ⟨gb411, 2, none⟩ = some (.int .i64 a0_2) ∧ w'.cell? ⟨gb426, 0, none⟩ = some (.slice Ao43 x427000_2.length co43) ∧ w'.cell? ⟨gb426, 1, none⟩ = some (.bool x427001_2) ∧ w'.cell? (ad428.add (t441).toNat) = some (.int .i64 (rd t412 t441))) (ds := []) (mb_ 16 0) (by kernel_rfl) rfl rfl ⟨(blk_cell BK411.out 0).trans rfl, (blk_cell BK411.out 1).trans rfl, (blk_cell BK411.out 2).trans rfl, (blk_cell BK426.out 0).trans rfl, (blk_cell BK426.out 1).trans rfl, hx442_0⟩ (fun hHeld => ?_); refine with_tabW spec_loFirst.tab10 spec_loFirst.bits10 (fun HT_ HW_ => ?_)
                generalize w50.drew = w57 at HO_5 HO_8 HO_30 HO_412000 HO_427000 HL432_0 HO435 BK411 BK426 BK437 HR432_0 HB hx442_0 hHeld ⊢
                refine pu_ 0 44 16 1 ?_
                refine pu_ 1 45 16 3 ?_
                refine pu_ 2 46 16 7 ?_
                refine pu_ 3 47 16 15 ?_
                refine pu_ 5 49 16 47 ?_
                refine pu_ 6 50 16 111 ?_
                refine pu_ 9 53 16 623 ?_
                refine tk_ 4 48 16 639 ?_ (hy := by rintro w' ⟨s0, s1, s2, s3, s4, s5⟩; go_simp; with_reducible rfl)
                refine tk_ 10 54 16 1663 ?_ (hy := by rintro w' ⟨s0, s1, s2, s3, s4, s5⟩; go_simp; with_reducible rfl)
                refine on_ 7 51 16 1791 (fun K hK => ?_)
                refine goes_ Try.func101 (by kernel_rfl) rfl #[.agg #[.slice A0_0 l0_0.length c0_0, .slice A0_1 l0_1.length c0_1, .int .i64 a0_2], .slice A432_0 (rd_L2 t429 x32_2).length c432_0, .bool a1] (by rfl) rfl rfl (by first | rfl | (simp only [map_toArray, map_cons, map_nil]; try rfl)) ?_
                with_reducible refine (spec_loCost.calls k2 _ _ l0_0 _ _ l0_1 a0_2 _ _ (rd_L2 t429 x32_2) a1 t440 _ ?side1 ?side2 ?side3 ?side4 ?side5 ?side6 A52.out).mono ?_
                (case side1 => repeat (first | exact (Kd.V_reads' HO_412000.out).2.2 | (with_reducible refine Kd.C_alloc ?_ _) | (with_reducible refine Kd.C_drewN ?_ _) | (with_reducible refine Kd.C_drew ?_)))
                (case side2 => exact (Kd.V_reads' HO_412000.out).2.1)
                (case side3 => repeat (first | exact (Kd.C_below HR0_1.out HB.out) | (with_reducible refine Kd.C_alloc ?_ _) | (with_reducible refine Kd.C_drewN ?_ _) | (with_reducible refine Kd.C_drew ?_)))
                (case side4 => exact HC0_1.out)
                (case side5 => repeat (first | exact (by repeat (first | (with_reducible exact HR432_0.out) | (with_reducible refine Kd.C_alloc ?_ _) | (with_reducible refine Kd.C_drewN ?_ _) | (with_reducible refine Kd.C_drew ?_) | exact HR432_0.out)) | (with_reducible refine Kd.C_alloc ?_ _) | (with_reducible refine Kd.C_drewN ?_ _) | (with_reducible refine Kd.C_drew ?_)))
                (case side6 => exact HC432_0.out)
                rintro e w58 ⟨rfl, hb⟩
                have HS5_ := (hb.cell (World.block_lt_of_cell? _ _ (hHeld.2.2.2.2.2))).trans (hHeld.2.2.2.2.2)
                refine ⟨_, rfl, ?_⟩
                have n0_ := ak_ (Kd.R_below (Kd.pR HO_5.out) hb)
                have n1_ := ak_ (Kd.N_below (Kd.pN HO_8.out) hb)
                have n2_ := ak_ (Kd.N_below (Kd.pN HO_30.out) hb)
                have n3_ := ak_ (Kd.V_below (Kd.pV HO_412000.out) hb)
                have n4_ := ak_ (Kd.R_below (Kd.pR HO_427000.out) hb)
                have n5_ := ak_ (Kd.V_below (Kd.pV HL432_0.out) hb)
                have n6_ := ak_ (Kd.R_below (Kd.pR HO435.out) hb)
                have n7_ := ak_ (blk_below (pk BK411.out) hb)
                have n8_ := ak_ (blk_below (pk BK426.out) hb)
                have n9_ := ak_ (Kd.C_below (by repeat (first | (with_reducible exact HR432_0.out) | (with_reducible refine Kd.C_alloc ?_ _) | (with_reducible refine Kd.C_drewN ?_ _) | (with_reducible refine Kd.C_drew ?_) | exact HR432_0.out)) hb)
                have n10_ := ak_ (blk_below (pk BK437.out) hb)
                have n11_ := ak_ (bs_ bl_ hb)
                clear HO_5 HO_8 HO_30 HO_412000 HO_427000 HL432_0 HO435 BK411 BK426 HR432_0 BK437 HB
                have HO_5 := n0_; have HO_8 := n1_; have HO_30 := n2_; have HO_412000 := n3_; have HO_427000 := n4_; have HL432_0 := n5_; have HO435 := n6_; have BK411 := n7_; have BK426 := n8_; have HR432_0 := n9_; have BK437 := n10_; have HB := n11_
                clear n0_ n1_ n2_ n3_ n4_ n5_ n6_ n7_ n8_ n9_ n10_ n11_
                (try clear hb)
                (try clear hb2)
                (try clear hk)
                (try clear hi)
                refine hK.out _ _ ⟨(blk_cell BK411.out 0).trans rfl, (blk_cell BK411.out 1).trans rfl, (blk_cell BK411.out 2).trans rfl, (blk_cell BK426.out 0).trans rfl, (blk_cell BK426.out 1).trans rfl, HS5_⟩ (fun hHeld => ?_)
                clear hK K
                refine nm_ ?_
                refine pu_ 8 52 16 2047 ?_
                refine on_ 11 55 16 4095 (fun K hK => ?_)
                refine goes_ Try.func91 (by kernel_rfl) rfl #[.agg #[.slice Ao43 x427000_2.length co43, .bool x427001_2]] (by rfl) rfl rfl (by first | rfl | (simp only [map_toArray, map_cons, map_nil]; try rfl)) ?_
                with_reducible refine (spec_seIndex.calls k2 _ _ x427000_2 x427001_2 t441 _ ?side1 ?side2 A53.out).mono ?_
                (case side1 => repeat (first | exact (Kd.R_reads' HO_427000.out).2.2 | (with_reducible refine Kd.C_alloc ?_ _) | (with_reducible refine Kd.C_drewN ?_ _) | (with_reducible refine Kd.C_drew ?_)))
                (case side2 => exact (Kd.R_reads' HO_427000.out).2.1)
                rintro e w59 ⟨rfl, hb⟩
                have HS5_ := (hb.cell (World.block_lt_of_cell? _ _ (hHeld.2.2.2.2.2))).trans (hHeld.2.2.2.2.2)
                refine ⟨_, rfl, ?_⟩
                have n0_ := ak_ (Kd.R_below (Kd.pR HO_5.out) hb)
                have n1_ := ak_ (Kd.N_below (Kd.pN HO_8.out) hb)
                have n2_ := ak_ (Kd.N_below (Kd.pN HO_30.out) hb)
                have n3_ := ak_ (Kd.V_below (Kd.pV HO_412000.out) hb)
                have n4_ := ak_ (Kd.R_below (Kd.pR HO_427000.out) hb)
                have n5_ := ak_ (Kd.V_below (Kd.pV HL432_0.out) hb)
                have n6_ := ak_ (Kd.R_below (Kd.pR HO435.out) hb)
                have n7_ := ak_ (blk_below (pk BK411.out) hb)
                have n8_ := ak_ (blk_below (pk BK426.out) hb)
                have n9_ := ak_ (Kd.C_below (by repeat (first | (with_reducible exact HR432_0.out) | (with_reducible refine Kd.C_alloc ?_ _) | (with_reducible refine Kd.C_drewN ?_ _) | (with_reducible refine Kd.C_drew ?_) | exact HR432_0.out)) hb)
                have n10_ := ak_ (blk_below (pk BK437.out) hb)
                have n11_ := ak_ (bs_ bl_ hb)
                clear HO_5 HO_8 HO_30 HO_412000 HO_427000 HL432_0 HO435 BK411 BK426 HR432_0 BK437 HB
                have HO_5 := n0_; have HO_8 := n1_; have HO_30 := n2_; have HO_412000 := n3_; have HO_427000 := n4_; have HL432_0 := n5_; have HO435 := n6_; have BK411 := n7_; have BK426 := n8_; have HR432_0 := n9_; have BK437 := n10_; have HB := n11_
                clear n0_ n1_ n2_ n3_ n4_ n5_ n6_ n7_ n8_ n9_ n10_ n11_
                (try clear hb)
                (try clear hb2)
                (try clear hk)
                (try clear hi)
                refine hK.out _ _ ⟨(blk_cell BK411.out 0).trans rfl, (blk_cell BK411.out 1).trans rfl, (blk_cell BK411.out 2).trans rfl, (blk_cell BK426.out 0).trans rfl, (blk_cell BK426.out 1).trans rfl, HS5_⟩ (fun hHeld => ?_)
                clear hK K
                refine nm_ ?_
                refine pu_ 12 56 16 8191 ?_
                refine tk_ 13 57 16 16383 ?_ (hy := by rintro w' ⟨s0, s1, s2, s3, s4, s5⟩; go_simp; with_reducible rfl)
                refine pu_ 14 58 16 32767 ?_
                refine pu_ 15 59 16 65535 ?_
                refine done_ (done_of HT_.out (by kernel_rfl)) ?_
                go_upto_if 59 with (fail)
                have H := HC56.out
                clear HC56
                by_cases c60 : (wrap64 ((rd t412 t438) + t440)) = (rd t412 t441)
                ·
                 rw [if_pos c60] at H
                 have c60b0 : ((wrap64 ((rd t412 t438) + t440)) == (rd t412 t441)) = true := beq_iff_eq.mpr c60
                 have c60b1 : ((wrap64 ((rd t412 t438) + t440)) != (rd t412 t441)) = false := bne_eq_false_iff_eq.mpr c60
                 clear c60
                 (first | rw [c60b0] | (simp only [i64_w, i32_w]; rw [c60b0]) | rw [c60b1] | skip)
                 by_cases c61 : x8_2.length < 5864062014805
                 ·
                  rw [if_pos c61] at H
                  have LMc61 := ak_ c61
                  clear c61
                  obtain ⟨y443, hy443⟩ : ∃ y_ : List (List Int), y_ = (x8_2 ++ [rd_L2 t429 x32_2]) := ⟨_, rfl⟩
                  replace H : (spec_loFirst.l0 k2 a1 t412 y443 l0_0 l0_1 a0_2 t433 t436) = some r := by first | (rw [hy443]; exact H) | exact H
                  have Ny443 := ak_ hy443
                  clear hy443
                  have H' := ak_ H
                  clear H
                  go_wp2_with (first | ((with_reducible refine gate_builtin (b := .append) (xs := #[.tmp 60, .tmp 62]) rfl ?_); at_builtin; refine Kd.N_append (Kd.slice 3 (Kd.int .i64)) (w0 := w) w.heap.size rfl (.tmp 60) (.tmp 62) 47 29 (.slice none 0 0) 24 rfl Try.underlying47 info29 rfl (by decide) (by omega) u8 x8_2 (rd_L2 t429 x32_2) [.slice A432_0 (rd_L2 t429 x32_2).length c432_0] (fun k_ => (P0_0_ k_ ∨ w.heap.size ≤ k_) ∧ some k_ ≠ (.slice (some ad428) t412.length co25 : Value).ownBlock ∧ some k_ ≠ (.slice (some ad432) t429.length co32 : Value).ownBlock ∧ some k_ ≠ (.slice Ao43 x427000_2.length co43 : Value).ownBlock ∧ some k_ ≠ (.slice Ao46 t433.length co46 : Value).ownBlock ∧ k_ ≠ gb411 ∧ k_ ≠ gb426 ∧ k_ ≠ gb437) (fun k_ => ((fun k_ => (P0_0_ k_ ∨ w.heap.size ≤ k_) ∧ some k_ ≠ (.slice (some ad428) t412.length co25 : Value).ownBlock ∧ some k_ ≠ (.slice (some ad432) t429.length co32 : Value).ownBlock ∧ some k_ ≠ (.slice Ao43 x427000_2.length co43 : Value).ownBlock ∧ some k_ ≠ (.slice Ao46 t433.length co46 : Value).ownBlock ∧ k_ ≠ gb411 ∧ k_ ≠ gb426 ∧ k_ ≠ gb437)) k_ ∧ some k_ ≠ (u8 : Value).ownBlock) rfl rfl ?aP (fun _ hk => hk) ?aF ?aO ?aB ?aS ?aL ?_; (case aP => exact (Kd.FK_slice_mk (Kd.V_reads' (Kd.V_mono (ok' := (fun k_ => ((fun k_ => (P0_0_ k_ ∨ w.heap.size ≤ k_) ∧ some k_ ≠ (.slice (some ad428) t412.length co25 : Value).ownBlock ∧ some k_ ≠ (.slice (some ad432) t429.length co32 : Value).ownBlock ∧ some k_ ≠ (.slice Ao43 x427000_2.length co43 : Value).ownBlock ∧ some k_ ≠ (.slice Ao46 t433.length co46 : Value).ownBlock ∧ k_ ≠ gb411 ∧ k_ ≠ gb426 ∧ k_ ≠ gb437)) k_ ∧ some k_ ≠ (u8 : Value).ownBlock)) (HL432_0.out) (fun k_ hk => ⟨⟨hk.1.1.1.1, ⟨hk.1.1.1.2.1, ⟨hk.1.1.2, ⟨hk.1.1.1.2.2.2.1, ⟨hk.1.2, ⟨hk.1.1.1.2.2.2.2.1, ⟨hk.1.1.1.2.2.2.2.2, hk.2⟩⟩⟩⟩⟩⟩⟩, hk.1.1.1.2.2.1⟩))).2.1 (Kd.V_F (Kd.V_mono (ok' := (fun k_ => ((fun k_ => (P0_0_ k_ ∨ w.heap.size ≤ k_) ∧ some k_ ≠ (.slice (some ad428) t412.length co25 : Value).ownBlock ∧ some k_ ≠ (.slice (some ad432) t429.length co32 : Value).ownBlock ∧ some k_ ≠ (.slice Ao43 x427000_2.length co43 : Value).ownBlock ∧ some k_ ≠ (.slice Ao46 t433.length co46 : Value).ownBlock ∧ k_ ≠ gb411 ∧ k_ ≠ gb426 ∧ k_ ≠ gb437)) k_ ∧ some k_ ≠ (u8 : Value).ownBlock)) (HL432_0.out) (fun k_ hk => ⟨⟨hk.1.1.1.1, ⟨hk.1.1.1.2.1, ⟨hk.1.1.2, ⟨hk.1.1.1.2.2.2.1, ⟨hk.1.2, ⟨hk.1.1.1.2.2.2.2.1, ⟨hk.1.1.1.2.2.2.2.2, hk.2⟩⟩⟩⟩⟩⟩⟩, hk.1.1.1.2.2.1⟩))))); (case aB => exact bl_); (case aF => exact (fun k_ hk => ⟨(.inr (Nat.le_trans (bz_ bl_) hk)), Kd.fresh' (Kd.R_lt (Kd.pR HO_5.out)) k_ hk, Kd.fresh' (Kd.N_lt (Kd.pN HO_30.out)) k_ hk, Kd.fresh' (Kd.R_lt (Kd.pR HO_427000.out)) k_ hk, Kd.fresh' (Kd.R_lt (Kd.pR HO435.out)) k_ hk, Kd.freshB (pk BK411.out) k_ hk, Kd.freshB (pk BK426.out) k_ hk, Kd.freshB (pk BK437.out) k_ hk⟩)); (case aO => exact (by (with_reducible repeat (first | apply Kd.N_alloc | apply Kd.N_drewN | apply Kd.N_drew)); exact Kd.N_mono HO_8.out (fun _ hk => ⟨hk.1.1.1, ⟨hk.1.1.2.1, ⟨hk.1.1.2.2.1, ⟨hk.1.1.2.2.2.1, ⟨hk.1.2, ⟨hk.1.1.2.2.2.2.1, ⟨hk.1.1.2.2.2.2.2, hk.2⟩⟩⟩⟩⟩⟩⟩))); (case aS => exact (bz_ bl_)); (case aL => have := LMc61.out; omega); intro v444 w62 ho hb hg hat; rw [← Ny443.out] at ho; have n0_ := ak_ (Kd.R_over' (Kd.pR HO_5.out) (Kd.N_typed (Kd.pN HO_8.out)) (by decide) hg); have n1_ := ak_ (Kd.N_afterv (ok := (fun k_ => (P0_0_ k_ ∨ w.heap.size ≤ k_) ∧ some k_ ≠ (.slice (some ad428) t412.length co25 : Value).ownBlock ∧ some k_ ≠ (.slice Ao43 x427000_2.length co43 : Value).ownBlock ∧ some k_ ≠ (.slice Ao46 t433.length co46 : Value).ownBlock ∧ k_ ≠ gb411 ∧ k_ ≠ gb426 ∧ k_ ≠ gb437)) (by (with_reducible repeat (first | apply Kd.N_alloc | apply Kd.N_drewN | apply Kd.N_drew)); exact Kd.N_mono HO_30.out (fun _ hk => ⟨⟨hk.1.1.1, ⟨hk.1.1.2.1, ⟨hk.1.1.2.2.2.1, ⟨hk.1.2, ⟨hk.1.1.2.2.2.2.1, ⟨hk.1.1.2.2.2.2.2, hk.2⟩⟩⟩⟩⟩⟩, hk.1.1.2.2.1⟩)) hg hat); have n2_ := ak_ (Kd.V_afterv (ok := (fun k_ => (P0_0_ k_ ∨ w.heap.size ≤ k_) ∧ some k_ ≠ (.slice (some ad428) t412.length co25 : Value).ownBlock ∧ some k_ ≠ (.slice (some ad432) t429.length co32 : Value).ownBlock ∧ some k_ ≠ (.slice Ao43 x427000_2.length co43 : Value).ownBlock ∧ some k_ ≠ (.slice Ao46 t433.length co46 : Value).ownBlock ∧ k_ ≠ gb411 ∧ k_ ≠ gb426 ∧ k_ ≠ gb437)) (by (with_reducible repeat (first | apply Kd.V_alloc | apply Kd.V_drewN | apply Kd.V_drew)); exact Kd.V_mono HO_412000.out (fun _ hk => ⟨⟨hk.1.1.1, ⟨hk.1.1.2.1, ⟨hk.1.1.2.2.2.1, ⟨hk.1.1.2.2.2.2.1, ⟨hk.1.2, ⟨hk.1.1.2.2.2.2.2.1, ⟨hk.1.1.2.2.2.2.2.2, hk.2⟩⟩⟩⟩⟩⟩⟩, hk.1.1.2.2.1⟩)) hg hat); have n3_ := ak_ (Kd.R_over' (Kd.pR HO_427000.out) (Kd.N_typed (Kd.pN HO_8.out)) (by decide) hg); have n4_ := ak_ (blk_grown (pk BK411.out) hg (Kd.N_ne HO_8.out BK411.out (by decide))); have n5_ := ak_ (blk_grown (pk BK426.out) hg (Kd.N_ne HO_8.out BK426.out (by decide))); have n6_ := ak_ (Kd.V_afterv (ok := (fun k_ => (P0_0_ k_ ∨ w.heap.size ≤ k_) ∧ some k_ ≠ (.slice (some ad428) t412.length co25 : Value).ownBlock ∧ some k_ ≠ (.slice (some ad432) t429.length co32 : Value).ownBlock ∧ some k_ ≠ (.slice Ao43 x427000_2.length co43 : Value).ownBlock ∧ some k_ ≠ (.slice Ao46 t433.length co46 : Value).ownBlock ∧ k_ ≠ gb411 ∧ k_ ≠ gb426 ∧ k_ ≠ gb437)) (by (with_reducible repeat (first | apply Kd.V_alloc | apply Kd.V_drewN | apply Kd.V_drew)); exact Kd.V_mono HL432_0.out (fun _ hk => ⟨⟨hk.1.1.1.1, ⟨hk.1.1.1.2.1, ⟨hk.1.1.2, ⟨hk.1.1.1.2.2.2.1, ⟨hk.1.2, ⟨hk.1.1.1.2.2.2.2.1, ⟨hk.1.1.1.2.2.2.2.2, hk.2⟩⟩⟩⟩⟩⟩⟩, hk.1.1.1.2.2.1⟩)) hg hat); have n7_ := ak_ (Kd.R_over' (Kd.pR HO435.out) (Kd.N_typed (Kd.pN HO_8.out)) (by decide) hg); have n8_ := ak_ (blk_grown (pk BK437.out) hg (Kd.N_ne HO_8.out BK437.out (by decide))); have n9_ := ak_ (hb); have n10_ := ak_ (ho); clear HO_5; clear HO_30; clear HO_412000; clear HO_427000; clear BK411; clear BK426; clear HL432_0; clear HO435; clear BK437; clear HB; clear HO_8; have HO_5 := n0_; have HO_30 := n1_; have HO_412000 := n2_; have HO_427000 := n3_; have BK411 := n4_; have BK426 := n5_; have HL432_0 := n6_; have HO435 := n7_; have BK437 := n8_; have HB := n9_; have HO445 := n10_; clear n0_ n1_ n2_ n3_ n4_ n5_ n6_ n7_ n8_ n9_ n10_; clear ho hb hg hat; have hnb63 := NB437_411.out; have hnc63 := NB411_437.out; have hnb64 := NB437_426.out; have hnc64 := NB426_437.out; have hcz65_0 : w62.cell? ⟨gb437, 0, none⟩ = some (.slice Ao46 t433.length co46) := (blk_cell BK437.out 0).trans rfl; have hcz65_1 : w62.cell? ⟨gb437, 1, none⟩ = some (.bool t436) := (blk_cell BK437.out 1).trans rfl; have hfz65_0 := blk_frozen BK437.out 0; have hfz65_1 := blk_frozen BK437.out 1; have hnb66 := NB426_411.out; have hnc66 := NB411_426.out; have hcz67_0 : w62.cell? ⟨gb426, 0, none⟩ = some (.slice Ao43 x427000_2.length co43) := (blk_cell BK426.out 0).trans rfl; have hcz67_1 : w62.cell? ⟨gb426, 1, none⟩ = some (.bool x427001_2) := (blk_cell BK426.out 1).trans rfl; have hfz67_0 := blk_frozen BK426.out 0; have hfz67_1 := blk_frozen BK426.out 1))
                  go_roundg k2
                  case measure => have := HK1.out; have := HK2.out; omega
                  case rel => exact ⟨(y443), (t433), (t436), (.slice Ao46 t433.length co46), H', ⟨by have := HK1.out; have := HK2.out; omega⟩, ⟨by (with_reducible repeat (first | apply Kd.R_alloc | apply Kd.R_drewN | apply Kd.R_drew)); exact Kd.R_mono (Kd.R_far (p := ⟨gb426, 1, none⟩) (Kd.R_far (p := ⟨gb426, 0, none⟩) (Kd.R_types HO_5.out BK426.out (by decide)) (fun _ hk => hk.2) (.slice Ao46 t433.length co46)) (fun _ hk => hk.2) (.bool t436)) (fun _ hk => hk.1)⟩, ⟨by (with_reducible repeat (first | apply Kd.N_alloc | apply Kd.N_drewN | apply Kd.N_drew)); exact Kd.N_mono (Kd.N_far (p := ⟨gb426, 1, none⟩) (Kd.N_far (p := ⟨gb426, 0, none⟩) (Kd.N_mono HO445.out (fun k_ hk => (⟨hk, hk.2.2.2.2.2.2.1⟩ : _ ∧ k_ ≠ gb426))) (fun _ hk => hk.2) (.slice Ao46 t433.length co46)) (fun _ hk => hk.2) (.bool t436)) (fun _ hk => ⟨hk.1.1, ⟨hk.1.2.1, ⟨hk.1.2.2.2.2.1, ⟨hk.1.2.2.2.2.2.1, hk.1.2.2.2.2.2.2.1⟩⟩⟩⟩)⟩, ⟨by (with_reducible repeat (first | apply Kd.V_alloc | apply Kd.V_drewN | apply Kd.V_drew)); exact Kd.V_mono (Kd.V_far (p := ⟨gb426, 1, none⟩) (Kd.V_far (p := ⟨gb426, 0, none⟩) (Kd.V_mono HO_412000.out (fun k_ hk => (⟨hk, hk.1.2.2.2.2.2.2.1⟩ : _ ∧ k_ ≠ gb426))) (fun _ hk => hk.2) (.slice Ao46 t433.length co46)) (fun _ hk => hk.2) (.bool t436)) (fun _ hk => ⟨hk.1.1.1, ⟨hk.1.1.2.1, ⟨hk.1.2, ⟨hk.1.1.2.2.2.2.1, ⟨hk.1.1.2.2.2.2.2.1, hk.1.1.2.2.2.2.2.2.1⟩⟩⟩⟩⟩)⟩, ⟨by (with_reducible repeat (first | apply Kd.R_alloc | apply Kd.R_drewN | apply Kd.R_drew)); exact Kd.R_mono (Kd.R_far (p := ⟨gb426, 1, none⟩) (Kd.R_far (p := ⟨gb426, 0, none⟩) (Kd.R_types HO435.out BK426.out (by decide)) (fun _ hk => hk.2) (.slice Ao46 t433.length co46)) (fun _ hk => hk.2) (.bool t436)) (fun _ hk => hk.1.1.1)⟩, ⟨by (with_reducible repeat (first | refine kN_ ?_ _ | refine k1_ ?_ | refine ka_ ?_ _)); refine blk_far ?_ NB411_426.out _; (with_reducible repeat (first | refine kN_ ?_ _ | refine k1_ ?_ | refine ka_ ?_ _)); refine blk_far ?_ NB411_426.out _; exact pk BK411.out⟩, ⟨by (with_reducible repeat (first | refine kN_ ?_ _ | refine k1_ ?_ | refine ka_ ?_ _)); refine blk_put (cs := #[.slice Ao46 t433.length co46, .bool x427001_2]) ?_ 1 _ rfl; (with_reducible repeat (first | refine kN_ ?_ _ | refine k1_ ?_ | refine ka_ ?_ _)); refine blk_put (cs := #[.slice Ao43 x427000_2.length co43, .bool x427001_2]) ?_ 0 _ rfl; exact pk BK426.out⟩, ⟨by repeat (first | exact HB.out | apply ba_ | apply bN_ | apply b1_ | refine below_set ?_ (Aside0.out (by assumption)))⟩⟩
                 ·
                  rw [if_neg c61] at H
                  exact absurd H (by simp)
                ·
                 rw [if_neg c60] at H
                 have c60b0 : ((wrap64 ((rd t412 t438) + t440)) == (rd t412 t441)) = false := beq_eq_false_iff_ne.mpr c60
                 have c60b1 : ((wrap64 ((rd t412 t438) + t440)) != (rd t412 t441)) = true := bne_iff_ne.mpr c60
                 (first | rw [c60b0] | (simp only [i64_w, i32_w]; rw [c60b0]) | rw [c60b1] | skip)
                 have H' := ak_ H
                 clear H
                 go_wp2
                 go_roundg k2
                 case measure => have := HK1.out; have := HK2.out; omega
                 case rel => exact ⟨(x8_2), (wrap64 (x32_2 + 1)), (x427000_2), (x427001_2), (.slice Ao43 x427000_2.length co43), (ry_), H', ⟨by have := HK1.out; have := HK2.out; omega⟩, ⟨Kd.pR HO_5.out⟩, ⟨by (with_reducible repeat (first | apply Kd.N_alloc | apply Kd.N_drewN | apply Kd.N_drew)); exact Kd.N_mono HO_8.out (fun _ hk => ⟨hk.1.1.1, ⟨hk.1.1.2.1, ⟨hk.1.1.2.2.1, ⟨hk.1.1.2.2.2.1, ⟨hk.1.1.2.2.2.2.1, hk.1.1.2.2.2.2.2⟩⟩⟩⟩⟩)⟩, ⟨by (with_reducible repeat (first | apply Kd.N_alloc | apply Kd.N_drewN | apply Kd.N_drew)); exact Kd.N_mono HO_30.out (fun _ hk => ⟨hk.1.1.1, ⟨hk.1.1.2.1, ⟨hk.1.1.2.2.1, ⟨hk.1.1.2.2.2.1, ⟨hk.1.1.2.2.2.2.1, hk.1.1.2.2.2.2.2⟩⟩⟩⟩⟩)⟩, ⟨by (with_reducible repeat (first | apply Kd.V_alloc | apply Kd.V_drewN | apply Kd.V_drew)); exact Kd.V_mono HO_412000.out (fun _ hk => ⟨hk.1.1.1, ⟨hk.1.1.2.1, ⟨hk.1.1.2.2.1, ⟨hk.1.1.2.2.2.1, ⟨hk.1.1.2.2.2.2.1, ⟨hk.1.1.2.2.2.2.2.1, hk.1.1.2.2.2.2.2.2⟩⟩⟩⟩⟩⟩)⟩, ⟨by (with_reducible repeat (first | apply Kd.R_alloc | apply Kd.R_drewN | apply Kd.R_drew)); exact Kd.R_mono HO_427000.out (fun _ hk => hk.1)⟩, ⟨pk BK411.out⟩, ⟨pk BK426.out⟩, ⟨by repeat (first | exact HB.out | apply ba_ | apply bN_ | apply b1_ | refine below_set ?_ (Aside0.out (by assumption)))⟩⟩
               ·
                rw [if_neg c55] at H
                exact absurd H (by simp)
              ·
               rw [if_neg c54] at H
               exact absurd H (by simp)
             ·
              rw [if_neg c51] at H
              have c51b0 : decide (0 ≤ (rd t412 t438)) = false := decide_eq_false c51
              clear c51
              have H' := ak_ H
              clear H
              try go_wp2
              have n0_ := ak_ (Kd.R_drew HO_5.out)
              have n1_ := ak_ (Kd.N_drew HO_8.out)
              have n2_ := ak_ (Kd.N_drew HO_30.out)
              have n3_ := ak_ (Kd.V_drew HO_412000.out)
              have n4_ := ak_ (Kd.R_drew HO_427000.out)
              have n5_ := ak_ (Kd.V_drew HL432_0.out)
              have n6_ := ak_ (Kd.R_drew HO435.out)
              have n7_ := ak_ (k1_ BK411.out)
              have n8_ := ak_ (k1_ BK426.out)
              have n9_ := ak_ (k1_ BK437.out)
              have n10_ := ak_ (Kd.C_drew HR432_0.out)
              have n11_ := ak_ (b1_ HB.out)
              clear HO_5 HO_8 HO_30 HO_412000 HO_427000 HL432_0 HO435 BK411 BK426 BK437 HR432_0 HB
              have HO_5 := n0_; have HO_8 := n1_; have HO_30 := n2_; have HO_412000 := n3_; have HO_427000 := n4_; have HL432_0 := n5_; have HO435 := n6_; have BK411 := n7_; have BK426 := n8_; have BK437 := n9_; have HR432_0 := n10_; have HB := n11_
              clear n0_ n1_ n2_ n3_ n4_ n5_ n6_ n7_ n8_ n9_ n10_ n11_
              refine start_ (n := 16) (S := fun w' => True) (ds := []) (mb_ 16 0) (by kernel_rfl) rfl rfl trivial (fun hHeld => ?_); refine with_tabW spec_loFirst.tab10 spec_loFirst.bits10 (fun HT_ HW_ => ?_)
              generalize w50.drew = w68 at HO_5 HO_8 HO_30 HO_412000 HO_427000 HL432_0 HO435 BK411 BK426 BK437 HR432_0 HB hHeld ⊢
              refine pu_ 0 44 16 1 ?_
              refine pu_ 1 45 16 3 ?_
              refine pu_ 2 46 16 7 ?_
              refine pure_ (i := 3) (N := some 47) (v := undef) (a' := ?_) (mb_ 16 15) rfl rfl (any_of HT_.out (by kernel_rfl)) (fun _ _ _ h => h) (Or.inr ⟨by rfl, rfl⟩) ?_ ?_
              rotate_left
              ·
               simp only [Act.put, setIfInBounds_toArray, set_cons_zero, set_cons_succ, i64_w, i32_w]
               rfl
              refine pure_ (i := 4) (N := some 48) (v := undef) (a' := ?_) (mb_ 16 31) rfl rfl (any_of HT_.out (by kernel_rfl)) (fun _ _ _ h => h) (Or.inr ⟨by rfl, rfl⟩) ?_ ?_
              rotate_left
              ·
               simp only [Act.put, setIfInBounds_toArray, set_cons_zero, set_cons_succ, i64_w, i32_w]
               rfl
              refine pure_ (i := 5) (N := some 49) (v := undef) (a' := ?_) (mb_ 16 63) rfl rfl (any_of HT_.out (by kernel_rfl)) (fun _ _ _ h => h) (Or.inr ⟨by rfl, rfl⟩) ?_ ?_
              rotate_left
              ·
               simp only [Act.put, setIfInBounds_toArray, set_cons_zero, set_cons_succ, i64_w, i32_w]
               rfl
              refine pure_ (i := 6) (N := some 50) (v := undef) (a' := ?_) (mb_ 16 127) rfl rfl (any_of HT_.out (by kernel_rfl)) (fun _ _ _ h => h) (Or.inr ⟨by rfl, rfl⟩) ?_ ?_
              rotate_left
              ·
               simp only [Act.put, setIfInBounds_toArray, set_cons_zero, set_cons_succ, i64_w, i32_w]
               rfl
              refine pure_ (i := 7) (N := some 51) (v := undef) (a' := ?_) (mb_ 16 255) rfl rfl (any_of HT_.out (by kernel_rfl)) (fun _ _ _ h => h) (Or.inr ⟨by rfl, rfl⟩) ?_ ?_
              rotate_left
              ·
               simp only [Act.put, setIfInBounds_toArray, set_cons_zero, set_cons_succ, i64_w, i32_w]
               rfl
              refine pure_ (i := 8) (N := some 52) (v := undef) (a' := ?_) (mb_ 16 511) rfl rfl (any_of HT_.out (by kernel_rfl)) (fun _ _ _ h => h) (Or.inr ⟨by rfl, rfl⟩) ?_ ?_
              rotate_left
              ·
               simp only [Act.put, setIfInBounds_toArray, set_cons_zero, set_cons_succ, i64_w, i32_w]
               rfl
              refine pure_ (i := 9) (N := some 53) (v := undef) (a' := ?_) (mb_ 16 1023) rfl rfl (any_of HT_.out (by kernel_rfl)) (fun _ _ _ h => h) (Or.inr ⟨by rfl, rfl⟩) ?_ ?_
              rotate_left
              ·
               simp only [Act.put, setIfInBounds_toArray, set_cons_zero, set_cons_succ, i64_w, i32_w]
               rfl
              refine pure_ (i := 10) (N := some 54) (v := undef) (a' := ?_) (mb_ 16 2047) rfl rfl (any_of HT_.out (by kernel_rfl)) (fun _ _ _ h => h) (Or.inr ⟨by rfl, rfl⟩) ?_ ?_
              rotate_left
              ·
               simp only [Act.put, setIfInBounds_toArray, set_cons_zero, set_cons_succ, i64_w, i32_w]
               rfl
              refine pure_ (i := 11) (N := some 55) (v := undef) (a' := ?_) (mb_ 16 4095) rfl rfl (any_of HT_.out (by kernel_rfl)) (fun _ _ _ h => h) (Or.inr ⟨by rfl, rfl⟩) ?_ ?_
              rotate_left
              ·
               simp only [Act.put, setIfInBounds_toArray, set_cons_zero, set_cons_succ, i64_w, i32_w]
               rfl
              refine pure_ (i := 12) (N := some 56) (v := undef) (a' := ?_) (mb_ 16 8191) rfl rfl (any_of HT_.out (by kernel_rfl)) (fun _ _ _ h => h) (Or.inr ⟨by rfl, rfl⟩) ?_ ?_
              rotate_left
              ·
               simp only [Act.put, setIfInBounds_toArray, set_cons_zero, set_cons_succ, i64_w, i32_w]
               rfl
              refine pure_ (i := 13) (N := some 57) (v := undef) (a' := ?_) (mb_ 16 16383) rfl rfl (any_of HT_.out (by kernel_rfl)) (fun _ _ _ h => h) (Or.inr ⟨by rfl, rfl⟩) ?_ ?_
              rotate_left
              ·
               simp only [Act.put, setIfInBounds_toArray, set_cons_zero, set_cons_succ, i64_w, i32_w]
               rfl
              refine pure_ (i := 14) (N := some 58) (v := undef) (a' := ?_) (mb_ 16 32767) rfl rfl (any_of HT_.out (by kernel_rfl)) (fun _ _ _ h => h) (Or.inr ⟨by rfl, rfl⟩) ?_ ?_
              rotate_left
              ·
               simp only [Act.put, setIfInBounds_toArray, set_cons_zero, set_cons_succ, i64_w, i32_w]
               rfl
              refine pu_ 15 59 16 65535 ?_
              refine done_ (done_of HT_.out (by kernel_rfl)) ?_
              try go_wp2
              go_roundg k2
              case measure => have := HK1.out; have := HK2.out; omega
              case rel => exact ⟨(x8_2), (wrap64 (x32_2 + 1)), (x427000_2), (x427001_2), (.slice Ao43 x427000_2.length co43), (ry_), H', ⟨by have := HK1.out; have := HK2.out; omega⟩, ⟨Kd.pR HO_5.out⟩, ⟨by (with_reducible repeat (first | apply Kd.N_alloc | apply Kd.N_drewN | apply Kd.N_drew)); exact Kd.N_mono HO_8.out (fun _ hk => ⟨hk.1.1.1, ⟨hk.1.1.2.1, ⟨hk.1.1.2.2.1, ⟨hk.1.1.2.2.2.1, ⟨hk.1.1.2.2.2.2.1, hk.1.1.2.2.2.2.2⟩⟩⟩⟩⟩)⟩, ⟨by (with_reducible repeat (first | apply Kd.N_alloc | apply Kd.N_drewN | apply Kd.N_drew)); exact Kd.N_mono HO_30.out (fun _ hk => ⟨hk.1.1.1, ⟨hk.1.1.2.1, ⟨hk.1.1.2.2.1, ⟨hk.1.1.2.2.2.1, ⟨hk.1.1.2.2.2.2.1, hk.1.1.2.2.2.2.2⟩⟩⟩⟩⟩)⟩, ⟨by (with_reducible repeat (first | apply Kd.V_alloc | apply Kd.V_drewN | apply Kd.V_drew)); exact Kd.V_mono HO_412000.out (fun _ hk => ⟨hk.1.1.1, ⟨hk.1.1.2.1, ⟨hk.1.1.2.2.1, ⟨hk.1.1.2.2.2.1, ⟨hk.1.1.2.2.2.2.1, ⟨hk.1.1.2.2.2.2.2.1, hk.1.1.2.2.2.2.2.2⟩⟩⟩⟩⟩⟩)⟩, ⟨by (with_reducible repeat (first | apply Kd.R_alloc | apply Kd.R_drewN | apply Kd.R_drew)); exact Kd.R_mono HO_427000.out (fun _ hk => hk.1)⟩, ⟨pk BK411.out⟩, ⟨pk BK426.out⟩, ⟨by repeat (first | exact HB.out | apply ba_ | apply bN_ | apply b1_ | refine below_set ?_ (Aside0.out (by assumption)))⟩⟩
            ·
             rw [if_neg c39] at H
             exact absurd H (by simp)
           ·
            rw [if_neg c38] at H
            exact absurd H (by simp)
          ·
           rw [if_neg c35] at H
           exact absurd H (by simp)
         ·
          rw [if_neg c34] at H
          exact absurd H (by simp)
        ·
         rw [if_neg c33] at H
         have c33b0 : decide (x32_2 < (t429.length : Int)) = false := decide_eq_false c33
         clear c33
         have H' := ak_ H
         clear H
         go_wp2
         go_roundg k2
         case measure => have := HK1.out; have := HK2.out; omega
         case rel => exact ⟨(x8_2), (x427000_2), (x427001_2), (u427000), H', ⟨by have := HK1.out; have := HK2.out; omega⟩, ⟨Kd.pR HO_5.out⟩, ⟨by (with_reducible repeat (first | apply Kd.N_alloc | apply Kd.N_drewN | apply Kd.N_drew)); exact Kd.N_mono HO_8.out (fun _ hk => ⟨hk.1, ⟨hk.2.1, ⟨hk.2.2.2.1, ⟨hk.2.2.2.2.1, hk.2.2.2.2.2⟩⟩⟩⟩)⟩, ⟨by (with_reducible repeat (first | apply Kd.V_alloc | apply Kd.V_drewN | apply Kd.V_drew)); exact Kd.V_mono HO_412000.out (fun _ hk => ⟨hk.1, ⟨hk.2.1, ⟨hk.2.2.1, ⟨hk.2.2.2.2.1, ⟨hk.2.2.2.2.2.1, hk.2.2.2.2.2.2⟩⟩⟩⟩⟩)⟩, ⟨Kd.pR HO_427000.out⟩, ⟨pk BK411.out⟩, ⟨pk BK426.out⟩, ⟨by repeat (first | exact HB.out | apply ba_ | apply bN_ | apply b1_ | refine below_set ?_ (Aside0.out (by assumption)))⟩⟩
     ·
      rw [if_neg c26] at H
      have c26b0 : decide (0 < (rd t412 t427)) = false := decide_eq_false c26
      clear c26
      (first | rw [c26b0] | (simp only [i64_w, i32_w]; rw [c26b0]) | rw [c26b1] | skip)
      obtain rfl := Option.some.inj H
      go_wp2
      go_ret
      exact ⟨_, rx_, by (with_reducible repeat (first | apply Kd.N_alloc | apply Kd.N_drewN | apply Kd.N_drew)); exact Kd.N_mono HO_8.out (fun _ hk => hk.1), by repeat (first | exact HB.out | apply ba_ | apply bN_ | apply b1_ | refine below_set ?_ (Aside0.out (by assumption)))⟩
    ·
     rw [if_neg c19] at H
     exact absurd H (by simp)
   ·
    rw [if_neg c18] at H
    exact absurd H (by simp)
end Go.Proofs.Ythkchdfkeieabaa.QGr
