/- Contracts of functions of the given program, walked: each call returns what its Lean function says. Conditions: those that stand at each theorem. (Written by a program of this session.) -/
import Derived.Test.YtmdbhpbogbekmaaQNtx0
import Derived.Test.YtmdbhpbogbekmaaQNtx1
import Derived.Test.YtmdbhpbogbekmaaQNtx2
import Derived.Test.YtmdbhpbogbekmaaQNtx4
namespace Go.Proofs.Ytmdbhpbogbekmaa.QNt
open Go.RowKit Go.Proofs.YtmdbhpbogbekmaaW.PrintWords Go.Proofs.YtmdbhpbogbekmaaW.PrintLast Go.Proofs.YtmdbhpbogbekmaaW.PrintMore
open List (setIfInBounds_toArray set_cons_zero set_cons_succ map_toArray map_cons map_nil)
attribute [local go_sem] max2_int min2_int max_two min_two max_three min_three max_four min_four
set_option linter.unusedVariables false
set_option maxHeartbeats 8000000
set_option maxRecDepth 100000
set_option linter.unusedSimpArgs false
mutual
def spec_toRounds.l0 : Nat → List Int → Int → Int → List Int → Int → Int → List Bool → Int → Option ((List (List (List Int))))
 | 0, _, _, _, _, _, _, _, _ => none
 | k + 1, x5, x17, x18, x230000, x230001, x230002, x231000, x231001 => if x18 < x17 then (if x5.length < 17592186044416 then (spec_toRounds.l0 k (x5 ++ [x18]) x17 (wrap64 (x18 + 1)) x230000 x230001 x230002 x231000 x231001) else (none)) else ((spec_paGroups.f k x5 ([] : List Int) 0 x230001).bind fun t234 => (spec_toRounds.l1 k t234 ([] : List (List (List Int))) t234 (t234.length : Int) 0 x230000 x230001 x230002 x231000 x231001))
def spec_toRounds.l1 : Nat → List (List Int) → List (List (List Int)) → List (List Int) → Int → Int → List Int → Int → Int → List Bool → Int → Option ((List (List (List Int))))
 | 0, _, _, _, _, _, _, _, _, _, _ => none
 | k + 1, x7, x8, x30, x31, x32, x230000, x230001, x230002, x231000, x231001 => if x32 < x31 then (if 0 ≤ x32 then (if x32 < (x30.length : Int) then ((spec_l1Own.f (rd_L2 x30 x32)).bind fun t238 => ((some (([t238] : List (List Int)) : List (List Int))).bind fun y241 => ((spec_toCan.f k x230000 x230001 x230002 x231000 x231001 y241).bind fun t244 => (if t244 = true then (if x8.length < 5864062014805 then (if 0 ≤ (wrap64 (x32 + 1)) then (if (wrap64 (x32 + 1)) ≤ (x7.length : Int) then ((some (x7.drop ((wrap64 (x32 + 1)) : Int).toNat : List (List Int))).bind fun y248 => (spec_toRounds.l2 k x7 (x8 ++ [y241]) (rd_L2 x30 x32) x30 x31 x32 y248 (y248.length : Int) 0 x230000 x230001 x230002 x231000 x231001)) else (none)) else (none)) else (none)) else (if 0 ≤ (wrap64 (x32 + 1)) then (if (wrap64 (x32 + 1)) ≤ (x7.length : Int) then ((some (x7.drop ((wrap64 (x32 + 1)) : Int).toNat : List (List Int))).bind fun y267 => (spec_toRounds.l2 k x7 x8 (rd_L2 x30 x32) x30 x31 x32 y267 (y267.length : Int) 0 x230000 x230001 x230002 x231000 x231001)) else (none)) else (none)))))) else (none)) else (none)) else (some x8)
def spec_toRounds.l2 : Nat → List (List Int) → List (List (List Int)) → List Int → List (List Int) → Int → Int → List (List Int) → Int → Int → List Int → Int → Int → List Bool → Int → Option ((List (List (List Int))))
 | 0, _, _, _, _, _, _, _, _, _, _, _, _, _, _ => none
 | k + 1, x7, x8, x10, x30, x31, x32, x51, x52, x53, x230000, x230001, x230002, x231000, x231001 => if x53 < x52 then (if 0 ≤ x53 then (if x53 < (x51.length : Int) then ((spec_l1Own.f x10).bind fun t254 => ((spec_l1Own.f (rd_L2 x51 x53)).bind fun t257 => ((some (([t254, t257] : List (List Int)) : List (List Int))).bind fun y260 => ((spec_toCan.f k x230000 x230001 x230002 x231000 x231001 y260).bind fun t263 => (if t263 = true then (if x8.length < 5864062014805 then (spec_toRounds.l2 k x7 (x8 ++ [y260]) x10 x30 x31 x32 x51 x52 (wrap64 (x53 + 1)) x230000 x230001 x230002 x231000 x231001) else (none)) else (spec_toRounds.l2 k x7 x8 x10 x30 x31 x32 x51 x52 (wrap64 (x53 + 1)) x230000 x230001 x230002 x231000 x231001)))))) else (none)) else (none)) else (spec_toRounds.l1 k x7 x8 x30 x31 (wrap64 (x32 + 1)) x230000 x230001 x230002 x231000 x231001)
end
def spec_toRounds.f (k : Nat) (l0_0 : List Int) (a0_1 : Int) (a0_2 : Int) (l1_0 : List Bool) (a1_1 : Int) : Option ((List (List (List Int)))) := spec_toRounds.l0 k ([] : List Int) (l0_0.length : Int) 0 l0_0 a0_1 a0_2 l1_0 a1_1
theorem spec_toRounds.calls (k : Nat) (A0_0 : Option Addr) (c0_0 : Nat) (l0_0 : List Int) (a0_1 : Int) (a0_2 : Int) (A1_0 : Option Addr) (c1_0 : Nat) (l1_0 : List Bool) (a1_1 : Int) (r : List (List (List Int))) (w : World) (hr0_0 : Kd.C (Kd.int .i64) w A0_0 l0_0.length l0_0) (hc0_0 : l0_0.length ≤ c0_0) (hr1_0 : Kd.C Kd.bool w A1_0 l1_0.length l1_0) (hc1_0 : l1_0.length ≤ c1_0) (h : spec_toRounds.f k l0_0 a0_1 a0_2 l1_0 a1_1 = some r) :
  Calls Try.prog 38 #[.agg #[.slice A0_0 l0_0.length c0_0, .int .i64 a0_1, .int .i64 a0_2], .agg #[.slice A1_0 l1_0.length c1_0, .int .i64 a1_1]] w fun e w' => ∃ v0_ : Value, e = .returned (v0_) ∧ Kd.N (Kd.slice 22 (Kd.slice 3 (Kd.int .i64))) 57 w' w.heap.size (fun k_ => (w.heap.size ≤ k_)) v0_ r ∧ Below w.heap.size w w' := by
 have hu33 := Try.underlying33
 have hu35 := Try.underlying35
 have HR0_0 := ak_ hr0_0
 have HC0_0 := ak_ hc0_0
 clear hr0_0 hc0_0
 have HR1_0 := ak_ hr1_0
 have HC1_0 := ak_ hc1_0
 clear hr1_0 hc1_0
 have HB := ak_ (Below.refl w.heap.size w)
 have H : (spec_toRounds.l0 k ([] : List Int) (l0_0.length : Int) 0 l0_0 a0_1 a0_2 l1_0 a1_1) = some r := h
 clear h
 have H' := ak_ H
 clear H
 go_enter Try.func38, Try.ntmps38
 go_wp2_with (first | ((with_reducible refine gate_dst (N := 2) rfl ?_); refine bx_ 2 #[.slice A0_0 l0_0.length c0_0, .int .i64 a0_1, .int .i64 a0_2] 33 ?_; intro gb229 hg w3 hbox hb; have n0_ := ak_ (bs_ (bb_ HB.out) hb); have n1_ := ak_ (hbox); have n2_ := ak_ ((by rw [hg]; exact (bz_ (bb_ HB.out)) : w.heap.size ≤ gb229)); have n3_ := n2_; clear HB; have HB := n0_; have BK229 := n1_; have GW229 := n2_; have GE229 := n3_; clear n0_ n1_ n2_ n3_; clear hb hbox hg) | ((with_reducible refine gate_dst (N := 3) rfl ?_); refine bx_ 3 #[.slice A1_0 l1_0.length c1_0, .int .i64 a1_1] 35 ?_; intro gb230 hg w4 hbox hb; have n0_ := ak_ (blk_below (pk BK229.out) hb); have n1_ := ak_ (bs_ bl_ hb); have n2_ := ak_ (hbox); have n3_ := ak_ ((by rw [hg]; exact (bz_ bl_) : w.heap.size ≤ gb230)); have n4_ := n3_; have n5_ := ak_ ((by rw [hg]; exact Nat.ne_of_lt (blk_lt (pk BK229.out)) : gb229 ≠ gb230)); have n6_ := ak_ n5_.out.symm; clear BK229; clear HB; have BK229 := n0_; have HB := n1_; have BK230 := n2_; have GW230 := n3_; have GE230 := n4_; have NB229_230 := n5_; have NB230_229 := n6_; clear n0_ n1_ n2_ n3_ n4_ n5_ n6_; clear hb hbox hg; have hnb5 := NB229_230.out; have hnc5 := NB230_229.out; have hcz6_0 : w4.cell? ⟨gb229, 0, none⟩ = some (.slice A0_0 l0_0.length c0_0) := (blk_cell BK229.out 0).trans rfl; have hcz6_1 : w4.cell? ⟨gb229, 1, none⟩ = some (.int .i64 a0_1) := (blk_cell BK229.out 1).trans rfl; have hcz6_2 : w4.cell? ⟨gb229, 2, none⟩ = some (.int .i64 a0_2) := (blk_cell BK229.out 2).trans rfl; have hfz6_0 := blk_frozen BK229.out 0; have hfz6_1 := blk_frozen BK229.out 1; have hfz6_2 := blk_frozen BK229.out 2))
 go_loopg [5, 18] k (fun kq v5 v18 w' => ∃ (x5_1 : List Int) (x18_1 : Int), v18 = .int .i64 x18_1 ∧ Aside0 (spec_toRounds.l0 kq x5_1 (l0_0.length : Int) x18_1 l0_0 a0_1 a0_2 l1_0 a1_1 = some r) ∧ Aside0 (kq ≤ k) ∧ Aside0 (Kd.R (Kd.int .i64) 3 w' w.heap.size (fun k_ => (w.heap.size ≤ k_)) v5 x5_1) ∧ Aside0 (w'.heap[gb229]? = some (.cells #[(.slice A0_0 l0_0.length c0_0), .int .i64 a0_1, .int .i64 a0_2] 33 (0, 0))) ∧ Aside0 (w'.heap[gb230]? = some (.cells #[(.slice A1_0 l1_0.length c1_0), .int .i64 a1_1] 35 (0, 0))) ∧ Aside0 (Below w.heap.size w w'))
 case atStart => exact ⟨(([] : List Int)), (0), (ry_), H', ⟨Nat.le_refl _⟩, ⟨by first | exact Kd.R_nil _ _ _ _ _ | exact Kd.N_nil _ _ _ _ _ | exact Kd.V_nil _ _ _ _ _ | exact Kd.Q_nil _ _ _ _ _ | exact Kd.S_nil _ _ _ _ _⟩, ⟨pk BK229.out⟩, ⟨pk BK230.out⟩, ⟨by repeat (with_reducible first | exact HB.out | apply ba_ | apply bN_ | apply b1_ | refine below_set ?_ (Aside0.out (by assumption)))⟩⟩
 case round =>
  clear H'
  try clear c1
  try clear p2
  try clear c3
  try clear c5
  try clear hcz6_0
  try clear hcz6_1
  try clear hcz6_2
  try clear hfz6_0
  try clear hfz6_1
  try clear hfz6_2
  obtain ⟨x5_1, x18_1, rfl, HA, HK1, HO_5, BK229, BK230, HB⟩ := hrel
  cases gk with
  | zero => exact absurd HA.out (by simp [spec_toRounds.l0])
  | succ k1 =>
   have H := HA.out
   clear HA
   simp only [spec_toRounds.l0] at H
   by_cases c7 : x18_1 < (l0_0.length : Int)
   ·
    rw [if_pos c7] at H
    have c7b0 : decide (x18_1 < (l0_0.length : Int)) = true := decide_eq_true c7
    clear c7
    by_cases c8 : x5_1.length < 17592186044416
    ·
     rw [if_pos c8] at H
     have LMc8 := ak_ c8
     clear c8
     obtain ⟨y231, hy231⟩ : ∃ y_ : List Int, y_ = (x5_1 ++ [x18_1]) := ⟨_, rfl⟩
     replace H : (spec_toRounds.l0 k1 y231 (l0_0.length : Int) (wrap64 (x18_1 + 1)) l0_0 a0_1 a0_2 l1_0 a1_1) = some r := by first | (rw [hy231]; exact H) | exact H
     have Ny231 := ak_ hy231
     clear hy231
     have H' := ak_ H
     clear H
     go_wp2_with (first | ((with_reducible refine gate_builtin (b := .append) (xs := #[.tmp 21, .tmp 23]) rfl ?_); at_builtin; refine Kd.R_append (Kd.int .i64) (w0 := w) w.heap.size rfl (.tmp 21) (.tmp 23) 22 3 (.int .i64 0) 8 rfl Try.underlying22 info3 rfl (by decide) (by omega) u5 x5_1 x18_1 [.int .i64 x18_1] (fun k_ => (w.heap.size ≤ k_)) (fun _ => False) rfl rfl ?aP (fun _ hk => hk.elim) ?aF ?aO ?aB ?aS ?aL ?_; (case aP => exact rfl); (case aB => exact bl_); (case aF => exact (fun k_ hk => (Nat.le_trans (bz_ bl_) hk))); (case aO => exact (Kd.pR HO_5.out)); (case aS => exact (bz_ bl_)); (case aL => have := LMc8.out; omega); intro v232 w9 ho hb hg hat; rw [← Ny231.out] at ho; have n0_ := ak_ (blk_grown (pk BK229.out) hg (Kd.R_ne HO_5.out BK229.out (by decide))); have n1_ := ak_ (blk_grown (pk BK230.out) hg (Kd.R_ne HO_5.out BK230.out (by decide))); have n2_ := ak_ (hb); have n3_ := ak_ (ho); clear BK229; clear BK230; clear HB; clear HO_5; have BK229 := n0_; have BK230 := n1_; have HB := n2_; have HO233 := n3_; clear n0_ n1_ n2_ n3_; clear ho hb hg hat))
     go_roundg k1
     case measure => have := HK1.out; omega
     case rel => exact ⟨(y231), (wrap64 (x18_1 + 1)), (ry_), H', ⟨by have := HK1.out; omega⟩, ⟨Kd.pR HO233.out⟩, ⟨pk BK229.out⟩, ⟨pk BK230.out⟩, ⟨by repeat (with_reducible first | exact HB.out | apply ba_ | apply bN_ | apply b1_ | refine below_set ?_ (Aside0.out (by assumption)))⟩⟩
    ·
     rw [if_neg c8] at H
     exact absurd H (by simp)
   ·
    rw [if_neg c7] at H
    have c7b0 : decide (x18_1 < (l0_0.length : Int)) = false := decide_eq_false c7
    clear c7
    replace H := Option.bind_eq_some_iff.mp H
    obtain ⟨t234, A100, H⟩ := H
    replace H : (spec_toRounds.l1 k1 t234 ([] : List (List (List Int))) t234 (t234.length : Int) 0 l0_0 a0_1 a0_2 l1_0 a1_1) = some r := H
    have A10 := ak_ A100
    clear A100
    have H' := ak_ H
    clear H
    have hnb11 := NB229_230.out
    have hnc11 := NB230_229.out
    have hcz12_0 : wr.cell? ⟨gb229, 0, none⟩ = some (.slice A0_0 l0_0.length c0_0) := (blk_cell BK229.out 0).trans rfl
    have hcz12_1 : wr.cell? ⟨gb229, 1, none⟩ = some (.int .i64 a0_1) := (blk_cell BK229.out 1).trans rfl
    have hcz12_2 : wr.cell? ⟨gb229, 2, none⟩ = some (.int .i64 a0_2) := (blk_cell BK229.out 2).trans rfl
    have hfz12_0 := blk_frozen BK229.out 0
    have hfz12_1 := blk_frozen BK229.out 1
    have hfz12_2 := blk_frozen BK229.out 2
    obtain ⟨Ao13, co13, eo13⟩ := Kd.R_slice HO_5.out
    subst eo13
    go_wp2_with (first | ((with_reducible refine gate_callee (f := 65) rfl ?_); refine goesL_ (some 29) rfl rfl Try.func65 (by kernel_rfl) rfl #[.slice Ao13 x5_1.length co13, .slice none 0 0, .int .i64 0, .int .i64 a0_1] rfl (by first | rfl | (simp only [map_toArray, map_cons, map_nil]; try rfl)) ?_; (refine (spec_paGroups.calls k1 _ _ x5_1 _ _ ([] : List Int) 0 a0_1 t234 _ ?side1 ?side2 ?side3 ?side4 A10.out).mono ?_); (case side1 => repeat (first | exact (Kd.R_reads' HO_5.out).2.2 | (with_reducible refine Kd.C_alloc ?_ _) | (with_reducible refine Kd.C_drewN ?_ _) | (with_reducible refine Kd.C_drew ?_))); (case side2 => exact (Kd.R_reads' HO_5.out).2.1); (case side3 => exact Kd.C_nil _ _); (case side4 => exact Nat.le_refl _); rintro e w14 ⟨v235, rfl, ho0, hb⟩; refine ⟨_, rfl, ?_⟩; have n0_ := ak_ (Kd.R_below (Kd.pR HO_5.out) hb); have n1_ := ak_ (Kd.N_lower (Kd.N_mono (ok' := fun k_ => (w.heap.size ≤ k_) ∧ some k_ ≠ (.slice Ao13 x5_1.length co13 : Value).ownBlock ∧ k_ ≠ gb229 ∧ k_ ≠ gb230) ho0 (fun k_ hk_ => ⟨(Nat.le_trans (bz_ bl_) hk_), (Kd.fresh' (Kd.R_lt (Kd.pR HO_5.out)) k_ hk_), (Kd.freshB (pk BK229.out) k_ hk_), (Kd.freshB (pk BK230.out) k_ hk_)⟩)) (bz_ bl_)); have n2_ := ak_ (blk_below (pk BK229.out) hb); have n3_ := ak_ (blk_below (pk BK230.out) hb); have n4_ := ak_ (bs_ bl_ hb); clear HO_5; clear BK229; clear BK230; clear HB; have HO_5 := n0_; have HO236 := n1_; have BK229 := n2_; have BK230 := n3_; have HB := n4_; clear n0_ n1_ n2_ n3_ n4_; (try clear hb); (try clear hb2); (try clear hk); (try clear hi); (try clear ho0); obtain ⟨Ao15, co15, eo15⟩ := Kd.N_slice HO236.out; subst eo15))
    go_loopg [8, 32] k1 (fun kq v8 v32 w' => ∃ (x8_2 : List (List (List Int))) (x32_2 : Int), v32 = .int .i64 x32_2 ∧ Aside0 (spec_toRounds.l1 kq t234 x8_2 t234 (t234.length : Int) x32_2 l0_0 a0_1 a0_2 l1_0 a1_1 = some r) ∧ Aside0 (kq ≤ k1) ∧ Aside0 (Kd.N (Kd.slice 3 (Kd.int .i64)) 22 w' w.heap.size (fun k_ => (w.heap.size ≤ k_) ∧ some k_ ≠ (v8 : Value).ownBlock ∧ k_ ≠ gb229 ∧ k_ ≠ gb230) (.slice Ao15 t234.length co15) t234) ∧ Aside0 (Kd.N (Kd.slice 22 (Kd.slice 3 (Kd.int .i64))) 57 w' w.heap.size (fun k_ => (w.heap.size ≤ k_) ∧ some k_ ≠ ((.slice Ao15 t234.length co15) : Value).ownBlock ∧ some k_ ≠ ((.slice Ao15 t234.length co15) : Value).ownBlock ∧ k_ ≠ gb229 ∧ k_ ≠ gb230) v8 x8_2) ∧ Aside0 (Kd.N (Kd.slice 3 (Kd.int .i64)) 22 w' w.heap.size (fun k_ => (w.heap.size ≤ k_) ∧ some k_ ≠ (v8 : Value).ownBlock ∧ k_ ≠ gb229 ∧ k_ ≠ gb230) (.slice Ao15 t234.length co15) t234) ∧ Aside0 (w'.heap[gb229]? = some (.cells #[(.slice A0_0 l0_0.length c0_0), .int .i64 a0_1, .int .i64 a0_2] 33 (0, 0))) ∧ Aside0 (w'.heap[gb230]? = some (.cells #[(.slice A1_0 l1_0.length c1_0), .int .i64 a1_1] 35 (0, 0))) ∧ Aside0 (Below w.heap.size w w'))
    case atStart => exact ⟨(([] : List (List (List Int)))), (0), (ry_), H', ⟨Nat.le_refl _⟩, ⟨by (with_reducible repeat (first | apply Kd.N_alloc | apply Kd.N_drewN | apply Kd.N_drew)); exact Kd.N_mono HO236.out (fun _ hk => ⟨hk.1, ⟨(by simp [Value.ownBlock]), ⟨hk.2.2.1, hk.2.2.2⟩⟩⟩)⟩, ⟨by first | exact Kd.R_nil _ _ _ _ _ | exact Kd.N_nil _ _ _ _ _ | exact Kd.V_nil _ _ _ _ _ | exact Kd.Q_nil _ _ _ _ _ | exact Kd.S_nil _ _ _ _ _⟩, ⟨by (with_reducible repeat (first | apply Kd.N_alloc | apply Kd.N_drewN | apply Kd.N_drew)); exact Kd.N_mono HO236.out (fun _ hk => ⟨hk.1, ⟨(by simp [Value.ownBlock]), ⟨hk.2.2.1, hk.2.2.2⟩⟩⟩)⟩, ⟨pk BK229.out⟩, ⟨pk BK230.out⟩, ⟨by repeat (with_reducible first | exact HB.out | apply ba_ | apply bN_ | apply b1_ | refine below_set ?_ (Aside0.out (by assumption)))⟩⟩
    case round =>
     clear H'
     try clear c1
     try clear p2
     try clear c3
     try clear c5
     try clear c6
     try clear p6
     try clear c7
     try clear c7b0
     try clear c8
     try clear c11
     try clear hcz12_0
     try clear hcz12_1
     try clear hcz12_2
     try clear hcz6_0
     try clear hcz6_1
     try clear hcz6_2
     try clear hfz12_0
     try clear hfz12_1
     try clear hfz12_2
     try clear hfz6_0
     try clear hfz6_1
     try clear hfz6_2
     try clear p2
     obtain ⟨x8_2, x32_2, rfl, HA, HK2, HO_7, HO_8, HO_30, BK229, BK230, HB⟩ := hrel
     cases gk with
     | zero => exact absurd HA.out (by simp [spec_toRounds.l1])
     | succ k2 =>
      have H := HA.out
      clear HA
      simp only [spec_toRounds.l1] at H
      by_cases c16 : x32_2 < (t234.length : Int)
      ·
       rw [if_pos c16] at H
       have c16b0 : decide (x32_2 < (t234.length : Int)) = true := decide_eq_true c16
       clear c16
       by_cases c17 : 0 ≤ x32_2
       ·
        rw [if_pos c17] at H
        have c17b0 : decide (0 ≤ x32_2) = true := decide_eq_true c17
        clear c17
        by_cases c18 : x32_2 < (t234.length : Int)
        ·
         rw [if_pos c18] at H
         have c18b0 : decide (x32_2 < (t234.length : Int)) = true := decide_eq_true c18
         clear c18
         replace H := Option.bind_eq_some_iff.mp H
         obtain ⟨t238, A190, H⟩ := H
         replace H : ((some (([t238] : List (List Int)) : List (List Int))).bind fun y241 => ((spec_toCan.f k2 l0_0 a0_1 a0_2 l1_0 a1_1 y241).bind fun t244 => (if t244 = true then (if x8_2.length < 5864062014805 then (if 0 ≤ (wrap64 (x32_2 + 1)) then (if (wrap64 (x32_2 + 1)) ≤ (t234.length : Int) then ((some (t234.drop ((wrap64 (x32_2 + 1)) : Int).toNat : List (List Int))).bind fun y248 => (spec_toRounds.l2 k2 t234 (x8_2 ++ [y241]) (rd_L2 t234 x32_2) t234 (t234.length : Int) x32_2 y248 (y248.length : Int) 0 l0_0 a0_1 a0_2 l1_0 a1_1)) else (none)) else (none)) else (none)) else (if 0 ≤ (wrap64 (x32_2 + 1)) then (if (wrap64 (x32_2 + 1)) ≤ (t234.length : Int) then ((some (t234.drop ((wrap64 (x32_2 + 1)) : Int).toNat : List (List Int))).bind fun y267 => (spec_toRounds.l2 k2 t234 x8_2 (rd_L2 t234 x32_2) t234 (t234.length : Int) x32_2 y267 (y267.length : Int) 0 l0_0 a0_1 a0_2 l1_0 a1_1)) else (none)) else (none))))) = some r := H
         have A19 := ak_ A190
         clear A190
         obtain ⟨y241, hy241⟩ : ∃ y_ : List (List Int), y_ = (([t238] : List (List Int))) := ⟨_, rfl⟩
         replace H : ((spec_toCan.f k2 l0_0 a0_1 a0_2 l1_0 a1_1 y241).bind fun t244 => (if t244 = true then (if x8_2.length < 5864062014805 then (if 0 ≤ (wrap64 (x32_2 + 1)) then (if (wrap64 (x32_2 + 1)) ≤ (t234.length : Int) then ((some (t234.drop ((wrap64 (x32_2 + 1)) : Int).toNat : List (List Int))).bind fun y248 => (spec_toRounds.l2 k2 t234 (x8_2 ++ [y241]) (rd_L2 t234 x32_2) t234 (t234.length : Int) x32_2 y248 (y248.length : Int) 0 l0_0 a0_1 a0_2 l1_0 a1_1)) else (none)) else (none)) else (none)) else (if 0 ≤ (wrap64 (x32_2 + 1)) then (if (wrap64 (x32_2 + 1)) ≤ (t234.length : Int) then ((some (t234.drop ((wrap64 (x32_2 + 1)) : Int).toNat : List (List Int))).bind fun y267 => (spec_toRounds.l2 k2 t234 x8_2 (rd_L2 t234 x32_2) t234 (t234.length : Int) x32_2 y267 (y267.length : Int) 0 l0_0 a0_1 a0_2 l1_0 a1_1)) else (none)) else (none)))) = some r := by first | (rw [hy241]; exact H) | exact H
         have Ny241 := ak_ hy241
         clear hy241
         replace H := Option.bind_eq_some_iff.mp H
         obtain ⟨t244, A200, H⟩ := H
         replace H : (if t244 = true then (if x8_2.length < 5864062014805 then (if 0 ≤ (wrap64 (x32_2 + 1)) then (if (wrap64 (x32_2 + 1)) ≤ (t234.length : Int) then ((some (t234.drop ((wrap64 (x32_2 + 1)) : Int).toNat : List (List Int))).bind fun y248 => (spec_toRounds.l2 k2 t234 (x8_2 ++ [y241]) (rd_L2 t234 x32_2) t234 (t234.length : Int) x32_2 y248 (y248.length : Int) 0 l0_0 a0_1 a0_2 l1_0 a1_1)) else (none)) else (none)) else (none)) else (if 0 ≤ (wrap64 (x32_2 + 1)) then (if (wrap64 (x32_2 + 1)) ≤ (t234.length : Int) then ((some (t234.drop ((wrap64 (x32_2 + 1)) : Int).toNat : List (List Int))).bind fun y267 => (spec_toRounds.l2 k2 t234 x8_2 (rd_L2 t234 x32_2) t234 (t234.length : Int) x32_2 y267 (y267.length : Int) 0 l0_0 a0_1 a0_2 l1_0 a1_1)) else (none)) else (none))) = some r := H
         have A20 := ak_ A200
         clear A200
         have HC21 := ak_ H
         clear H
         have p237 : 0 ≤ (x32_2 : Int) := odt_ (by assumption)
         have q237 : x32_2 < (t234.length : Int) := odt_ (by assumption)
         obtain ⟨ad237, A237_0, c237_0, e237, hx237_0, hl237_0, hi237_0⟩ := at_L2 (Kd.N_reads' HO_30.out).2.2 x32_2 p237 q237
         cases e237
         obtain ⟨ce237, hce237, hMe237, hcc237⟩ := Kd.N_get HO_30.out [] x32_2 p237 (by first | exact q237 | exact odt_ (by assumption) | (have e_ := (Kd.N_reads' HO_30.out).1; omega))
         obtain ⟨ua237_0, uc237_0, rfl, ul237_0, ge237_0⟩ := Kd.FK_slice_open hMe237
         have hv237_0 := hcc237 0 _ rfl
         rw [Nat.add_zero, show ((Kd.slice 3 (Kd.int .i64))).sz = 1 from rfl, Nat.mul_one] at hv237_0
         replace hv237_0 := Option.some.inj (hv237_0.symm.trans hx237_0)
         injection hv237_0 with hva_ hvn_ hvc_
         rw [hva_] at ge237_0
         rw [hvc_] at ul237_0
         have HL237_0 := ak_ (show Kd.V (Kd.int .i64) 3 _ w.heap.size _ _ (rd_L2 t234 x32_2) from Kd.V_mk ul237_0 ge237_0)
         clear hva_ hvn_ hvc_ ge237_0 ul237_0 hcc237 hce237
         have HR237_0 := ak_ hi237_0
         have HC237_0 := ak_ hl237_0
         clear hi237_0 hl237_0
         replace p237 := eq_true p237
         replace q237 := eq_true q237
         go_upto_if 43 with (first | ((with_reducible refine gate_callee (f := 66) rfl ?_); refine goesL_ (some 38) rfl rfl Try.func66 (by kernel_rfl) rfl #[.slice A237_0 (rd_L2 t234 x32_2).length c237_0] rfl (by first | rfl | (simp only [map_toArray, map_cons, map_nil]; try rfl)) ?_; (with_reducible refine (spec_l1Own.calls _ _ (rd_L2 t234 x32_2) t238 _ ?side1 ?side2 A19.out).mono ?_); (case side1 => repeat (first | exact (by repeat (first | (with_reducible exact HR237_0.out) | (with_reducible refine Kd.C_alloc ?_ _) | (with_reducible refine Kd.C_drewN ?_ _) | (with_reducible refine Kd.C_drew ?_) | exact HR237_0.out)) | (with_reducible refine Kd.C_alloc ?_ _) | (with_reducible refine Kd.C_drewN ?_ _) | (with_reducible refine Kd.C_drew ?_))); (case side2 => exact HC237_0.out); rintro e w22 ⟨v239, rfl, ho0, hb⟩; refine ⟨_, rfl, ?_⟩; have n0_ := ak_ (Kd.N_elder' (Kd.pN HO_7.out) (Kd.R_base ho0) hb); have n1_ := ak_ (Kd.N_elder' (Kd.pN HO_8.out) (Kd.R_base ho0) hb); have n2_ := ak_ (Kd.N_elder' (Kd.pN HO_30.out) (Kd.R_base ho0) hb); have n3_ := ak_ (Kd.V_elder' (Kd.pV HL237_0.out) (Kd.R_base ho0) hb); have n4_ := ak_ (Kd.R_lower (Kd.R_newM (M := fun k_ => (w.heap.size ≤ k_)) ho0 (bz_ bl_) (fun k_ h_ => h_)) (bz_ bl_)); have n5_ := ak_ (blk_below (pk BK229.out) hb); have n6_ := ak_ (blk_below (pk BK230.out) hb); have n7_ := ak_ (Kd.C_below (by repeat (first | (with_reducible exact HR237_0.out) | (with_reducible refine Kd.C_alloc ?_ _) | (with_reducible refine Kd.C_drewN ?_ _) | (with_reducible refine Kd.C_drew ?_) | exact HR237_0.out)) hb); have n8_ := ak_ (bs_ bl_ hb); clear HO_7; clear HO_8; clear HO_30; clear HL237_0; clear BK229; clear BK230; clear HR237_0; clear HB; have HO_7 := n0_; have HO_8 := n1_; have HO_30 := n2_; have HL237_0 := n3_; have HO240 := n4_; have BK229 := n5_; have BK230 := n6_; have HR237_0 := n7_; have HB := n8_; clear n0_ n1_ n2_ n3_ n4_ n5_ n6_ n7_ n8_; (try clear hb); (try clear hb2); (try clear hk); (try clear hi); (try clear ho0); obtain ⟨Ao23, co23, eo23⟩ := Kd.R_slice HO240.out; subst eo23) | ((with_reducible refine gate_dst (N := 39) rfl ?_); refine Kd.N_lit (Kd.slice 3 (Kd.int .i64)) _ 22 ?hg (N' := 39) ?hd (xs := ([t238] : List (List Int))) (inner := [.slice Ao23 t238.length co23]) (ok := (fun k_ => (w.heap.size ≤ k_) ∧ some k_ ≠ (.slice (some ad237) t234.length co15 : Value).ownBlock ∧ some k_ ≠ (u8 : Value).ownBlock ∧ some k_ ≠ (.slice (some ad237) t234.length co15 : Value).ownBlock ∧ k_ ≠ gb229 ∧ k_ ≠ gb230)) (okp := (fun k_ => (w.heap.size ≤ k_) ∧ some k_ ≠ (.slice (some ad237) t234.length co15 : Value).ownBlock ∧ some k_ ≠ (u8 : Value).ownBlock ∧ some k_ ≠ (.slice (some ad237) t234.length co15 : Value).ownBlock ∧ k_ ≠ gb229 ∧ k_ ≠ gb230)) ?hr ?hp (fun _ hk => hk) ((show ∀ k_, w22.heap.size ≤ k_ → (fun k_ => (w.heap.size ≤ k_) ∧ some k_ ≠ (.slice (some ad237) t234.length co15 : Value).ownBlock ∧ some k_ ≠ (u8 : Value).ownBlock ∧ some k_ ≠ (.slice (some ad237) t234.length co15 : Value).ownBlock ∧ k_ ≠ gb229 ∧ k_ ≠ gb230) k_ from fun k_ hk => ⟨(Nat.le_trans (bz_ bl_) hk), Kd.fresh' (Kd.N_lt (Kd.pN HO_7.out)) k_ hk, Kd.fresh' (Kd.N_lt (Kd.pN HO_8.out)) k_ hk, Kd.fresh' (Kd.N_lt (Kd.pN HO_30.out)) k_ hk, Kd.freshB (pk BK229.out) k_ hk, Kd.freshB (pk BK230.out) k_ hk⟩) _ (Nat.le_refl _)) (Below.refl _ _) (Nat.le_refl _) (by simp) ?_; (case hd => rfl); (case hg => rfl); (case hr => go_simp <;> rfl); (case hp => exact (Reps.one (show Kd.FK (Kd.slice 3 (Kd.int .i64)) _ _ t238 [.slice Ao23 t238.length co23] from (Kd.FK_slice_mk (Kd.R_reads' (Kd.R_mono (ok' := (fun k_ => (w.heap.size ≤ k_) ∧ some k_ ≠ (.slice (some ad237) t234.length co15 : Value).ownBlock ∧ some k_ ≠ (u8 : Value).ownBlock ∧ some k_ ≠ (.slice (some ad237) t234.length co15 : Value).ownBlock ∧ k_ ≠ gb229 ∧ k_ ≠ gb230)) (Kd.R_types (Kd.R_types (Kd.R_apart' (Kd.R_apart' (Kd.R_apart' (HO240.out) (Kd.N_typed HO_7.out) (by decide)) (Kd.N_typed HO_8.out) (by decide)) (Kd.N_typed HO_30.out) (by decide)) BK229.out (by decide)) BK230.out (by decide)) (fun k_ hk => ⟨hk.1.1.1.1.1.1, ⟨hk.1.1.1.1.2, ⟨hk.1.1.1.2, ⟨hk.1.1.2, ⟨hk.1.2, hk.2⟩⟩⟩⟩⟩))).2.1 (Kd.R_F (Kd.R_mono (ok' := (fun k_ => (w.heap.size ≤ k_) ∧ some k_ ≠ (.slice (some ad237) t234.length co15 : Value).ownBlock ∧ some k_ ≠ (u8 : Value).ownBlock ∧ some k_ ≠ (.slice (some ad237) t234.length co15 : Value).ownBlock ∧ k_ ≠ gb229 ∧ k_ ≠ gb230)) (Kd.R_types (Kd.R_types (Kd.R_apart' (Kd.R_apart' (Kd.R_apart' (HO240.out) (Kd.N_typed HO_7.out) (by decide)) (Kd.N_typed HO_8.out) (by decide)) (Kd.N_typed HO_30.out) (by decide)) BK229.out (by decide)) BK230.out (by decide)) (fun k_ hk => ⟨hk.1.1.1.1.1.1, ⟨hk.1.1.1.1.2, ⟨hk.1.1.1.2, ⟨hk.1.1.2, ⟨hk.1.2, hk.2⟩⟩⟩⟩⟩))))) (Reps.none _ _))); intro v242 w24 ho25 hb hg_ hnew_; clear hg_ hnew_; (first | rw [← Ny241.out] at ho25 | (simp only [Int.reduceToNat] at ho25; rw [← Ny241.out] at ho25)); have n0_ := ak_ (Kd.N_elder' (Kd.pN HO_7.out) (Kd.N_base ho25) hb); have n1_ := ak_ (Kd.N_elder' (Kd.pN HO_8.out) (Kd.N_base ho25) hb); have n2_ := ak_ (Kd.N_elder' (Kd.pN HO_30.out) (Kd.N_base ho25) hb); have n3_ := ak_ (Kd.V_elder' (Kd.pV HL237_0.out) (Kd.N_base ho25) hb); have n4_ := ak_ (Kd.N_lower ho25 (bz_ bl_)); have n5_ := ak_ (blk_below (pk BK229.out) hb); have n6_ := ak_ (blk_below (pk BK230.out) hb); have n7_ := ak_ (Kd.C_below (by repeat (first | (with_reducible exact HR237_0.out) | (with_reducible refine Kd.C_alloc ?_ _) | (with_reducible refine Kd.C_drewN ?_ _) | (with_reducible refine Kd.C_drew ?_) | exact HR237_0.out)) hb); have n8_ := ak_ (bs_ bl_ hb); clear HO_7; clear HO_8; clear HO_30; clear HL237_0; clear BK229; clear BK230; clear HR237_0; clear HB; clear HO240; have HO_7 := n0_; have HO_8 := n1_; have HO_30 := n2_; have HL237_0 := n3_; have HO243 := n4_; have BK229 := n5_; have BK230 := n6_; have HR237_0 := n7_; have HB := n8_; clear n0_ n1_ n2_ n3_ n4_ n5_ n6_ n7_ n8_; clear hb ho25; have hnb26 := NB229_230.out; have hnc26 := NB230_229.out; have hcz27_0 : w24.cell? ⟨gb229, 0, none⟩ = some (.slice A0_0 l0_0.length c0_0) := (blk_cell BK229.out 0).trans rfl; have hcz27_1 : w24.cell? ⟨gb229, 1, none⟩ = some (.int .i64 a0_1) := (blk_cell BK229.out 1).trans rfl; have hcz27_2 : w24.cell? ⟨gb229, 2, none⟩ = some (.int .i64 a0_2) := (blk_cell BK229.out 2).trans rfl; have hfz27_0 := blk_frozen BK229.out 0; have hfz27_1 := blk_frozen BK229.out 1; have hfz27_2 := blk_frozen BK229.out 2; have hcz28_0 : w24.cell? ⟨gb230, 0, none⟩ = some (.slice A1_0 l1_0.length c1_0) := (blk_cell BK230.out 0).trans rfl; have hcz28_1 : w24.cell? ⟨gb230, 1, none⟩ = some (.int .i64 a1_1) := (blk_cell BK230.out 1).trans rfl; have hfz28_0 := blk_frozen BK230.out 0; have hfz28_1 := blk_frozen BK230.out 1; obtain ⟨Ao29, co29, eo29⟩ := Kd.N_slice HO243.out; subst eo29) | ((with_reducible refine gate_callee (f := 67) rfl ?_); refine goesL_ (some 43) rfl rfl Try.func67 (by kernel_rfl) rfl #[.agg #[.slice A0_0 l0_0.length c0_0, .int .i64 a0_1, .int .i64 a0_2], .agg #[.slice A1_0 l1_0.length c1_0, .int .i64 a1_1], .slice Ao29 y241.length co29] rfl (by first | rfl | (simp only [map_toArray, map_cons, map_nil]; try rfl)) ?_; (with_reducible refine (spec_toCan.calls k2 _ _ l0_0 a0_1 a0_2 _ _ l1_0 a1_1 _ _ y241 t244 _ ?side1 ?side2 ?side3 ?side4 ?side5 ?side6 A20.out).mono ?_); (case side1 => repeat (first | exact (Kd.C_below HR0_0.out HB.out) | (with_reducible refine Kd.C_alloc ?_ _) | (with_reducible refine Kd.C_drewN ?_ _) | (with_reducible refine Kd.C_drew ?_))); (case side2 => exact HC0_0.out); (case side3 => repeat (first | exact (Kd.C_below HR1_0.out HB.out) | (with_reducible refine Kd.C_alloc ?_ _) | (with_reducible refine Kd.C_drewN ?_ _) | (with_reducible refine Kd.C_drew ?_))); (case side4 => exact HC1_0.out); (case side5 => repeat (first | exact (Kd.N_reads' HO243.out).2.2 | (with_reducible refine Kd.C_alloc ?_ _) | (with_reducible refine Kd.C_drewN ?_ _) | (with_reducible refine Kd.C_drew ?_))); (case side6 => exact (Kd.N_reads' HO243.out).2.1); rintro e w30 ⟨rfl, hb⟩; refine ⟨_, rfl, ?_⟩; have n0_ := ak_ (Kd.N_below (Kd.pN HO_7.out) hb); have n1_ := ak_ (Kd.N_below (Kd.pN HO_8.out) hb); have n2_ := ak_ (Kd.N_below (Kd.pN HO_30.out) hb); have n3_ := ak_ (Kd.V_below (Kd.pV HL237_0.out) hb); have n4_ := ak_ (Kd.N_below (Kd.pN HO243.out) hb); have n5_ := ak_ (blk_below (pk BK229.out) hb); have n6_ := ak_ (blk_below (pk BK230.out) hb); have n7_ := ak_ (Kd.C_below (by repeat (first | (with_reducible exact HR237_0.out) | (with_reducible refine Kd.C_alloc ?_ _) | (with_reducible refine Kd.C_drewN ?_ _) | (with_reducible refine Kd.C_drew ?_) | exact HR237_0.out)) hb); have n8_ := ak_ (bs_ bl_ hb); clear HO_7; clear HO_8; clear HO_30; clear HL237_0; clear HO243; clear BK229; clear BK230; clear HR237_0; clear HB; have HO_7 := n0_; have HO_8 := n1_; have HO_30 := n2_; have HL237_0 := n3_; have HO243 := n4_; have BK229 := n5_; have BK230 := n6_; have HR237_0 := n7_; have HB := n8_; clear n0_ n1_ n2_ n3_ n4_ n5_ n6_ n7_ n8_; (try clear hb); (try clear hb2); (try clear hk); (try clear hi)))
         (try simp only [Act.put, setIfInBounds_toArray, set_cons_zero, set_cons_succ])
         have H := HC21.out
         clear HC21
         by_cases c31 : t244 = true
         ·
          subst c31
          have H1 : (if x8_2.length < 5864062014805 then (if 0 ≤ (wrap64 (x32_2 + 1)) then (if (wrap64 (x32_2 + 1)) ≤ (t234.length : Int) then ((some (t234.drop ((wrap64 (x32_2 + 1)) : Int).toNat : List (List Int))).bind fun y248 => (spec_toRounds.l2 k2 t234 (x8_2 ++ [y241]) (rd_L2 t234 x32_2) t234 (t234.length : Int) x32_2 y248 (y248.length : Int) 0 l0_0 a0_1 a0_2 l1_0 a1_1)) else (none)) else (none)) else (none)) = some r := by rw [if_pos rfl] at H; exact H
          clear H
          have H := H1
          clear H1
          by_cases c32 : x8_2.length < 5864062014805
          ·
           rw [if_pos c32] at H
           have LMc32 := ak_ c32
           clear c32
           obtain ⟨y245, hy245⟩ : ∃ y_ : List (List (List Int)), y_ = (x8_2 ++ [y241]) := ⟨_, rfl⟩
           replace H : (if 0 ≤ (wrap64 (x32_2 + 1)) then (if (wrap64 (x32_2 + 1)) ≤ (t234.length : Int) then ((some (t234.drop ((wrap64 (x32_2 + 1)) : Int).toNat : List (List Int))).bind fun y248 => (spec_toRounds.l2 k2 t234 y245 (rd_L2 t234 x32_2) t234 (t234.length : Int) x32_2 y248 (y248.length : Int) 0 l0_0 a0_1 a0_2 l1_0 a1_1)) else (none)) else (none)) = some r := by first | (rw [hy245]; exact H) | exact H
           have Ny245 := ak_ hy245
           clear hy245
           obtain ⟨ji33, hji33⟩ : ∃ j_ : Int, (wrap64 (x32_2 + 1)) = j_ := ⟨_, rfl⟩
           replace H : (if 0 ≤ (ji33) then (if (ji33) ≤ (t234.length : Int) then ((some (t234.drop ((ji33) : Int).toNat : List (List Int))).bind fun y248 => (spec_toRounds.l2 k2 t234 y245 (rd_L2 t234 x32_2) t234 (t234.length : Int) x32_2 y248 (y248.length : Int) 0 l0_0 a0_1 a0_2 l1_0 a1_1)) else (none)) else (none)) = some r := by first | (rw [hji33] at H; exact H) | (simp only [hji33] at H ⊢; exact H)
           have hji33w : (IntKind.i64.wrap (x32_2 + 1)) = ji33 := (i64_w _).trans hji33
           by_cases c34 : 0 ≤ (ji33)
           ·
            rw [if_pos c34] at H
            have c34b0 := eq_true c34
            have c34b1 : decide (0 ≤ (ji33)) = true := decide_eq_true c34
            clear c34
            by_cases c35 : (ji33) ≤ (t234.length : Int)
            ·
             rw [if_pos c35] at H
             have c35b0 := eq_true c35
             have c35b1 : decide ((ji33) ≤ (t234.length : Int)) = true := decide_eq_true c35
             clear c35
             obtain ⟨y248, hy248⟩ : ∃ y_ : List (List Int), y_ = (t234.drop ((ji33) : Int).toNat) := ⟨_, rfl⟩
             replace H : (spec_toRounds.l2 k2 t234 y245 (rd_L2 t234 x32_2) t234 (t234.length : Int) x32_2 y248 (y248.length : Int) 0 l0_0 a0_1 a0_2 l1_0 a1_1) = some r := by first | (rw [hy248]; exact H) | exact H
             have Ny248 := ak_ hy248
             clear hy248
             have H' := ak_ H
             clear H
             go_wp2_with (first | ((with_reducible refine gate_builtin (b := .append) (xs := #[.tmp 44, .tmp 46]) rfl ?_); at_builtin; refine Kd.N_append (Kd.slice 22 (Kd.slice 3 (Kd.int .i64))) (w0 := w) w.heap.size rfl (.tmp 44) (.tmp 46) 30 57 (.slice none 0 0) 24 rfl Try.underlying30 info57 rfl (by decide) (by omega) u8 x8_2 y241 [.slice Ao29 y241.length co29] (fun k_ => (w.heap.size ≤ k_) ∧ some k_ ≠ (.slice (some ad237) t234.length co15 : Value).ownBlock ∧ some k_ ≠ (.slice (some ad237) t234.length co15 : Value).ownBlock ∧ k_ ≠ gb229 ∧ k_ ≠ gb230) (fun k_ => ((fun k_ => (w.heap.size ≤ k_) ∧ some k_ ≠ (.slice (some ad237) t234.length co15 : Value).ownBlock ∧ some k_ ≠ (.slice (some ad237) t234.length co15 : Value).ownBlock ∧ k_ ≠ gb229 ∧ k_ ≠ gb230)) k_ ∧ some k_ ≠ (u8 : Value).ownBlock) rfl rfl ?aP (fun _ hk => hk) ?aF ?aO ?aB ?aS ?aL ?_; (case aP => exact (Kd.FK_slice_mk (Kd.N_reads' (Kd.N_mono (ok' := (fun k_ => ((fun k_ => (w.heap.size ≤ k_) ∧ some k_ ≠ (.slice (some ad237) t234.length co15 : Value).ownBlock ∧ some k_ ≠ (.slice (some ad237) t234.length co15 : Value).ownBlock ∧ k_ ≠ gb229 ∧ k_ ≠ gb230)) k_ ∧ some k_ ≠ (u8 : Value).ownBlock)) (HO243.out) (fun k_ hk => ⟨⟨hk.1, ⟨hk.2.1, ⟨hk.2.2.2.1, ⟨hk.2.2.2.2.1, hk.2.2.2.2.2⟩⟩⟩⟩, hk.2.2.1⟩))).2.1 (Kd.N_F (Kd.N_mono (ok' := (fun k_ => ((fun k_ => (w.heap.size ≤ k_) ∧ some k_ ≠ (.slice (some ad237) t234.length co15 : Value).ownBlock ∧ some k_ ≠ (.slice (some ad237) t234.length co15 : Value).ownBlock ∧ k_ ≠ gb229 ∧ k_ ≠ gb230)) k_ ∧ some k_ ≠ (u8 : Value).ownBlock)) (HO243.out) (fun k_ hk => ⟨⟨hk.1, ⟨hk.2.1, ⟨hk.2.2.2.1, ⟨hk.2.2.2.2.1, hk.2.2.2.2.2⟩⟩⟩⟩, hk.2.2.1⟩))))); (case aB => exact bl_); (case aF => exact (fun k_ hk => ⟨(Nat.le_trans (bz_ bl_) hk), Kd.fresh' (Kd.N_lt (Kd.pN HO_7.out)) k_ hk, Kd.fresh' (Kd.N_lt (Kd.pN HO_30.out)) k_ hk, Kd.freshB (pk BK229.out) k_ hk, Kd.freshB (pk BK230.out) k_ hk⟩)); (case aO => exact (by (with_reducible repeat (first | apply Kd.N_alloc | apply Kd.N_drewN | apply Kd.N_drew)); exact Kd.N_mono HO_8.out (fun _ hk => ⟨hk.1.1.1, ⟨hk.1.1.2.1, ⟨hk.1.1.2.2.1, ⟨hk.1.1.2.2.2.1, hk.1.1.2.2.2.2⟩⟩⟩⟩))); (case aS => exact (bz_ bl_)); (case aL => have := LMc32.out; omega); intro v246 w36 ho hb hg hat; rw [← Ny245.out] at ho; have n0_ := ak_ (Kd.N_afterv (ok := (fun k_ => (w.heap.size ≤ k_) ∧ some k_ ≠ (.slice Ao29 y241.length co29 : Value).ownBlock ∧ k_ ≠ gb229 ∧ k_ ≠ gb230)) (by (with_reducible repeat (first | apply Kd.N_alloc | apply Kd.N_drewN | apply Kd.N_drew)); exact Kd.N_mono HO_7.out (fun _ hk => ⟨⟨hk.1.1.1, ⟨hk.2, ⟨hk.1.1.2.2.1, hk.1.1.2.2.2⟩⟩⟩, hk.1.1.2.1⟩)) hg hat); have n1_ := ak_ (Kd.N_afterv (ok := (fun k_ => (w.heap.size ≤ k_) ∧ some k_ ≠ (.slice Ao29 y241.length co29 : Value).ownBlock ∧ k_ ≠ gb229 ∧ k_ ≠ gb230)) (by (with_reducible repeat (first | apply Kd.N_alloc | apply Kd.N_drewN | apply Kd.N_drew)); exact Kd.N_mono HO_30.out (fun _ hk => ⟨⟨hk.1.1.1, ⟨hk.2, ⟨hk.1.1.2.2.1, hk.1.1.2.2.2⟩⟩⟩, hk.1.1.2.1⟩)) hg hat); have n2_ := ak_ (blk_grown (pk BK229.out) hg (Kd.N_ne HO_8.out BK229.out (by decide))); have n3_ := ak_ (blk_grown (pk BK230.out) hg (Kd.N_ne HO_8.out BK230.out (by decide))); have n4_ := ak_ (Kd.V_afterv (ok := (fun k_ => (w.heap.size ≤ k_) ∧ some k_ ≠ (.slice (some ad237) t234.length co15 : Value).ownBlock ∧ some k_ ≠ (.slice Ao29 y241.length co29 : Value).ownBlock ∧ k_ ≠ gb229 ∧ k_ ≠ gb230)) (by (with_reducible repeat (first | apply Kd.V_alloc | apply Kd.V_drewN | apply Kd.V_drew)); exact Kd.V_mono HL237_0.out (fun _ hk => ⟨⟨hk.1.1.1.1, ⟨hk.1.1.2, ⟨hk.2, ⟨hk.1.1.1.2.2.1, hk.1.1.1.2.2.2⟩⟩⟩⟩, hk.1.1.1.2.1⟩)) hg hat); have n5_ := ak_ (hb); have n6_ := ak_ (ho); clear HO_7; clear HO_30; clear BK229; clear BK230; clear HL237_0; clear HB; clear HO_8; clear HO243; have HO_7 := n0_; have HO_30 := n1_; have BK229 := n2_; have BK230 := n3_; have HL237_0 := n4_; have HB := n5_; have HO247 := n6_; clear n0_ n1_ n2_ n3_ n4_ n5_ n6_; clear ho hb hg hat; have q37 : ((ji33) : Int) ≤ ((t234.length : Int) : Int) := odt_ (by assumption); obtain ⟨i037, hi037, _, hsz37, _⟩ := info_parts info22; have hroom37 : t234.length ≤ co15 := (Kd.N_reads' HO_7.out).2.1; have hC37 : Kd.F (Kd.slice 3 (Kd.int .i64)) _ _ (some ad237) t234.length t234 := (Kd.V_at (base := w.heap.size) (Kd.N_V HO_7.out)).2.2; have q037 : (0 : Int) ≤ ((ji33) : Int) := odt_ (by assumption); have hcut37 := cut_from (P := Try.prog) 57 22 .i64 Try.underlying57 hi037 1 hsz37 (some ad237) t234.length co15 (ji33) q037 q37; have hr37 := Kd.F_cut (m := ((ji33) : Int).toNat) (c := co15) hC37 (by omega) hroom37; obtain ⟨A37, hA37⟩ : ∃ A1, A1 = (if co15 = ((ji33) : Int).toNat then (some ad237) else ((some ad237) : Option Addr).map (·.add (((ji33) : Int).toNat * 1))) := ⟨_, rfl⟩; obtain ⟨c37, hc37⟩ : ∃ c1, c1 = co15 - ((ji33) : Int).toNat := ⟨_, rfl⟩; have hy37 : y248.length = t234.length - ((ji33) : Int).toNat := (by rw [Ny248.out, List.length_drop] <;> omega); rw [show (t234).drop ((ji33) : Int).toNat = y248 from Ny248.out.symm] at hr37; replace hr37 : Kd.F (Kd.slice 3 (Kd.int .i64)) _ _ A37 y248.length y248 := (by rw [hA37]; exact hr37); rw [← hy37, ← hA37, ← hc37] at hcut37; have HO252 := ak_ (show Kd.V (Kd.slice 3 (Kd.int .i64)) 22 _ w.heap.size _ (.slice A37 y248.length c37) y248 from Kd.V_mk (by rw [hy37, hc37]; exact Nat.sub_le_sub_right hroom37 _) hr37); have HC252 := ak_ (show y248.length ≤ c37 from by rw [hy37, hc37]; exact Nat.sub_le_sub_right hroom37 _); clear hr37 hC37 hroom37 hi037 hsz37 hc37; have KY37 := ak_ hy37; have KA37 := ak_ hA37; clear hy37 hA37; replace q37 := eq_true q37))
             go_loopg [8, 53] k2 (fun kq v8 v53 w' => ∃ (x8_3 : List (List (List Int))) (x53_3 : Int), v53 = .int .i64 x53_3 ∧ Aside0 (spec_toRounds.l2 kq t234 x8_3 (rd_L2 t234 x32_2) t234 (t234.length : Int) x32_2 y248 (y248.length : Int) x53_3 l0_0 a0_1 a0_2 l1_0 a1_1 = some r) ∧ Aside0 (kq ≤ k2) ∧ Aside0 (Kd.N (Kd.slice 3 (Kd.int .i64)) 22 w' w.heap.size (fun k_ => (w.heap.size ≤ k_) ∧ some k_ ≠ (v8 : Value).ownBlock ∧ k_ ≠ gb229 ∧ k_ ≠ gb230) (.slice (some ad237) t234.length co15) t234) ∧ Aside0 (Kd.N (Kd.slice 22 (Kd.slice 3 (Kd.int .i64))) 57 w' w.heap.size (fun k_ => (w.heap.size ≤ k_) ∧ some k_ ≠ ((.slice (some ad237) t234.length co15) : Value).ownBlock ∧ some k_ ≠ ((.slice (some ad237) t234.length co15) : Value).ownBlock ∧ k_ ≠ gb229 ∧ k_ ≠ gb230) v8 x8_3) ∧ Aside0 (Kd.N (Kd.slice 3 (Kd.int .i64)) 22 w' w.heap.size (fun k_ => (w.heap.size ≤ k_) ∧ some k_ ≠ (v8 : Value).ownBlock ∧ k_ ≠ gb229 ∧ k_ ≠ gb230) (.slice (some ad237) t234.length co15) t234) ∧ Aside0 (Kd.V (Kd.slice 3 (Kd.int .i64)) 22 w' w.heap.size (fun k_ => (w.heap.size ≤ k_) ∧ some k_ ≠ (v8 : Value).ownBlock ∧ k_ ≠ gb229 ∧ k_ ≠ gb230) (.slice A37 y248.length c37) y248) ∧ Aside0 (w'.heap[gb229]? = some (.cells #[(.slice A0_0 l0_0.length c0_0), .int .i64 a0_1, .int .i64 a0_2] 33 (0, 0))) ∧ Aside0 (w'.heap[gb230]? = some (.cells #[(.slice A1_0 l1_0.length c1_0), .int .i64 a1_1] 35 (0, 0))) ∧ Aside0 (Below w.heap.size w w') ∧ Aside0 (Kd.V (Kd.int .i64) 3 w' w.heap.size (fun k_ => (w.heap.size ≤ k_) ∧ some k_ ≠ (v8 : Value).ownBlock ∧ k_ ≠ gb229 ∧ k_ ≠ gb230) (.slice A237_0 (rd_L2 t234 x32_2).length c237_0) (rd_L2 t234 x32_2)))
             case atStart => exact ⟨(y245), (0), (ry_), H', ⟨Nat.le_refl _⟩, ⟨by (with_reducible repeat (first | apply Kd.N_alloc | apply Kd.N_drewN | apply Kd.N_drew)); exact Kd.N_mono HO_7.out (fun _ hk => ⟨hk.1.1, ⟨hk.2, ⟨hk.1.2.2.1, hk.1.2.2.2⟩⟩⟩)⟩, ⟨Kd.pN HO247.out⟩, ⟨by (with_reducible repeat (first | apply Kd.N_alloc | apply Kd.N_drewN | apply Kd.N_drew)); exact Kd.N_mono HO_30.out (fun _ hk => ⟨hk.1.1, ⟨hk.2, ⟨hk.1.2.2.1, hk.1.2.2.2⟩⟩⟩)⟩, ⟨by (with_reducible repeat (first | apply Kd.V_alloc | apply Kd.V_drewN | apply Kd.V_drew)); exact Kd.V_mono HO252.out (fun _ hk => ⟨hk.1.1, ⟨hk.2, ⟨hk.1.2.2.1, hk.1.2.2.2⟩⟩⟩)⟩, ⟨pk BK229.out⟩, ⟨pk BK230.out⟩, ⟨by repeat (with_reducible first | exact HB.out | apply ba_ | apply bN_ | apply b1_ | refine below_set ?_ (Aside0.out (by assumption)))⟩, ⟨by (with_reducible repeat (first | apply Kd.V_alloc | apply Kd.V_drewN | apply Kd.V_drew)); exact Kd.V_mono HL237_0.out (fun k_ hk => by revert hk; simp only [and_imp]; intros; repeat' (first | assumption | apply And.intro))⟩⟩
             case round =>
              clear H'
              try clear c1
              try clear c2
              try clear p2
              try clear q2
              try clear hx2
              try clear c3
              try clear q3
              try clear c5
              try clear c6
              try clear p6
              try clear c7
              try clear c7b0
              try clear c8
              try clear c11
              try clear c16
              try clear c16b0
              try clear c17
              try clear c17b0
              try clear c18
              try clear c18b0
              try clear c23
              try clear p23
              try clear q23
              try clear hx23
              try clear c26
              try clear c31
              try clear c32
              try clear c34
              try clear c34b0
              try clear c34b1
              try clear c35
              try clear c35b0
              try clear c35b1
              try clear c37
              try clear q37
              try clear hcz12_0
              try clear hcz12_1
              try clear hcz12_2
              try clear hcz27_0
              try clear hcz27_1
              try clear hcz27_2
              try clear hcz28_0
              try clear hcz28_1
              try clear hcz6_0
              try clear hcz6_1
              try clear hcz6_2
              try clear hfz12_0
              try clear hfz12_1
              try clear hfz12_2
              try clear hfz27_0
              try clear hfz27_1
              try clear hfz27_2
              try clear hfz28_0
              try clear hfz28_1
              try clear hfz6_0
              try clear hfz6_1
              try clear hfz6_2
              try clear hx237_0
              try clear p2
              try clear p237
              try clear p6
              try clear q037
              try clear q237
              try clear q37
              clear HL237_0 HR237_0
              obtain ⟨x8_3, x53_3, rfl, HA, HK3, HO_7, HO_8, HO_30, HO_51, BK229, BK230, HB, HL237_0⟩ := hrel
              cases gk with
              | zero => exact absurd HA.out (by simp [spec_toRounds.l2])
              | succ k3 =>
               have H := HA.out
               clear HA
               simp only [spec_toRounds.l2] at H
               by_cases c38 : x53_3 < (y248.length : Int)
               ·
                rw [if_pos c38] at H
                have c38b0 : decide (x53_3 < (y248.length : Int)) = true := decide_eq_true c38
                clear c38
                (first | rw [c38b0] | (simp only [i64_w, i32_w]; rw [c38b0]) | rw [c38b1] | skip)
                by_cases c39 : 0 ≤ x53_3
                ·
                 rw [if_pos c39] at H
                 have c39b0 : decide (0 ≤ x53_3) = true := decide_eq_true c39
                 clear c39
                 by_cases c40 : x53_3 < (y248.length : Int)
                 ·
                  rw [if_pos c40] at H
                  have c40b0 : decide (x53_3 < (y248.length : Int)) = true := decide_eq_true c40
                  clear c40
                  replace H := Option.bind_eq_some_iff.mp H
                  obtain ⟨t254, A410, H⟩ := H
                  replace H : ((spec_l1Own.f (rd_L2 y248 x53_3)).bind fun t257 => ((some (([t254, t257] : List (List Int)) : List (List Int))).bind fun y260 => ((spec_toCan.f k3 l0_0 a0_1 a0_2 l1_0 a1_1 y260).bind fun t263 => (if t263 = true then (if x8_3.length < 5864062014805 then (spec_toRounds.l2 k3 t234 (x8_3 ++ [y260]) (rd_L2 t234 x32_2) t234 (t234.length : Int) x32_2 y248 (y248.length : Int) (wrap64 (x53_3 + 1)) l0_0 a0_1 a0_2 l1_0 a1_1) else (none)) else (spec_toRounds.l2 k3 t234 x8_3 (rd_L2 t234 x32_2) t234 (t234.length : Int) x32_2 y248 (y248.length : Int) (wrap64 (x53_3 + 1)) l0_0 a0_1 a0_2 l1_0 a1_1))))) = some r := H
                  have A41 := ak_ A410
                  clear A410
                  replace H := Option.bind_eq_some_iff.mp H
                  obtain ⟨t257, A420, H⟩ := H
                  replace H : ((some (([t254, t257] : List (List Int)) : List (List Int))).bind fun y260 => ((spec_toCan.f k3 l0_0 a0_1 a0_2 l1_0 a1_1 y260).bind fun t263 => (if t263 = true then (if x8_3.length < 5864062014805 then (spec_toRounds.l2 k3 t234 (x8_3 ++ [y260]) (rd_L2 t234 x32_2) t234 (t234.length : Int) x32_2 y248 (y248.length : Int) (wrap64 (x53_3 + 1)) l0_0 a0_1 a0_2 l1_0 a1_1) else (none)) else (spec_toRounds.l2 k3 t234 x8_3 (rd_L2 t234 x32_2) t234 (t234.length : Int) x32_2 y248 (y248.length : Int) (wrap64 (x53_3 + 1)) l0_0 a0_1 a0_2 l1_0 a1_1)))) = some r := H
                  have A42 := ak_ A420
                  clear A420
                  obtain ⟨y260, hy260⟩ : ∃ y_ : List (List Int), y_ = (([t254, t257] : List (List Int))) := ⟨_, rfl⟩
                  replace H : ((spec_toCan.f k3 l0_0 a0_1 a0_2 l1_0 a1_1 y260).bind fun t263 => (if t263 = true then (if x8_3.length < 5864062014805 then (spec_toRounds.l2 k3 t234 (x8_3 ++ [y260]) (rd_L2 t234 x32_2) t234 (t234.length : Int) x32_2 y248 (y248.length : Int) (wrap64 (x53_3 + 1)) l0_0 a0_1 a0_2 l1_0 a1_1) else (none)) else (spec_toRounds.l2 k3 t234 x8_3 (rd_L2 t234 x32_2) t234 (t234.length : Int) x32_2 y248 (y248.length : Int) (wrap64 (x53_3 + 1)) l0_0 a0_1 a0_2 l1_0 a1_1))) = some r := by first | (rw [hy260]; exact H) | exact H
                  have Ny260 := ak_ hy260
                  clear hy260
                  replace H := Option.bind_eq_some_iff.mp H
                  obtain ⟨t263, A430, H⟩ := H
                  replace H : (if t263 = true then (if x8_3.length < 5864062014805 then (spec_toRounds.l2 k3 t234 (x8_3 ++ [y260]) (rd_L2 t234 x32_2) t234 (t234.length : Int) x32_2 y248 (y248.length : Int) (wrap64 (x53_3 + 1)) l0_0 a0_1 a0_2 l1_0 a1_1) else (none)) else (spec_toRounds.l2 k3 t234 x8_3 (rd_L2 t234 x32_2) t234 (t234.length : Int) x32_2 y248 (y248.length : Int) (wrap64 (x53_3 + 1)) l0_0 a0_1 a0_2 l1_0 a1_1)) = some r := H
                  have A43 := ak_ A430
                  clear A430
                  have HC44 := ak_ H
                  clear H
                  have p253 : 0 ≤ (x53_3 : Int) := odt_ (by assumption)
                  have q253 : x53_3 < (y248.length : Int) := odt_ (by assumption)
                  obtain ⟨ad253, A253_0, c253_0, e253, hx253_0, hl253_0, hi253_0⟩ := at_L2 (Kd.V_reads' HO_51.out).2.2 x53_3 p253 q253
                  cases e253
                  obtain ⟨ce253, hce253, hMe253, hcc253⟩ := Kd.V_get HO_51.out [] x53_3 p253 (by first | exact q253 | exact odt_ (by assumption) | (have e_ := (Kd.V_reads' HO_51.out).1; omega))
                  obtain ⟨ua253_0, uc253_0, rfl, ul253_0, ge253_0⟩ := Kd.FK_slice_open hMe253
                  have hv253_0 := hcc253 0 _ rfl
                  rw [Nat.add_zero, show ((Kd.slice 3 (Kd.int .i64))).sz = 1 from rfl, Nat.mul_one] at hv253_0
                  replace hv253_0 := Option.some.inj (hv253_0.symm.trans hx253_0)
                  injection hv253_0 with hva_ hvn_ hvc_
                  rw [hva_] at ge253_0
                  rw [hvc_] at ul253_0
                  have HL253_0 := ak_ (show Kd.V (Kd.int .i64) 3 _ w.heap.size _ _ (rd_L2 y248 x53_3) from Kd.V_mk ul253_0 ge253_0)
                  clear hva_ hvn_ hvc_ ge253_0 ul253_0 hcc253 hce253
                  have HR253_0 := ak_ hi253_0
                  have HC253_0 := ak_ hl253_0
                  clear hi253_0 hl253_0
                  replace p253 := eq_true p253
                  replace q253 := eq_true q253
                  go_upto_if 65 with (first | ((with_reducible refine gate_callee (f := 66) rfl ?_); refine goesL_ (some 58) rfl rfl Try.func66 (by kernel_rfl) rfl #[.slice A237_0 (rd_L2 t234 x32_2).length c237_0] rfl (by first | rfl | (simp only [map_toArray, map_cons, map_nil]; try rfl)) ?_; (with_reducible refine (spec_l1Own.calls _ _ (rd_L2 t234 x32_2) t254 _ ?side1 ?side2 A41.out).mono ?_); (case side1 => repeat (first | exact (Kd.V_reads' (Kd.pV HL237_0.out)).2.2 | (with_reducible refine Kd.C_alloc ?_ _) | (with_reducible refine Kd.C_drewN ?_ _) | (with_reducible refine Kd.C_drew ?_))); (case side2 => exact HC237_0.out); rintro e w45 ⟨v255, rfl, ho0, hb⟩; refine ⟨_, rfl, ?_⟩; have n0_ := ak_ (Kd.N_elder' (Kd.pN HO_7.out) (Kd.R_base ho0) hb); have n1_ := ak_ (Kd.N_elder' (Kd.pN HO_8.out) (Kd.R_base ho0) hb); have n2_ := ak_ (Kd.N_elder' (Kd.pN HO_30.out) (Kd.R_base ho0) hb); have n3_ := ak_ (Kd.V_elder' (Kd.pV HO_51.out) (Kd.R_base ho0) hb); have mn3_ := ak_ (Kd.V_elder' (Kd.pV HL237_0.out) (Kd.R_base ho0) hb); have n4_ := ak_ (Kd.V_elder' (Kd.pV HL253_0.out) (Kd.R_base ho0) hb); have n5_ := ak_ (Kd.R_lower (Kd.R_newM (M := fun k_ => (w.heap.size ≤ k_)) ho0 (bz_ bl_) (fun k_ h_ => h_)) (bz_ bl_)); have n6_ := ak_ (blk_below (pk BK229.out) hb); have n7_ := ak_ (blk_below (pk BK230.out) hb); have n8_ := ak_ (Kd.C_below (by repeat (first | (with_reducible exact HR253_0.out) | (with_reducible refine Kd.C_alloc ?_ _) | (with_reducible refine Kd.C_drewN ?_ _) | (with_reducible refine Kd.C_drew ?_) | exact HR253_0.out)) hb); have n9_ := ak_ (bs_ bl_ hb); clear HO_7; clear HO_8; clear HO_30; clear HO_51; clear HL253_0; clear BK229; clear BK230; clear HR253_0; clear HB; have HO_7 := n0_; have HO_8 := n1_; have HO_30 := n2_; clear HL237_0; have HL237_0 := mn3_; clear mn3_; have HO_51 := n3_; have HL253_0 := n4_; have HO256 := n5_; have BK229 := n6_; have BK230 := n7_; have HR253_0 := n8_; have HB := n9_; clear n0_ n1_ n2_ n3_ n4_ n5_ n6_ n7_ n8_ n9_; (try clear hb); (try clear hb2); (try clear hk); (try clear hi); (try clear ho0)) | ((with_reducible refine gate_callee (f := 66) rfl ?_); refine goesL_ (some 60) rfl rfl Try.func66 (by kernel_rfl) rfl #[.slice A253_0 (rd_L2 y248 x53_3).length c253_0] rfl (by first | rfl | (simp only [map_toArray, map_cons, map_nil]; try rfl)) ?_; (with_reducible refine (spec_l1Own.calls _ _ (rd_L2 y248 x53_3) t257 _ ?side1 ?side2 A42.out).mono ?_); (case side1 => repeat (first | exact (by repeat (first | (with_reducible exact HR253_0.out) | (with_reducible refine Kd.C_alloc ?_ _) | (with_reducible refine Kd.C_drewN ?_ _) | (with_reducible refine Kd.C_drew ?_) | exact HR253_0.out)) | (with_reducible refine Kd.C_alloc ?_ _) | (with_reducible refine Kd.C_drewN ?_ _) | (with_reducible refine Kd.C_drew ?_))); (case side2 => exact HC253_0.out); rintro e w46 ⟨v258, rfl, ho0, hb⟩; refine ⟨_, rfl, ?_⟩; have n0_ := ak_ (Kd.N_elder' (Kd.pN HO_7.out) (Kd.R_base ho0) hb); have n1_ := ak_ (Kd.N_elder' (Kd.pN HO_8.out) (Kd.R_base ho0) hb); have n2_ := ak_ (Kd.N_elder' (Kd.pN HO_30.out) (Kd.R_base ho0) hb); have n3_ := ak_ (Kd.V_elder' (Kd.pV HO_51.out) (Kd.R_base ho0) hb); have mn3_ := ak_ (Kd.V_elder' (Kd.pV HL237_0.out) (Kd.R_base ho0) hb); have n4_ := ak_ (Kd.V_elder' (Kd.pV HL253_0.out) (Kd.R_base ho0) hb); have n5_ := ak_ (Kd.R_elder' (Kd.pR HO256.out) (Kd.R_base ho0) hb); have n6_ := ak_ (Kd.R_lower (Kd.R_new' (Kd.R_newM (M := fun k_ => (w.heap.size ≤ k_)) ho0 (bz_ bl_) (fun k_ h_ => h_)) (Kd.R_lt (Kd.pR HO256.out))) (bz_ bl_)); have n7_ := ak_ (blk_below (pk BK229.out) hb); have n8_ := ak_ (blk_below (pk BK230.out) hb); have n9_ := ak_ (Kd.C_below (by repeat (first | (with_reducible exact HR253_0.out) | (with_reducible refine Kd.C_alloc ?_ _) | (with_reducible refine Kd.C_drewN ?_ _) | (with_reducible refine Kd.C_drew ?_) | exact HR253_0.out)) hb); have n10_ := ak_ (bs_ bl_ hb); clear HO_7; clear HO_8; clear HO_30; clear HO_51; clear HL253_0; clear HO256; clear BK229; clear BK230; clear HR253_0; clear HB; have HO_7 := n0_; have HO_8 := n1_; have HO_30 := n2_; clear HL237_0; have HL237_0 := mn3_; clear mn3_; have HO_51 := n3_; have HL253_0 := n4_; have HO256 := n5_; have HO259 := n6_; have BK229 := n7_; have BK230 := n8_; have HR253_0 := n9_; have HB := n10_; clear n0_ n1_ n2_ n3_ n4_ n5_ n6_ n7_ n8_ n9_ n10_; (try clear hb); (try clear hb2); (try clear hk); (try clear hi); (try clear ho0); obtain ⟨Ao47, co47, eo47⟩ := Kd.R_slice HO256.out; subst eo47; obtain ⟨Ao48, co48, eo48⟩ := Kd.R_slice HO259.out; subst eo48) | ((with_reducible refine gate_dst (N := 61) rfl ?_); refine Kd.N_lit (Kd.slice 3 (Kd.int .i64)) _ 22 ?hg (N' := 61) ?hd (xs := ([t254, t257] : List (List Int))) (inner := [.slice Ao47 t254.length co47, .slice Ao48 t257.length co48]) (ok := (fun k_ => (w.heap.size ≤ k_) ∧ some k_ ≠ (.slice (some ad237) t234.length co15 : Value).ownBlock ∧ some k_ ≠ (u8 : Value).ownBlock ∧ some k_ ≠ (.slice (some ad237) t234.length co15 : Value).ownBlock ∧ k_ ≠ gb229 ∧ k_ ≠ gb230)) (okp := (fun k_ => (w.heap.size ≤ k_) ∧ some k_ ≠ (.slice (some ad237) t234.length co15 : Value).ownBlock ∧ some k_ ≠ (u8 : Value).ownBlock ∧ some k_ ≠ (.slice (some ad237) t234.length co15 : Value).ownBlock ∧ k_ ≠ gb229 ∧ k_ ≠ gb230)) ?hr ?hp (fun _ hk => hk) ((show ∀ k_, w46.heap.size ≤ k_ → (fun k_ => (w.heap.size ≤ k_) ∧ some k_ ≠ (.slice (some ad237) t234.length co15 : Value).ownBlock ∧ some k_ ≠ (u8 : Value).ownBlock ∧ some k_ ≠ (.slice (some ad237) t234.length co15 : Value).ownBlock ∧ k_ ≠ gb229 ∧ k_ ≠ gb230) k_ from fun k_ hk => ⟨(Nat.le_trans (bz_ bl_) hk), Kd.fresh' (Kd.N_lt (Kd.pN HO_7.out)) k_ hk, Kd.fresh' (Kd.N_lt (Kd.pN HO_8.out)) k_ hk, Kd.fresh' (Kd.N_lt (Kd.pN HO_30.out)) k_ hk, Kd.freshB (pk BK229.out) k_ hk, Kd.freshB (pk BK230.out) k_ hk⟩) _ (Nat.le_refl _)) (Below.refl _ _) (Nat.le_refl _) (by simp) ?_; (case hd => rfl); (case hg => rfl); (case hr => go_simp <;> rfl); (case hp => exact (Reps.one (show Kd.FK (Kd.slice 3 (Kd.int .i64)) _ _ t254 [.slice Ao47 t254.length co47] from (Kd.FK_slice_mk (Kd.R_reads' (Kd.R_mono (ok' := (fun k_ => (w.heap.size ≤ k_) ∧ some k_ ≠ (.slice (some ad237) t234.length co15 : Value).ownBlock ∧ some k_ ≠ (u8 : Value).ownBlock ∧ some k_ ≠ (.slice (some ad237) t234.length co15 : Value).ownBlock ∧ k_ ≠ gb229 ∧ k_ ≠ gb230)) (Kd.R_types (Kd.R_types (Kd.R_apart' (Kd.R_apart' (Kd.R_apart' (HO256.out) (Kd.N_typed HO_7.out) (by decide)) (Kd.N_typed HO_8.out) (by decide)) (Kd.N_typed HO_30.out) (by decide)) BK229.out (by decide)) BK230.out (by decide)) (fun k_ hk => ⟨hk.1.1.1.1.1.1.1, ⟨hk.1.1.1.1.2, ⟨hk.1.1.1.2, ⟨hk.1.1.2, ⟨hk.1.2, hk.2⟩⟩⟩⟩⟩))).2.1 (Kd.R_F (Kd.R_mono (ok' := (fun k_ => (w.heap.size ≤ k_) ∧ some k_ ≠ (.slice (some ad237) t234.length co15 : Value).ownBlock ∧ some k_ ≠ (u8 : Value).ownBlock ∧ some k_ ≠ (.slice (some ad237) t234.length co15 : Value).ownBlock ∧ k_ ≠ gb229 ∧ k_ ≠ gb230)) (Kd.R_types (Kd.R_types (Kd.R_apart' (Kd.R_apart' (Kd.R_apart' (HO256.out) (Kd.N_typed HO_7.out) (by decide)) (Kd.N_typed HO_8.out) (by decide)) (Kd.N_typed HO_30.out) (by decide)) BK229.out (by decide)) BK230.out (by decide)) (fun k_ hk => ⟨hk.1.1.1.1.1.1.1, ⟨hk.1.1.1.1.2, ⟨hk.1.1.1.2, ⟨hk.1.1.2, ⟨hk.1.2, hk.2⟩⟩⟩⟩⟩))))) (Reps.one (show Kd.FK (Kd.slice 3 (Kd.int .i64)) _ _ t257 [.slice Ao48 t257.length co48] from (Kd.FK_slice_mk (Kd.R_reads' (Kd.R_mono (ok' := (fun k_ => (w.heap.size ≤ k_) ∧ some k_ ≠ (.slice (some ad237) t234.length co15 : Value).ownBlock ∧ some k_ ≠ (u8 : Value).ownBlock ∧ some k_ ≠ (.slice (some ad237) t234.length co15 : Value).ownBlock ∧ k_ ≠ gb229 ∧ k_ ≠ gb230)) (Kd.R_types (Kd.R_types (Kd.R_apart' (Kd.R_apart' (Kd.R_apart' (HO259.out) (Kd.N_typed HO_7.out) (by decide)) (Kd.N_typed HO_8.out) (by decide)) (Kd.N_typed HO_30.out) (by decide)) BK229.out (by decide)) BK230.out (by decide)) (fun k_ hk => ⟨hk.1.1.1.1.1.1.1, ⟨hk.1.1.1.1.2, ⟨hk.1.1.1.2, ⟨hk.1.1.2, ⟨hk.1.2, hk.2⟩⟩⟩⟩⟩))).2.1 (Kd.R_F (Kd.R_mono (ok' := (fun k_ => (w.heap.size ≤ k_) ∧ some k_ ≠ (.slice (some ad237) t234.length co15 : Value).ownBlock ∧ some k_ ≠ (u8 : Value).ownBlock ∧ some k_ ≠ (.slice (some ad237) t234.length co15 : Value).ownBlock ∧ k_ ≠ gb229 ∧ k_ ≠ gb230)) (Kd.R_types (Kd.R_types (Kd.R_apart' (Kd.R_apart' (Kd.R_apart' (HO259.out) (Kd.N_typed HO_7.out) (by decide)) (Kd.N_typed HO_8.out) (by decide)) (Kd.N_typed HO_30.out) (by decide)) BK229.out (by decide)) BK230.out (by decide)) (fun k_ hk => ⟨hk.1.1.1.1.1.1.1, ⟨hk.1.1.1.1.2, ⟨hk.1.1.1.2, ⟨hk.1.1.2, ⟨hk.1.2, hk.2⟩⟩⟩⟩⟩))))) (Reps.none _ _)))); intro v261 w49 ho50 hb hg_ hnew_; clear hg_ hnew_; (first | rw [← Ny260.out] at ho50 | (simp only [Int.reduceToNat] at ho50; rw [← Ny260.out] at ho50)); have n0_ := ak_ (Kd.N_elder' (Kd.pN HO_7.out) (Kd.N_base ho50) hb); have n1_ := ak_ (Kd.N_elder' (Kd.pN HO_8.out) (Kd.N_base ho50) hb); have n2_ := ak_ (Kd.N_elder' (Kd.pN HO_30.out) (Kd.N_base ho50) hb); have n3_ := ak_ (Kd.V_elder' (Kd.pV HO_51.out) (Kd.N_base ho50) hb); have mn3_ := ak_ (Kd.V_elder' (Kd.pV HL237_0.out) (Kd.N_base ho50) hb); have n4_ := ak_ (Kd.V_elder' (Kd.pV HL253_0.out) (Kd.N_base ho50) hb); have n5_ := ak_ (Kd.N_lower ho50 (bz_ bl_)); have n6_ := ak_ (blk_below (pk BK229.out) hb); have n7_ := ak_ (blk_below (pk BK230.out) hb); have n8_ := ak_ (Kd.C_below (by repeat (first | (with_reducible exact HR253_0.out) | (with_reducible refine Kd.C_alloc ?_ _) | (with_reducible refine Kd.C_drewN ?_ _) | (with_reducible refine Kd.C_drew ?_) | exact HR253_0.out)) hb); have n9_ := ak_ (bs_ bl_ hb); clear HO_7; clear HO_8; clear HO_30; clear HO_51; clear HL253_0; clear BK229; clear BK230; clear HR253_0; clear HB; clear HO256; clear HO259; have HO_7 := n0_; have HO_8 := n1_; have HO_30 := n2_; clear HL237_0; have HL237_0 := mn3_; clear mn3_; have HO_51 := n3_; have HL253_0 := n4_; have HO262 := n5_; have BK229 := n6_; have BK230 := n7_; have HR253_0 := n8_; have HB := n9_; clear n0_ n1_ n2_ n3_ n4_ n5_ n6_ n7_ n8_ n9_; clear hb ho50; have hnb51 := NB229_230.out; have hnc51 := NB230_229.out; have hcz52_0 : w49.cell? ⟨gb229, 0, none⟩ = some (.slice A0_0 l0_0.length c0_0) := (blk_cell BK229.out 0).trans rfl; have hcz52_1 : w49.cell? ⟨gb229, 1, none⟩ = some (.int .i64 a0_1) := (blk_cell BK229.out 1).trans rfl; have hcz52_2 : w49.cell? ⟨gb229, 2, none⟩ = some (.int .i64 a0_2) := (blk_cell BK229.out 2).trans rfl; have hfz52_0 := blk_frozen BK229.out 0; have hfz52_1 := blk_frozen BK229.out 1; have hfz52_2 := blk_frozen BK229.out 2; have hcz53_0 : w49.cell? ⟨gb230, 0, none⟩ = some (.slice A1_0 l1_0.length c1_0) := (blk_cell BK230.out 0).trans rfl; have hcz53_1 : w49.cell? ⟨gb230, 1, none⟩ = some (.int .i64 a1_1) := (blk_cell BK230.out 1).trans rfl; have hfz53_0 := blk_frozen BK230.out 0; have hfz53_1 := blk_frozen BK230.out 1; obtain ⟨Ao54, co54, eo54⟩ := Kd.N_slice HO262.out; subst eo54) | ((with_reducible refine gate_callee (f := 67) rfl ?_); refine goesL_ (some 65) rfl rfl Try.func67 (by kernel_rfl) rfl #[.agg #[.slice A0_0 l0_0.length c0_0, .int .i64 a0_1, .int .i64 a0_2], .agg #[.slice A1_0 l1_0.length c1_0, .int .i64 a1_1], .slice Ao54 y260.length co54] rfl (by first | rfl | (simp only [map_toArray, map_cons, map_nil]; try rfl)) ?_; (with_reducible refine (spec_toCan.calls k3 _ _ l0_0 a0_1 a0_2 _ _ l1_0 a1_1 _ _ y260 t263 _ ?side1 ?side2 ?side3 ?side4 ?side5 ?side6 A43.out).mono ?_); (case side1 => repeat (first | exact (Kd.C_below HR0_0.out HB.out) | (with_reducible refine Kd.C_alloc ?_ _) | (with_reducible refine Kd.C_drewN ?_ _) | (with_reducible refine Kd.C_drew ?_))); (case side2 => exact HC0_0.out); (case side3 => repeat (first | exact (Kd.C_below HR1_0.out HB.out) | (with_reducible refine Kd.C_alloc ?_ _) | (with_reducible refine Kd.C_drewN ?_ _) | (with_reducible refine Kd.C_drew ?_))); (case side4 => exact HC1_0.out); (case side5 => repeat (first | exact (Kd.N_reads' HO262.out).2.2 | (with_reducible refine Kd.C_alloc ?_ _) | (with_reducible refine Kd.C_drewN ?_ _) | (with_reducible refine Kd.C_drew ?_))); (case side6 => exact (Kd.N_reads' HO262.out).2.1); rintro e w55 ⟨rfl, hb⟩; refine ⟨_, rfl, ?_⟩; have n0_ := ak_ (Kd.N_below (Kd.pN HO_7.out) hb); have n1_ := ak_ (Kd.N_below (Kd.pN HO_8.out) hb); have n2_ := ak_ (Kd.N_below (Kd.pN HO_30.out) hb); have n3_ := ak_ (Kd.V_below (Kd.pV HO_51.out) hb); have mn3_ := ak_ (Kd.V_below (Kd.pV HL237_0.out) hb); have n4_ := ak_ (Kd.V_below (Kd.pV HL253_0.out) hb); have n5_ := ak_ (Kd.N_below (Kd.pN HO262.out) hb); have n6_ := ak_ (blk_below (pk BK229.out) hb); have n7_ := ak_ (blk_below (pk BK230.out) hb); have n8_ := ak_ (Kd.C_below (by repeat (first | (with_reducible exact HR253_0.out) | (with_reducible refine Kd.C_alloc ?_ _) | (with_reducible refine Kd.C_drewN ?_ _) | (with_reducible refine Kd.C_drew ?_) | exact HR253_0.out)) hb); have n9_ := ak_ (bs_ bl_ hb); clear HO_7; clear HO_8; clear HO_30; clear HO_51; clear HL253_0; clear HO262; clear BK229; clear BK230; clear HR253_0; clear HB; have HO_7 := n0_; have HO_8 := n1_; have HO_30 := n2_; clear HL237_0; have HL237_0 := mn3_; clear mn3_; have HO_51 := n3_; have HL253_0 := n4_; have HO262 := n5_; have BK229 := n6_; have BK230 := n7_; have HR253_0 := n8_; have HB := n9_; clear n0_ n1_ n2_ n3_ n4_ n5_ n6_ n7_ n8_ n9_; (try clear hb); (try clear hb2); (try clear hk); (try clear hi)))
                  (try simp only [Act.put, setIfInBounds_toArray, set_cons_zero, set_cons_succ])
                  have H := HC44.out
                  clear HC44
                  by_cases c56 : t263 = true
                  ·
                   subst c56
                   have H1 : (if x8_3.length < 5864062014805 then (spec_toRounds.l2 k3 t234 (x8_3 ++ [y260]) (rd_L2 t234 x32_2) t234 (t234.length : Int) x32_2 y248 (y248.length : Int) (wrap64 (x53_3 + 1)) l0_0 a0_1 a0_2 l1_0 a1_1) else (none)) = some r := by rw [if_pos rfl] at H; exact H
                   clear H
                   have H := H1
                   clear H1
                   by_cases c57 : x8_3.length < 5864062014805
                   ·
                    rw [if_pos c57] at H
                    have LMc57 := ak_ c57
                    clear c57
                    obtain ⟨y264, hy264⟩ : ∃ y_ : List (List (List Int)), y_ = (x8_3 ++ [y260]) := ⟨_, rfl⟩
                    replace H : (spec_toRounds.l2 k3 t234 y264 (rd_L2 t234 x32_2) t234 (t234.length : Int) x32_2 y248 (y248.length : Int) (wrap64 (x53_3 + 1)) l0_0 a0_1 a0_2 l1_0 a1_1) = some r := by first | (rw [hy264]; exact H) | exact H
                    have Ny264 := ak_ hy264
                    clear hy264
                    have H' := ak_ H
                    clear H
                    go_wp2_with (first | ((with_reducible refine gate_builtin (b := .append) (xs := #[.tmp 66, .tmp 68]) rfl ?_); at_builtin; refine Kd.N_append (Kd.slice 22 (Kd.slice 3 (Kd.int .i64))) (w0 := w) w.heap.size rfl (.tmp 66) (.tmp 68) 30 57 (.slice none 0 0) 24 rfl Try.underlying30 info57 rfl (by decide) (by omega) u8 x8_3 y260 [.slice Ao54 y260.length co54] (fun k_ => (w.heap.size ≤ k_) ∧ some k_ ≠ (.slice (some ad237) t234.length co15 : Value).ownBlock ∧ some k_ ≠ (.slice (some ad237) t234.length co15 : Value).ownBlock ∧ k_ ≠ gb229 ∧ k_ ≠ gb230) (fun k_ => ((fun k_ => (w.heap.size ≤ k_) ∧ some k_ ≠ (.slice (some ad237) t234.length co15 : Value).ownBlock ∧ some k_ ≠ (.slice (some ad237) t234.length co15 : Value).ownBlock ∧ k_ ≠ gb229 ∧ k_ ≠ gb230)) k_ ∧ some k_ ≠ (u8 : Value).ownBlock) rfl rfl ?aP (fun _ hk => hk) ?aF ?aO ?aB ?aS ?aL ?_; (case aP => exact (Kd.FK_slice_mk (Kd.N_reads' (Kd.N_mono (ok' := (fun k_ => ((fun k_ => (w.heap.size ≤ k_) ∧ some k_ ≠ (.slice (some ad237) t234.length co15 : Value).ownBlock ∧ some k_ ≠ (.slice (some ad237) t234.length co15 : Value).ownBlock ∧ k_ ≠ gb229 ∧ k_ ≠ gb230)) k_ ∧ some k_ ≠ (u8 : Value).ownBlock)) (HO262.out) (fun k_ hk => ⟨⟨hk.1, ⟨hk.2.1, ⟨hk.2.2.2.1, ⟨hk.2.2.2.2.1, hk.2.2.2.2.2⟩⟩⟩⟩, hk.2.2.1⟩))).2.1 (Kd.N_F (Kd.N_mono (ok' := (fun k_ => ((fun k_ => (w.heap.size ≤ k_) ∧ some k_ ≠ (.slice (some ad237) t234.length co15 : Value).ownBlock ∧ some k_ ≠ (.slice (some ad237) t234.length co15 : Value).ownBlock ∧ k_ ≠ gb229 ∧ k_ ≠ gb230)) k_ ∧ some k_ ≠ (u8 : Value).ownBlock)) (HO262.out) (fun k_ hk => ⟨⟨hk.1, ⟨hk.2.1, ⟨hk.2.2.2.1, ⟨hk.2.2.2.2.1, hk.2.2.2.2.2⟩⟩⟩⟩, hk.2.2.1⟩))))); (case aB => exact bl_); (case aF => exact (fun k_ hk => ⟨(Nat.le_trans (bz_ bl_) hk), Kd.fresh' (Kd.N_lt (Kd.pN HO_7.out)) k_ hk, Kd.fresh' (Kd.N_lt (Kd.pN HO_30.out)) k_ hk, Kd.freshB (pk BK229.out) k_ hk, Kd.freshB (pk BK230.out) k_ hk⟩)); (case aO => exact (by (with_reducible repeat (first | apply Kd.N_alloc | apply Kd.N_drewN | apply Kd.N_drew)); exact Kd.N_mono HO_8.out (fun _ hk => ⟨hk.1.1.1.1, ⟨hk.1.1.1.2.1, ⟨hk.1.1.1.2.2.1, ⟨hk.1.1.1.2.2.2.1, hk.1.1.1.2.2.2.2⟩⟩⟩⟩))); (case aS => exact (bz_ bl_)); (case aL => have := LMc57.out; omega); intro v265 w58 ho hb hg hat; rw [← Ny264.out] at ho; have n0_ := ak_ (Kd.N_afterv (ok := (fun k_ => (w.heap.size ≤ k_) ∧ some k_ ≠ (.slice Ao54 y260.length co54 : Value).ownBlock ∧ k_ ≠ gb229 ∧ k_ ≠ gb230)) (by (with_reducible repeat (first | apply Kd.N_alloc | apply Kd.N_drewN | apply Kd.N_drew)); exact Kd.N_mono HO_7.out (fun _ hk => ⟨⟨hk.1.1.1.1, ⟨hk.2, ⟨hk.1.1.1.2.2.1, hk.1.1.1.2.2.2⟩⟩⟩, hk.1.1.1.2.1⟩)) hg hat); have n1_ := ak_ (Kd.N_afterv (ok := (fun k_ => (w.heap.size ≤ k_) ∧ some k_ ≠ (.slice Ao54 y260.length co54 : Value).ownBlock ∧ k_ ≠ gb229 ∧ k_ ≠ gb230)) (by (with_reducible repeat (first | apply Kd.N_alloc | apply Kd.N_drewN | apply Kd.N_drew)); exact Kd.N_mono HO_30.out (fun _ hk => ⟨⟨hk.1.1.1.1, ⟨hk.2, ⟨hk.1.1.1.2.2.1, hk.1.1.1.2.2.2⟩⟩⟩, hk.1.1.1.2.1⟩)) hg hat); have n2_ := ak_ (Kd.V_afterv (ok := (fun k_ => (w.heap.size ≤ k_) ∧ some k_ ≠ (.slice Ao54 y260.length co54 : Value).ownBlock ∧ k_ ≠ gb229 ∧ k_ ≠ gb230)) (by (with_reducible repeat (first | apply Kd.V_alloc | apply Kd.V_drewN | apply Kd.V_drew)); exact Kd.V_mono HO_51.out (fun _ hk => ⟨⟨hk.1.1.1.1, ⟨hk.2, ⟨hk.1.1.1.2.2.1, hk.1.1.1.2.2.2⟩⟩⟩, hk.1.1.1.2.1⟩)) hg hat); have mn2_ := ak_ (Kd.V_afterv (ok := (fun k_ => (w.heap.size ≤ k_) ∧ some k_ ≠ (.slice Ao54 y260.length co54 : Value).ownBlock ∧ k_ ≠ gb229 ∧ k_ ≠ gb230)) (by (with_reducible repeat (first | apply Kd.V_alloc | apply Kd.V_drewN | apply Kd.V_drew)); exact Kd.V_mono HL237_0.out (fun _ hk => ⟨⟨hk.1.1.1.1, ⟨hk.2, ⟨hk.1.1.1.2.2.1, hk.1.1.1.2.2.2⟩⟩⟩, hk.1.1.1.2.1⟩)) hg hat); have n3_ := ak_ (blk_grown (pk BK229.out) hg (Kd.N_ne HO_8.out BK229.out (by decide))); have n4_ := ak_ (blk_grown (pk BK230.out) hg (Kd.N_ne HO_8.out BK230.out (by decide))); have n5_ := ak_ (Kd.V_afterv (ok := (fun k_ => (w.heap.size ≤ k_) ∧ some k_ ≠ (.slice Ao54 y260.length co54 : Value).ownBlock ∧ k_ ≠ gb229 ∧ k_ ≠ gb230)) (by (with_reducible repeat (first | apply Kd.V_alloc | apply Kd.V_drewN | apply Kd.V_drew)); exact Kd.V_mono HL253_0.out (fun _ hk => ⟨⟨hk.1.1.1.1, ⟨hk.2, ⟨hk.1.1.1.2.2.1, hk.1.1.1.2.2.2⟩⟩⟩, hk.1.1.1.2.1⟩)) hg hat); have n6_ := ak_ (hb); have n7_ := ak_ (ho); clear HO_7; clear HO_30; clear HO_51; clear BK229; clear BK230; clear HL253_0; clear HB; clear HO_8; clear HO262; have HO_7 := n0_; have HO_30 := n1_; clear HL237_0; have HL237_0 := mn2_; clear mn2_; have HO_51 := n2_; have BK229 := n3_; have BK230 := n4_; have HL253_0 := n5_; have HB := n6_; have HO266 := n7_; clear n0_ n1_ n2_ n3_ n4_ n5_ n6_ n7_; clear ho hb hg hat))
                    go_roundg k3
                    case measure => have := HK1.out; have := HK2.out; have := HK3.out; omega
                    case rel => exact ⟨(y264), (wrap64 (x53_3 + 1)), (ry_), H', ⟨by have := HK1.out; have := HK2.out; have := HK3.out; omega⟩, ⟨by (with_reducible repeat (first | apply Kd.N_alloc | apply Kd.N_drewN | apply Kd.N_drew)); exact Kd.N_mono HO_7.out (fun _ hk => ⟨hk.1.1, ⟨hk.2, ⟨hk.1.2.2.1, hk.1.2.2.2⟩⟩⟩)⟩, ⟨Kd.pN HO266.out⟩, ⟨by (with_reducible repeat (first | apply Kd.N_alloc | apply Kd.N_drewN | apply Kd.N_drew)); exact Kd.N_mono HO_30.out (fun _ hk => ⟨hk.1.1, ⟨hk.2, ⟨hk.1.2.2.1, hk.1.2.2.2⟩⟩⟩)⟩, ⟨by (with_reducible repeat (first | apply Kd.V_alloc | apply Kd.V_drewN | apply Kd.V_drew)); exact Kd.V_mono HO_51.out (fun _ hk => ⟨hk.1.1, ⟨hk.2, ⟨hk.1.2.2.1, hk.1.2.2.2⟩⟩⟩)⟩, ⟨pk BK229.out⟩, ⟨pk BK230.out⟩, ⟨by repeat (with_reducible first | exact HB.out | apply ba_ | apply bN_ | apply b1_ | refine below_set ?_ (Aside0.out (by assumption)))⟩, ⟨by (with_reducible repeat (first | apply Kd.V_alloc | apply Kd.V_drewN | apply Kd.V_drew)); exact Kd.V_mono HL237_0.out (fun _ hk => ⟨hk.1.1, ⟨hk.2, ⟨hk.1.2.2.1, hk.1.2.2.2⟩⟩⟩)⟩⟩
                   ·
                    rw [if_neg c57] at H
                    exact absurd H (by simp)
                  ·
                   replace c56 := Bool.eq_false_iff.mpr c56
                   subst c56
                   have H1 : (spec_toRounds.l2 k3 t234 x8_3 (rd_L2 t234 x32_2) t234 (t234.length : Int) x32_2 y248 (y248.length : Int) (wrap64 (x53_3 + 1)) l0_0 a0_1 a0_2 l1_0 a1_1) = some r := by rw [if_neg (show ¬ (false = true) by decide)] at H; exact H
                   clear H
                   have H := H1
                   clear H1
                   have H' := ak_ H
                   clear H
                   go_wp2
                   go_roundg k3
                   case measure => have := HK1.out; have := HK2.out; have := HK3.out; omega
                   case rel => exact ⟨(x8_3), (wrap64 (x53_3 + 1)), (ry_), H', ⟨by have := HK1.out; have := HK2.out; have := HK3.out; omega⟩, ⟨by (with_reducible repeat (first | apply Kd.N_alloc | apply Kd.N_drewN | apply Kd.N_drew)); exact Kd.N_mono HO_7.out (fun _ hk => ⟨hk.1.1.1.1, ⟨hk.1.1.1.2.1, ⟨hk.1.1.1.2.2.1, hk.1.1.1.2.2.2⟩⟩⟩)⟩, ⟨by (with_reducible repeat (first | apply Kd.N_alloc | apply Kd.N_drewN | apply Kd.N_drew)); exact Kd.N_mono HO_8.out (fun _ hk => ⟨hk.1.1.1.1, ⟨hk.1.1.1.2.1, ⟨hk.1.1.1.2.2.1, ⟨hk.1.1.1.2.2.2.1, hk.1.1.1.2.2.2.2⟩⟩⟩⟩)⟩, ⟨by (with_reducible repeat (first | apply Kd.N_alloc | apply Kd.N_drewN | apply Kd.N_drew)); exact Kd.N_mono HO_30.out (fun _ hk => ⟨hk.1.1.1.1, ⟨hk.1.1.1.2.1, ⟨hk.1.1.1.2.2.1, hk.1.1.1.2.2.2⟩⟩⟩)⟩, ⟨by (with_reducible repeat (first | apply Kd.V_alloc | apply Kd.V_drewN | apply Kd.V_drew)); exact Kd.V_mono HO_51.out (fun _ hk => ⟨hk.1.1.1.1, ⟨hk.1.1.1.2.1, ⟨hk.1.1.1.2.2.1, hk.1.1.1.2.2.2⟩⟩⟩)⟩, ⟨pk BK229.out⟩, ⟨pk BK230.out⟩, ⟨by repeat (with_reducible first | exact HB.out | apply ba_ | apply bN_ | apply b1_ | refine below_set ?_ (Aside0.out (by assumption)))⟩, ⟨by (with_reducible repeat (first | apply Kd.V_alloc | apply Kd.V_drewN | apply Kd.V_drew)); exact Kd.V_mono HL237_0.out (fun _ hk => ⟨hk.1.1.1.1, ⟨hk.1.1.1.2.1, ⟨hk.1.1.1.2.2.1, hk.1.1.1.2.2.2⟩⟩⟩)⟩⟩
                 ·
                  rw [if_neg c40] at H
                  exact absurd H (by simp)
                ·
                 rw [if_neg c39] at H
                 exact absurd H (by simp)
               ·
                rw [if_neg c38] at H
                have c38b0 : decide (x53_3 < (y248.length : Int)) = false := decide_eq_false c38
                clear c38
                (first | rw [c38b0] | (simp only [i64_w, i32_w]; rw [c38b0]) | rw [c38b1] | skip)
                have H' := ak_ H
                clear H
                go_wp2
                go_roundg k3
                case measure => have := HK1.out; have := HK2.out; have := HK3.out; omega
                case rel => exact ⟨(x8_3), (wrap64 (x32_2 + 1)), (ry_), H', ⟨by have := HK1.out; have := HK2.out; have := HK3.out; omega⟩, ⟨Kd.pN HO_7.out⟩, ⟨Kd.pN HO_8.out⟩, ⟨Kd.pN HO_30.out⟩, ⟨pk BK229.out⟩, ⟨pk BK230.out⟩, ⟨by repeat (with_reducible first | exact HB.out | apply ba_ | apply bN_ | apply b1_ | refine below_set ?_ (Aside0.out (by assumption)))⟩⟩
            ·
             rw [if_neg c35] at H
             exact absurd H (by simp)
           ·
            rw [if_neg c34] at H
            exact absurd H (by simp)
          ·
           rw [if_neg c32] at H
           exact absurd H (by simp)
         ·
          replace c31 := Bool.eq_false_iff.mpr c31
          subst c31
          have H1 : (if 0 ≤ (wrap64 (x32_2 + 1)) then (if (wrap64 (x32_2 + 1)) ≤ (t234.length : Int) then ((some (t234.drop ((wrap64 (x32_2 + 1)) : Int).toNat : List (List Int))).bind fun y267 => (spec_toRounds.l2 k2 t234 x8_2 (rd_L2 t234 x32_2) t234 (t234.length : Int) x32_2 y267 (y267.length : Int) 0 l0_0 a0_1 a0_2 l1_0 a1_1)) else (none)) else (none)) = some r := by rw [if_neg (show ¬ (false = true) by decide)] at H; exact H
          clear H
          have H := H1
          clear H1
          obtain ⟨ji59, hji59⟩ : ∃ j_ : Int, (wrap64 (x32_2 + 1)) = j_ := ⟨_, rfl⟩
          replace H : (if 0 ≤ (ji59) then (if (ji59) ≤ (t234.length : Int) then ((some (t234.drop ((ji59) : Int).toNat : List (List Int))).bind fun y267 => (spec_toRounds.l2 k2 t234 x8_2 (rd_L2 t234 x32_2) t234 (t234.length : Int) x32_2 y267 (y267.length : Int) 0 l0_0 a0_1 a0_2 l1_0 a1_1)) else (none)) else (none)) = some r := by first | (rw [hji59] at H; exact H) | (simp only [hji59] at H ⊢; exact H)
          have hji59w : (IntKind.i64.wrap (x32_2 + 1)) = ji59 := (i64_w _).trans hji59
          by_cases c60 : 0 ≤ (ji59)
          ·
           rw [if_pos c60] at H
           have c60b0 := eq_true c60
           have c60b1 : decide (0 ≤ (ji59)) = true := decide_eq_true c60
           clear c60
           by_cases c61 : (ji59) ≤ (t234.length : Int)
           ·
            rw [if_pos c61] at H
            have c61b0 := eq_true c61
            have c61b1 : decide ((ji59) ≤ (t234.length : Int)) = true := decide_eq_true c61
            clear c61
            obtain ⟨y267, hy267⟩ : ∃ y_ : List (List Int), y_ = (t234.drop ((ji59) : Int).toNat) := ⟨_, rfl⟩
            replace H : (spec_toRounds.l2 k2 t234 x8_2 (rd_L2 t234 x32_2) t234 (t234.length : Int) x32_2 y267 (y267.length : Int) 0 l0_0 a0_1 a0_2 l1_0 a1_1) = some r := by first | (rw [hy267]; exact H) | exact H
            have Ny267 := ak_ hy267
            clear hy267
            have H' := ak_ H
            clear H
            have q62 : ((ji59) : Int) ≤ ((t234.length : Int) : Int) := odt_ (by assumption)
            obtain ⟨i062, hi062, _, hsz62, _⟩ := info_parts info22
            have hroom62 : t234.length ≤ co15 := (Kd.N_reads' HO_7.out).2.1
            have hC62 : Kd.F (Kd.slice 3 (Kd.int .i64)) _ _ (some ad237) t234.length t234 := (Kd.V_at (base := w.heap.size) (Kd.N_V HO_7.out)).2.2
            have q062 : (0 : Int) ≤ ((ji59) : Int) := odt_ (by assumption)
            have hcut62 := cut_from (P := Try.prog) 57 22 .i64 Try.underlying57 hi062 1 hsz62 (some ad237) t234.length co15 (ji59) q062 q62
            have hr62 := Kd.F_cut (m := ((ji59) : Int).toNat) (c := co15) hC62 (by omega) hroom62
            obtain ⟨A62, hA62⟩ : ∃ A1, A1 = (if co15 = ((ji59) : Int).toNat then (some ad237) else ((some ad237) : Option Addr).map (·.add (((ji59) : Int).toNat * 1))) := ⟨_, rfl⟩
            obtain ⟨c62, hc62⟩ : ∃ c1, c1 = co15 - ((ji59) : Int).toNat := ⟨_, rfl⟩
            have hy62 : y267.length = t234.length - ((ji59) : Int).toNat := (by rw [Ny267.out, List.length_drop] <;> omega)
            rw [show (t234).drop ((ji59) : Int).toNat = y267 from Ny267.out.symm] at hr62
            replace hr62 : Kd.F (Kd.slice 3 (Kd.int .i64)) _ _ A62 y267.length y267 := (by rw [hA62]; exact hr62)
            rw [← hy62, ← hA62, ← hc62] at hcut62
            have HO271 := ak_ (show Kd.V (Kd.slice 3 (Kd.int .i64)) 22 _ w.heap.size _ (.slice A62 y267.length c62) y267 from Kd.V_mk (by rw [hy62, hc62]; exact Nat.sub_le_sub_right hroom62 _) hr62)
            have HC271 := ak_ (show y267.length ≤ c62 from by rw [hy62, hc62]; exact Nat.sub_le_sub_right hroom62 _)
            clear hr62 hC62 hroom62 hi062 hsz62 hc62
            have KY62 := ak_ hy62
            have KA62 := ak_ hA62
            clear hy62 hA62
            replace q62 := eq_true q62
            go_wp2
            go_loopg [8, 53] k2 (fun kq v8 v53 w' => ∃ (x8_3 : List (List (List Int))) (x53_3 : Int), v53 = .int .i64 x53_3 ∧ Aside0 (spec_toRounds.l2 kq t234 x8_3 (rd_L2 t234 x32_2) t234 (t234.length : Int) x32_2 y267 (y267.length : Int) x53_3 l0_0 a0_1 a0_2 l1_0 a1_1 = some r) ∧ Aside0 (kq ≤ k2) ∧ Aside0 (Kd.N (Kd.slice 3 (Kd.int .i64)) 22 w' w.heap.size (fun k_ => (w.heap.size ≤ k_) ∧ some k_ ≠ (v8 : Value).ownBlock ∧ k_ ≠ gb229 ∧ k_ ≠ gb230) (.slice (some ad237) t234.length co15) t234) ∧ Aside0 (Kd.N (Kd.slice 22 (Kd.slice 3 (Kd.int .i64))) 57 w' w.heap.size (fun k_ => (w.heap.size ≤ k_) ∧ some k_ ≠ ((.slice (some ad237) t234.length co15) : Value).ownBlock ∧ some k_ ≠ ((.slice (some ad237) t234.length co15) : Value).ownBlock ∧ k_ ≠ gb229 ∧ k_ ≠ gb230) v8 x8_3) ∧ Aside0 (Kd.N (Kd.slice 3 (Kd.int .i64)) 22 w' w.heap.size (fun k_ => (w.heap.size ≤ k_) ∧ some k_ ≠ (v8 : Value).ownBlock ∧ k_ ≠ gb229 ∧ k_ ≠ gb230) (.slice (some ad237) t234.length co15) t234) ∧ Aside0 (Kd.V (Kd.slice 3 (Kd.int .i64)) 22 w' w.heap.size (fun k_ => (w.heap.size ≤ k_) ∧ some k_ ≠ (v8 : Value).ownBlock ∧ k_ ≠ gb229 ∧ k_ ≠ gb230) (.slice A62 y267.length c62) y267) ∧ Aside0 (w'.heap[gb229]? = some (.cells #[(.slice A0_0 l0_0.length c0_0), .int .i64 a0_1, .int .i64 a0_2] 33 (0, 0))) ∧ Aside0 (w'.heap[gb230]? = some (.cells #[(.slice A1_0 l1_0.length c1_0), .int .i64 a1_1] 35 (0, 0))) ∧ Aside0 (Below w.heap.size w w') ∧ Aside0 (Kd.V (Kd.int .i64) 3 w' w.heap.size (fun k_ => (w.heap.size ≤ k_) ∧ some k_ ≠ (v8 : Value).ownBlock ∧ k_ ≠ gb229 ∧ k_ ≠ gb230) (.slice A237_0 (rd_L2 t234 x32_2).length c237_0) (rd_L2 t234 x32_2)))
            case atStart => exact ⟨(x8_2), (0), (ry_), H', ⟨Nat.le_refl _⟩, ⟨by (with_reducible repeat (first | apply Kd.N_alloc | apply Kd.N_drewN | apply Kd.N_drew)); exact Kd.N_mono HO_7.out (fun _ hk => ⟨hk.1.1.1, ⟨hk.1.1.2.1, ⟨hk.1.1.2.2.1, hk.1.1.2.2.2⟩⟩⟩)⟩, ⟨by (with_reducible repeat (first | apply Kd.N_alloc | apply Kd.N_drewN | apply Kd.N_drew)); exact Kd.N_mono HO_8.out (fun _ hk => ⟨hk.1.1.1, ⟨hk.1.1.2.1, ⟨hk.1.1.2.2.1, ⟨hk.1.1.2.2.2.1, hk.1.1.2.2.2.2⟩⟩⟩⟩)⟩, ⟨by (with_reducible repeat (first | apply Kd.N_alloc | apply Kd.N_drewN | apply Kd.N_drew)); exact Kd.N_mono HO_30.out (fun _ hk => ⟨hk.1.1.1, ⟨hk.1.1.2.1, ⟨hk.1.1.2.2.1, hk.1.1.2.2.2⟩⟩⟩)⟩, ⟨by (with_reducible repeat (first | apply Kd.V_alloc | apply Kd.V_drewN | apply Kd.V_drew)); exact Kd.V_mono HO271.out (fun _ hk => ⟨hk.1.1.1, ⟨hk.1.1.2.1, ⟨hk.1.1.2.2.1, hk.1.1.2.2.2⟩⟩⟩)⟩, ⟨pk BK229.out⟩, ⟨pk BK230.out⟩, ⟨by repeat (with_reducible first | exact HB.out | apply ba_ | apply bN_ | apply b1_ | refine below_set ?_ (Aside0.out (by assumption)))⟩, ⟨by (with_reducible repeat (first | apply Kd.V_alloc | apply Kd.V_drewN | apply Kd.V_drew)); exact Kd.V_mono HL237_0.out (fun k_ hk => by revert hk; simp only [and_imp]; intros; repeat' (first | assumption | apply And.intro))⟩⟩
            case round =>
             clear H'
             try clear c1
             try clear c2
             try clear p2
             try clear q2
             try clear hx2
             try clear c3
             try clear q3
             try clear c4
             try clear c5
             try clear c6
             try clear p6
             try clear q6
             try clear c7
             try clear c7b0
             try clear c8
             try clear c11
             try clear c16
             try clear c16b0
             try clear c17
             try clear c17b0
             try clear c18
             try clear c18b0
             try clear c23
             try clear p23
             try clear q23
             try clear hx23
             try clear c25
             try clear p25
             try clear q25
             try clear hx25
             try clear c26
             try clear c31
             try clear c32
             try clear c34
             try clear c34b0
             try clear c34b1
             try clear c35
             try clear c35b0
             try clear c35b1
             try clear c37
             try clear q37
             try clear c38
             try clear c38b0
             try clear c39
             try clear c39b0
             try clear c40
             try clear c40b0
             try clear c51
             try clear c56
             try clear c57
             try clear c60
             try clear c60b0
             try clear c60b1
             try clear c61
             try clear c61b0
             try clear c61b1
             try clear c62
             try clear q62
             try clear hcz12_0
             try clear hcz12_1
             try clear hcz12_2
             try clear hcz27_0
             try clear hcz27_1
             try clear hcz27_2
             try clear hcz28_0
             try clear hcz28_1
             try clear hcz52_0
             try clear hcz52_1
             try clear hcz52_2
             try clear hcz53_0
             try clear hcz53_1
             try clear hcz6_0
             try clear hcz6_1
             try clear hcz6_2
             try clear hfz12_0
             try clear hfz12_1
             try clear hfz12_2
             try clear hfz27_0
             try clear hfz27_1
             try clear hfz27_2
             try clear hfz28_0
             try clear hfz28_1
             try clear hfz52_0
             try clear hfz52_1
             try clear hfz52_2
             try clear hfz53_0
             try clear hfz53_1
             try clear hfz6_0
             try clear hfz6_1
             try clear hfz6_2
             try clear hx237_0
             try clear hx253_0
             try clear p2
             try clear p23
             try clear p237
             try clear p253
             try clear p6
             try clear q037
             try clear q062
             try clear q2
             try clear q23
             try clear q237
             try clear q253
             try clear q3
             try clear q37
             try clear q62
             clear HL237_0 HR237_0
             obtain ⟨x8_3, x53_3, rfl, HA, HK3, HO_7, HO_8, HO_30, HO_51, BK229, BK230, HB, HL237_0⟩ := hrel
             cases gk with
             | zero => exact absurd HA.out (by simp [spec_toRounds.l2])
             | succ k3 =>
              have H := HA.out
              clear HA
              simp only [spec_toRounds.l2] at H
              by_cases c63 : x53_3 < (y267.length : Int)
              ·
               rw [if_pos c63] at H
               have c63b0 : decide (x53_3 < (y267.length : Int)) = true := decide_eq_true c63
               clear c63
               by_cases c64 : 0 ≤ x53_3
               ·
                rw [if_pos c64] at H
                have c64b0 : decide (0 ≤ x53_3) = true := decide_eq_true c64
                clear c64
                by_cases c65 : x53_3 < (y267.length : Int)
                ·
                 rw [if_pos c65] at H
                 have c65b0 : decide (x53_3 < (y267.length : Int)) = true := decide_eq_true c65
                 clear c65
                 replace H := Option.bind_eq_some_iff.mp H
                 obtain ⟨t254, A660, H⟩ := H
                 replace H : ((spec_l1Own.f (rd_L2 y267 x53_3)).bind fun t257 => ((some (([t254, t257] : List (List Int)) : List (List Int))).bind fun y260 => ((spec_toCan.f k3 l0_0 a0_1 a0_2 l1_0 a1_1 y260).bind fun t263 => (if t263 = true then (if x8_3.length < 5864062014805 then (spec_toRounds.l2 k3 t234 (x8_3 ++ [y260]) (rd_L2 t234 x32_2) t234 (t234.length : Int) x32_2 y267 (y267.length : Int) (wrap64 (x53_3 + 1)) l0_0 a0_1 a0_2 l1_0 a1_1) else (none)) else (spec_toRounds.l2 k3 t234 x8_3 (rd_L2 t234 x32_2) t234 (t234.length : Int) x32_2 y267 (y267.length : Int) (wrap64 (x53_3 + 1)) l0_0 a0_1 a0_2 l1_0 a1_1))))) = some r := H
                 have A66 := ak_ A660
                 clear A660
                 replace H := Option.bind_eq_some_iff.mp H
                 obtain ⟨t257, A670, H⟩ := H
                 replace H : ((some (([t254, t257] : List (List Int)) : List (List Int))).bind fun y260 => ((spec_toCan.f k3 l0_0 a0_1 a0_2 l1_0 a1_1 y260).bind fun t263 => (if t263 = true then (if x8_3.length < 5864062014805 then (spec_toRounds.l2 k3 t234 (x8_3 ++ [y260]) (rd_L2 t234 x32_2) t234 (t234.length : Int) x32_2 y267 (y267.length : Int) (wrap64 (x53_3 + 1)) l0_0 a0_1 a0_2 l1_0 a1_1) else (none)) else (spec_toRounds.l2 k3 t234 x8_3 (rd_L2 t234 x32_2) t234 (t234.length : Int) x32_2 y267 (y267.length : Int) (wrap64 (x53_3 + 1)) l0_0 a0_1 a0_2 l1_0 a1_1)))) = some r := H
                 have A67 := ak_ A670
                 clear A670
                 obtain ⟨y260, hy260⟩ : ∃ y_ : List (List Int), y_ = (([t254, t257] : List (List Int))) := ⟨_, rfl⟩
                 replace H : ((spec_toCan.f k3 l0_0 a0_1 a0_2 l1_0 a1_1 y260).bind fun t263 => (if t263 = true then (if x8_3.length < 5864062014805 then (spec_toRounds.l2 k3 t234 (x8_3 ++ [y260]) (rd_L2 t234 x32_2) t234 (t234.length : Int) x32_2 y267 (y267.length : Int) (wrap64 (x53_3 + 1)) l0_0 a0_1 a0_2 l1_0 a1_1) else (none)) else (spec_toRounds.l2 k3 t234 x8_3 (rd_L2 t234 x32_2) t234 (t234.length : Int) x32_2 y267 (y267.length : Int) (wrap64 (x53_3 + 1)) l0_0 a0_1 a0_2 l1_0 a1_1))) = some r := by first | (rw [hy260]; exact H) | exact H
                 have Ny260 := ak_ hy260
                 clear hy260
                 replace H := Option.bind_eq_some_iff.mp H
                 obtain ⟨t263, A680, H⟩ := H
                 replace H : (if t263 = true then (if x8_3.length < 5864062014805 then (spec_toRounds.l2 k3 t234 (x8_3 ++ [y260]) (rd_L2 t234 x32_2) t234 (t234.length : Int) x32_2 y267 (y267.length : Int) (wrap64 (x53_3 + 1)) l0_0 a0_1 a0_2 l1_0 a1_1) else (none)) else (spec_toRounds.l2 k3 t234 x8_3 (rd_L2 t234 x32_2) t234 (t234.length : Int) x32_2 y267 (y267.length : Int) (wrap64 (x53_3 + 1)) l0_0 a0_1 a0_2 l1_0 a1_1)) = some r := H
                 have A68 := ak_ A680
                 clear A680
                 have HC69 := ak_ H
                 clear H
                 have p253 : 0 ≤ (x53_3 : Int) := odt_ (by assumption)
                 have q253 : x53_3 < (y267.length : Int) := odt_ (by assumption)
                 obtain ⟨ad253, A253_0, c253_0, e253, hx253_0, hl253_0, hi253_0⟩ := at_L2 (Kd.V_reads' HO_51.out).2.2 x53_3 p253 q253
                 cases e253
                 obtain ⟨ce253, hce253, hMe253, hcc253⟩ := Kd.V_get HO_51.out [] x53_3 p253 (by first | exact q253 | exact odt_ (by assumption) | (have e_ := (Kd.V_reads' HO_51.out).1; omega))
                 obtain ⟨ua253_0, uc253_0, rfl, ul253_0, ge253_0⟩ := Kd.FK_slice_open hMe253
                 have hv253_0 := hcc253 0 _ rfl
                 rw [Nat.add_zero, show ((Kd.slice 3 (Kd.int .i64))).sz = 1 from rfl, Nat.mul_one] at hv253_0
                 replace hv253_0 := Option.some.inj (hv253_0.symm.trans hx253_0)
                 injection hv253_0 with hva_ hvn_ hvc_
                 rw [hva_] at ge253_0
                 rw [hvc_] at ul253_0
                 have HL253_0 := ak_ (show Kd.V (Kd.int .i64) 3 _ w.heap.size _ _ (rd_L2 y267 x53_3) from Kd.V_mk ul253_0 ge253_0)
                 clear hva_ hvn_ hvc_ ge253_0 ul253_0 hcc253 hce253
                 have HR253_0 := ak_ hi253_0
                 have HC253_0 := ak_ hl253_0
                 clear hi253_0 hl253_0
                 replace p253 := eq_true p253
                 replace q253 := eq_true q253
                 go_upto_if 65 with (first | ((with_reducible refine gate_callee (f := 66) rfl ?_); refine goesL_ (some 58) rfl rfl Try.func66 (by kernel_rfl) rfl #[.slice A237_0 (rd_L2 t234 x32_2).length c237_0] rfl (by first | rfl | (simp only [map_toArray, map_cons, map_nil]; try rfl)) ?_; (with_reducible refine (spec_l1Own.calls _ _ (rd_L2 t234 x32_2) t254 _ ?side1 ?side2 A66.out).mono ?_); (case side1 => repeat (first | exact (Kd.V_reads' (Kd.pV HL237_0.out)).2.2 | (with_reducible refine Kd.C_alloc ?_ _) | (with_reducible refine Kd.C_drewN ?_ _) | (with_reducible refine Kd.C_drew ?_))); (case side2 => exact HC237_0.out); rintro e w70 ⟨v255, rfl, ho0, hb⟩; refine ⟨_, rfl, ?_⟩; have n0_ := ak_ (Kd.N_elder' (Kd.pN HO_7.out) (Kd.R_base ho0) hb); have n1_ := ak_ (Kd.N_elder' (Kd.pN HO_8.out) (Kd.R_base ho0) hb); have n2_ := ak_ (Kd.N_elder' (Kd.pN HO_30.out) (Kd.R_base ho0) hb); have n3_ := ak_ (Kd.V_elder' (Kd.pV HO_51.out) (Kd.R_base ho0) hb); have mn3_ := ak_ (Kd.V_elder' (Kd.pV HL237_0.out) (Kd.R_base ho0) hb); have n4_ := ak_ (Kd.V_elder' (Kd.pV HL253_0.out) (Kd.R_base ho0) hb); have n5_ := ak_ (Kd.R_lower (Kd.R_newM (M := fun k_ => (w.heap.size ≤ k_)) ho0 (bz_ bl_) (fun k_ h_ => h_)) (bz_ bl_)); have n6_ := ak_ (blk_below (pk BK229.out) hb); have n7_ := ak_ (blk_below (pk BK230.out) hb); have n8_ := ak_ (Kd.C_below (by repeat (first | (with_reducible exact HR253_0.out) | (with_reducible refine Kd.C_alloc ?_ _) | (with_reducible refine Kd.C_drewN ?_ _) | (with_reducible refine Kd.C_drew ?_) | exact HR253_0.out)) hb); have n9_ := ak_ (bs_ bl_ hb); clear HO_7; clear HO_8; clear HO_30; clear HO_51; clear HL253_0; clear BK229; clear BK230; clear HR253_0; clear HB; have HO_7 := n0_; have HO_8 := n1_; have HO_30 := n2_; clear HL237_0; have HL237_0 := mn3_; clear mn3_; have HO_51 := n3_; have HL253_0 := n4_; have HO256 := n5_; have BK229 := n6_; have BK230 := n7_; have HR253_0 := n8_; have HB := n9_; clear n0_ n1_ n2_ n3_ n4_ n5_ n6_ n7_ n8_ n9_; (try clear hb); (try clear hb2); (try clear hk); (try clear hi); (try clear ho0)) | ((with_reducible refine gate_callee (f := 66) rfl ?_); refine goesL_ (some 60) rfl rfl Try.func66 (by kernel_rfl) rfl #[.slice A253_0 (rd_L2 y267 x53_3).length c253_0] rfl (by first | rfl | (simp only [map_toArray, map_cons, map_nil]; try rfl)) ?_; (with_reducible refine (spec_l1Own.calls _ _ (rd_L2 y267 x53_3) t257 _ ?side1 ?side2 A67.out).mono ?_); (case side1 => repeat (first | exact (by repeat (first | (with_reducible exact HR253_0.out) | (with_reducible refine Kd.C_alloc ?_ _) | (with_reducible refine Kd.C_drewN ?_ _) | (with_reducible refine Kd.C_drew ?_) | exact HR253_0.out)) | (with_reducible refine Kd.C_alloc ?_ _) | (with_reducible refine Kd.C_drewN ?_ _) | (with_reducible refine Kd.C_drew ?_))); (case side2 => exact HC253_0.out); rintro e w71 ⟨v258, rfl, ho0, hb⟩; refine ⟨_, rfl, ?_⟩; have n0_ := ak_ (Kd.N_elder' (Kd.pN HO_7.out) (Kd.R_base ho0) hb); have n1_ := ak_ (Kd.N_elder' (Kd.pN HO_8.out) (Kd.R_base ho0) hb); have n2_ := ak_ (Kd.N_elder' (Kd.pN HO_30.out) (Kd.R_base ho0) hb); have n3_ := ak_ (Kd.V_elder' (Kd.pV HO_51.out) (Kd.R_base ho0) hb); have mn3_ := ak_ (Kd.V_elder' (Kd.pV HL237_0.out) (Kd.R_base ho0) hb); have n4_ := ak_ (Kd.V_elder' (Kd.pV HL253_0.out) (Kd.R_base ho0) hb); have n5_ := ak_ (Kd.R_elder' (Kd.pR HO256.out) (Kd.R_base ho0) hb); have n6_ := ak_ (Kd.R_lower (Kd.R_new' (Kd.R_newM (M := fun k_ => (w.heap.size ≤ k_)) ho0 (bz_ bl_) (fun k_ h_ => h_)) (Kd.R_lt (Kd.pR HO256.out))) (bz_ bl_)); have n7_ := ak_ (blk_below (pk BK229.out) hb); have n8_ := ak_ (blk_below (pk BK230.out) hb); have n9_ := ak_ (Kd.C_below (by repeat (first | (with_reducible exact HR253_0.out) | (with_reducible refine Kd.C_alloc ?_ _) | (with_reducible refine Kd.C_drewN ?_ _) | (with_reducible refine Kd.C_drew ?_) | exact HR253_0.out)) hb); have n10_ := ak_ (bs_ bl_ hb); clear HO_7; clear HO_8; clear HO_30; clear HO_51; clear HL253_0; clear HO256; clear BK229; clear BK230; clear HR253_0; clear HB; have HO_7 := n0_; have HO_8 := n1_; have HO_30 := n2_; clear HL237_0; have HL237_0 := mn3_; clear mn3_; have HO_51 := n3_; have HL253_0 := n4_; have HO256 := n5_; have HO259 := n6_; have BK229 := n7_; have BK230 := n8_; have HR253_0 := n9_; have HB := n10_; clear n0_ n1_ n2_ n3_ n4_ n5_ n6_ n7_ n8_ n9_ n10_; (try clear hb); (try clear hb2); (try clear hk); (try clear hi); (try clear ho0); obtain ⟨Ao72, co72, eo72⟩ := Kd.R_slice HO256.out; subst eo72; obtain ⟨Ao73, co73, eo73⟩ := Kd.R_slice HO259.out; subst eo73) | ((with_reducible refine gate_dst (N := 61) rfl ?_); refine Kd.N_lit (Kd.slice 3 (Kd.int .i64)) _ 22 ?hg (N' := 61) ?hd (xs := ([t254, t257] : List (List Int))) (inner := [.slice Ao72 t254.length co72, .slice Ao73 t257.length co73]) (ok := (fun k_ => (w.heap.size ≤ k_) ∧ some k_ ≠ (.slice (some ad237) t234.length co15 : Value).ownBlock ∧ some k_ ≠ (u8 : Value).ownBlock ∧ some k_ ≠ (.slice (some ad237) t234.length co15 : Value).ownBlock ∧ k_ ≠ gb229 ∧ k_ ≠ gb230)) (okp := (fun k_ => (w.heap.size ≤ k_) ∧ some k_ ≠ (.slice (some ad237) t234.length co15 : Value).ownBlock ∧ some k_ ≠ (u8 : Value).ownBlock ∧ some k_ ≠ (.slice (some ad237) t234.length co15 : Value).ownBlock ∧ k_ ≠ gb229 ∧ k_ ≠ gb230)) ?hr ?hp (fun _ hk => hk) ((show ∀ k_, w71.heap.size ≤ k_ → (fun k_ => (w.heap.size ≤ k_) ∧ some k_ ≠ (.slice (some ad237) t234.length co15 : Value).ownBlock ∧ some k_ ≠ (u8 : Value).ownBlock ∧ some k_ ≠ (.slice (some ad237) t234.length co15 : Value).ownBlock ∧ k_ ≠ gb229 ∧ k_ ≠ gb230) k_ from fun k_ hk => ⟨(Nat.le_trans (bz_ bl_) hk), Kd.fresh' (Kd.N_lt (Kd.pN HO_7.out)) k_ hk, Kd.fresh' (Kd.N_lt (Kd.pN HO_8.out)) k_ hk, Kd.fresh' (Kd.N_lt (Kd.pN HO_30.out)) k_ hk, Kd.freshB (pk BK229.out) k_ hk, Kd.freshB (pk BK230.out) k_ hk⟩) _ (Nat.le_refl _)) (Below.refl _ _) (Nat.le_refl _) (by simp) ?_; (case hd => rfl); (case hg => rfl); (case hr => go_simp <;> rfl); (case hp => exact (Reps.one (show Kd.FK (Kd.slice 3 (Kd.int .i64)) _ _ t254 [.slice Ao72 t254.length co72] from (Kd.FK_slice_mk (Kd.R_reads' (Kd.R_mono (ok' := (fun k_ => (w.heap.size ≤ k_) ∧ some k_ ≠ (.slice (some ad237) t234.length co15 : Value).ownBlock ∧ some k_ ≠ (u8 : Value).ownBlock ∧ some k_ ≠ (.slice (some ad237) t234.length co15 : Value).ownBlock ∧ k_ ≠ gb229 ∧ k_ ≠ gb230)) (Kd.R_types (Kd.R_types (Kd.R_apart' (Kd.R_apart' (Kd.R_apart' (HO256.out) (Kd.N_typed HO_7.out) (by decide)) (Kd.N_typed HO_8.out) (by decide)) (Kd.N_typed HO_30.out) (by decide)) BK229.out (by decide)) BK230.out (by decide)) (fun k_ hk => ⟨hk.1.1.1.1.1.1.1, ⟨hk.1.1.1.1.2, ⟨hk.1.1.1.2, ⟨hk.1.1.2, ⟨hk.1.2, hk.2⟩⟩⟩⟩⟩))).2.1 (Kd.R_F (Kd.R_mono (ok' := (fun k_ => (w.heap.size ≤ k_) ∧ some k_ ≠ (.slice (some ad237) t234.length co15 : Value).ownBlock ∧ some k_ ≠ (u8 : Value).ownBlock ∧ some k_ ≠ (.slice (some ad237) t234.length co15 : Value).ownBlock ∧ k_ ≠ gb229 ∧ k_ ≠ gb230)) (Kd.R_types (Kd.R_types (Kd.R_apart' (Kd.R_apart' (Kd.R_apart' (HO256.out) (Kd.N_typed HO_7.out) (by decide)) (Kd.N_typed HO_8.out) (by decide)) (Kd.N_typed HO_30.out) (by decide)) BK229.out (by decide)) BK230.out (by decide)) (fun k_ hk => ⟨hk.1.1.1.1.1.1.1, ⟨hk.1.1.1.1.2, ⟨hk.1.1.1.2, ⟨hk.1.1.2, ⟨hk.1.2, hk.2⟩⟩⟩⟩⟩))))) (Reps.one (show Kd.FK (Kd.slice 3 (Kd.int .i64)) _ _ t257 [.slice Ao73 t257.length co73] from (Kd.FK_slice_mk (Kd.R_reads' (Kd.R_mono (ok' := (fun k_ => (w.heap.size ≤ k_) ∧ some k_ ≠ (.slice (some ad237) t234.length co15 : Value).ownBlock ∧ some k_ ≠ (u8 : Value).ownBlock ∧ some k_ ≠ (.slice (some ad237) t234.length co15 : Value).ownBlock ∧ k_ ≠ gb229 ∧ k_ ≠ gb230)) (Kd.R_types (Kd.R_types (Kd.R_apart' (Kd.R_apart' (Kd.R_apart' (HO259.out) (Kd.N_typed HO_7.out) (by decide)) (Kd.N_typed HO_8.out) (by decide)) (Kd.N_typed HO_30.out) (by decide)) BK229.out (by decide)) BK230.out (by decide)) (fun k_ hk => ⟨hk.1.1.1.1.1.1.1, ⟨hk.1.1.1.1.2, ⟨hk.1.1.1.2, ⟨hk.1.1.2, ⟨hk.1.2, hk.2⟩⟩⟩⟩⟩))).2.1 (Kd.R_F (Kd.R_mono (ok' := (fun k_ => (w.heap.size ≤ k_) ∧ some k_ ≠ (.slice (some ad237) t234.length co15 : Value).ownBlock ∧ some k_ ≠ (u8 : Value).ownBlock ∧ some k_ ≠ (.slice (some ad237) t234.length co15 : Value).ownBlock ∧ k_ ≠ gb229 ∧ k_ ≠ gb230)) (Kd.R_types (Kd.R_types (Kd.R_apart' (Kd.R_apart' (Kd.R_apart' (HO259.out) (Kd.N_typed HO_7.out) (by decide)) (Kd.N_typed HO_8.out) (by decide)) (Kd.N_typed HO_30.out) (by decide)) BK229.out (by decide)) BK230.out (by decide)) (fun k_ hk => ⟨hk.1.1.1.1.1.1.1, ⟨hk.1.1.1.1.2, ⟨hk.1.1.1.2, ⟨hk.1.1.2, ⟨hk.1.2, hk.2⟩⟩⟩⟩⟩))))) (Reps.none _ _)))); intro v261 w74 ho75 hb hg_ hnew_; clear hg_ hnew_; (first | rw [← Ny260.out] at ho75 | (simp only [Int.reduceToNat] at ho75; rw [← Ny260.out] at ho75)); have n0_ := ak_ (Kd.N_elder' (Kd.pN HO_7.out) (Kd.N_base ho75) hb); have n1_ := ak_ (Kd.N_elder' (Kd.pN HO_8.out) (Kd.N_base ho75) hb); have n2_ := ak_ (Kd.N_elder' (Kd.pN HO_30.out) (Kd.N_base ho75) hb); have n3_ := ak_ (Kd.V_elder' (Kd.pV HO_51.out) (Kd.N_base ho75) hb); have mn3_ := ak_ (Kd.V_elder' (Kd.pV HL237_0.out) (Kd.N_base ho75) hb); have n4_ := ak_ (Kd.V_elder' (Kd.pV HL253_0.out) (Kd.N_base ho75) hb); have n5_ := ak_ (Kd.N_lower ho75 (bz_ bl_)); have n6_ := ak_ (blk_below (pk BK229.out) hb); have n7_ := ak_ (blk_below (pk BK230.out) hb); have n8_ := ak_ (Kd.C_below (by repeat (first | (with_reducible exact HR253_0.out) | (with_reducible refine Kd.C_alloc ?_ _) | (with_reducible refine Kd.C_drewN ?_ _) | (with_reducible refine Kd.C_drew ?_) | exact HR253_0.out)) hb); have n9_ := ak_ (bs_ bl_ hb); clear HO_7; clear HO_8; clear HO_30; clear HO_51; clear HL253_0; clear BK229; clear BK230; clear HR253_0; clear HB; clear HO256; clear HO259; have HO_7 := n0_; have HO_8 := n1_; have HO_30 := n2_; clear HL237_0; have HL237_0 := mn3_; clear mn3_; have HO_51 := n3_; have HL253_0 := n4_; have HO262 := n5_; have BK229 := n6_; have BK230 := n7_; have HR253_0 := n8_; have HB := n9_; clear n0_ n1_ n2_ n3_ n4_ n5_ n6_ n7_ n8_ n9_; clear hb ho75; have hnb76 := NB229_230.out; have hnc76 := NB230_229.out; have hcz77_0 : w74.cell? ⟨gb229, 0, none⟩ = some (.slice A0_0 l0_0.length c0_0) := (blk_cell BK229.out 0).trans rfl; have hcz77_1 : w74.cell? ⟨gb229, 1, none⟩ = some (.int .i64 a0_1) := (blk_cell BK229.out 1).trans rfl; have hcz77_2 : w74.cell? ⟨gb229, 2, none⟩ = some (.int .i64 a0_2) := (blk_cell BK229.out 2).trans rfl; have hfz77_0 := blk_frozen BK229.out 0; have hfz77_1 := blk_frozen BK229.out 1; have hfz77_2 := blk_frozen BK229.out 2; have hcz78_0 : w74.cell? ⟨gb230, 0, none⟩ = some (.slice A1_0 l1_0.length c1_0) := (blk_cell BK230.out 0).trans rfl; have hcz78_1 : w74.cell? ⟨gb230, 1, none⟩ = some (.int .i64 a1_1) := (blk_cell BK230.out 1).trans rfl; have hfz78_0 := blk_frozen BK230.out 0; have hfz78_1 := blk_frozen BK230.out 1; obtain ⟨Ao79, co79, eo79⟩ := Kd.N_slice HO262.out; subst eo79) | ((with_reducible refine gate_callee (f := 67) rfl ?_); refine goesL_ (some 65) rfl rfl Try.func67 (by kernel_rfl) rfl #[.agg #[.slice A0_0 l0_0.length c0_0, .int .i64 a0_1, .int .i64 a0_2], .agg #[.slice A1_0 l1_0.length c1_0, .int .i64 a1_1], .slice Ao79 y260.length co79] rfl (by first | rfl | (simp only [map_toArray, map_cons, map_nil]; try rfl)) ?_; (with_reducible refine (spec_toCan.calls k3 _ _ l0_0 a0_1 a0_2 _ _ l1_0 a1_1 _ _ y260 t263 _ ?side1 ?side2 ?side3 ?side4 ?side5 ?side6 A68.out).mono ?_); (case side1 => repeat (first | exact (Kd.C_below HR0_0.out HB.out) | (with_reducible refine Kd.C_alloc ?_ _) | (with_reducible refine Kd.C_drewN ?_ _) | (with_reducible refine Kd.C_drew ?_))); (case side2 => exact HC0_0.out); (case side3 => repeat (first | exact (Kd.C_below HR1_0.out HB.out) | (with_reducible refine Kd.C_alloc ?_ _) | (with_reducible refine Kd.C_drewN ?_ _) | (with_reducible refine Kd.C_drew ?_))); (case side4 => exact HC1_0.out); (case side5 => repeat (first | exact (Kd.N_reads' HO262.out).2.2 | (with_reducible refine Kd.C_alloc ?_ _) | (with_reducible refine Kd.C_drewN ?_ _) | (with_reducible refine Kd.C_drew ?_))); (case side6 => exact (Kd.N_reads' HO262.out).2.1); rintro e w80 ⟨rfl, hb⟩; refine ⟨_, rfl, ?_⟩; have n0_ := ak_ (Kd.N_below (Kd.pN HO_7.out) hb); have n1_ := ak_ (Kd.N_below (Kd.pN HO_8.out) hb); have n2_ := ak_ (Kd.N_below (Kd.pN HO_30.out) hb); have n3_ := ak_ (Kd.V_below (Kd.pV HO_51.out) hb); have mn3_ := ak_ (Kd.V_below (Kd.pV HL237_0.out) hb); have n4_ := ak_ (Kd.V_below (Kd.pV HL253_0.out) hb); have n5_ := ak_ (Kd.N_below (Kd.pN HO262.out) hb); have n6_ := ak_ (blk_below (pk BK229.out) hb); have n7_ := ak_ (blk_below (pk BK230.out) hb); have n8_ := ak_ (Kd.C_below (by repeat (first | (with_reducible exact HR253_0.out) | (with_reducible refine Kd.C_alloc ?_ _) | (with_reducible refine Kd.C_drewN ?_ _) | (with_reducible refine Kd.C_drew ?_) | exact HR253_0.out)) hb); have n9_ := ak_ (bs_ bl_ hb); clear HO_7; clear HO_8; clear HO_30; clear HO_51; clear HL253_0; clear HO262; clear BK229; clear BK230; clear HR253_0; clear HB; have HO_7 := n0_; have HO_8 := n1_; have HO_30 := n2_; clear HL237_0; have HL237_0 := mn3_; clear mn3_; have HO_51 := n3_; have HL253_0 := n4_; have HO262 := n5_; have BK229 := n6_; have BK230 := n7_; have HR253_0 := n8_; have HB := n9_; clear n0_ n1_ n2_ n3_ n4_ n5_ n6_ n7_ n8_ n9_; (try clear hb); (try clear hb2); (try clear hk); (try clear hi)))
                 (try simp only [Act.put, setIfInBounds_toArray, set_cons_zero, set_cons_succ])
                 have H := HC69.out
                 clear HC69
                 by_cases c81 : t263 = true
                 ·
                  subst c81
                  have H1 : (if x8_3.length < 5864062014805 then (spec_toRounds.l2 k3 t234 (x8_3 ++ [y260]) (rd_L2 t234 x32_2) t234 (t234.length : Int) x32_2 y267 (y267.length : Int) (wrap64 (x53_3 + 1)) l0_0 a0_1 a0_2 l1_0 a1_1) else (none)) = some r := by rw [if_pos rfl] at H; exact H
                  clear H
                  have H := H1
                  clear H1
                  by_cases c82 : x8_3.length < 5864062014805
                  ·
                   rw [if_pos c82] at H
                   have LMc82 := ak_ c82
                   clear c82
                   obtain ⟨y264, hy264⟩ : ∃ y_ : List (List (List Int)), y_ = (x8_3 ++ [y260]) := ⟨_, rfl⟩
                   replace H : (spec_toRounds.l2 k3 t234 y264 (rd_L2 t234 x32_2) t234 (t234.length : Int) x32_2 y267 (y267.length : Int) (wrap64 (x53_3 + 1)) l0_0 a0_1 a0_2 l1_0 a1_1) = some r := by first | (rw [hy264]; exact H) | exact H
                   have Ny264 := ak_ hy264
                   clear hy264
                   have H' := ak_ H
                   clear H
                   go_wp2_with (first | ((with_reducible refine gate_builtin (b := .append) (xs := #[.tmp 66, .tmp 68]) rfl ?_); at_builtin; refine Kd.N_append (Kd.slice 22 (Kd.slice 3 (Kd.int .i64))) (w0 := w) w.heap.size rfl (.tmp 66) (.tmp 68) 30 57 (.slice none 0 0) 24 rfl Try.underlying30 info57 rfl (by decide) (by omega) u8 x8_3 y260 [.slice Ao79 y260.length co79] (fun k_ => (w.heap.size ≤ k_) ∧ some k_ ≠ (.slice (some ad237) t234.length co15 : Value).ownBlock ∧ some k_ ≠ (.slice (some ad237) t234.length co15 : Value).ownBlock ∧ k_ ≠ gb229 ∧ k_ ≠ gb230) (fun k_ => ((fun k_ => (w.heap.size ≤ k_) ∧ some k_ ≠ (.slice (some ad237) t234.length co15 : Value).ownBlock ∧ some k_ ≠ (.slice (some ad237) t234.length co15 : Value).ownBlock ∧ k_ ≠ gb229 ∧ k_ ≠ gb230)) k_ ∧ some k_ ≠ (u8 : Value).ownBlock) rfl rfl ?aP (fun _ hk => hk) ?aF ?aO ?aB ?aS ?aL ?_; (case aP => exact (Kd.FK_slice_mk (Kd.N_reads' (Kd.N_mono (ok' := (fun k_ => ((fun k_ => (w.heap.size ≤ k_) ∧ some k_ ≠ (.slice (some ad237) t234.length co15 : Value).ownBlock ∧ some k_ ≠ (.slice (some ad237) t234.length co15 : Value).ownBlock ∧ k_ ≠ gb229 ∧ k_ ≠ gb230)) k_ ∧ some k_ ≠ (u8 : Value).ownBlock)) (HO262.out) (fun k_ hk => ⟨⟨hk.1, ⟨hk.2.1, ⟨hk.2.2.2.1, ⟨hk.2.2.2.2.1, hk.2.2.2.2.2⟩⟩⟩⟩, hk.2.2.1⟩))).2.1 (Kd.N_F (Kd.N_mono (ok' := (fun k_ => ((fun k_ => (w.heap.size ≤ k_) ∧ some k_ ≠ (.slice (some ad237) t234.length co15 : Value).ownBlock ∧ some k_ ≠ (.slice (some ad237) t234.length co15 : Value).ownBlock ∧ k_ ≠ gb229 ∧ k_ ≠ gb230)) k_ ∧ some k_ ≠ (u8 : Value).ownBlock)) (HO262.out) (fun k_ hk => ⟨⟨hk.1, ⟨hk.2.1, ⟨hk.2.2.2.1, ⟨hk.2.2.2.2.1, hk.2.2.2.2.2⟩⟩⟩⟩, hk.2.2.1⟩))))); (case aB => exact bl_); (case aF => exact (fun k_ hk => ⟨(Nat.le_trans (bz_ bl_) hk), Kd.fresh' (Kd.N_lt (Kd.pN HO_7.out)) k_ hk, Kd.fresh' (Kd.N_lt (Kd.pN HO_30.out)) k_ hk, Kd.freshB (pk BK229.out) k_ hk, Kd.freshB (pk BK230.out) k_ hk⟩)); (case aO => exact (by (with_reducible repeat (first | apply Kd.N_alloc | apply Kd.N_drewN | apply Kd.N_drew)); exact Kd.N_mono HO_8.out (fun _ hk => ⟨hk.1.1.1.1, ⟨hk.1.1.1.2.1, ⟨hk.1.1.1.2.2.1, ⟨hk.1.1.1.2.2.2.1, hk.1.1.1.2.2.2.2⟩⟩⟩⟩))); (case aS => exact (bz_ bl_)); (case aL => have := LMc82.out; omega); intro v265 w83 ho hb hg hat; rw [← Ny264.out] at ho; have n0_ := ak_ (Kd.N_afterv (ok := (fun k_ => (w.heap.size ≤ k_) ∧ some k_ ≠ (.slice Ao79 y260.length co79 : Value).ownBlock ∧ k_ ≠ gb229 ∧ k_ ≠ gb230)) (by (with_reducible repeat (first | apply Kd.N_alloc | apply Kd.N_drewN | apply Kd.N_drew)); exact Kd.N_mono HO_7.out (fun _ hk => ⟨⟨hk.1.1.1.1, ⟨hk.2, ⟨hk.1.1.1.2.2.1, hk.1.1.1.2.2.2⟩⟩⟩, hk.1.1.1.2.1⟩)) hg hat); have n1_ := ak_ (Kd.N_afterv (ok := (fun k_ => (w.heap.size ≤ k_) ∧ some k_ ≠ (.slice Ao79 y260.length co79 : Value).ownBlock ∧ k_ ≠ gb229 ∧ k_ ≠ gb230)) (by (with_reducible repeat (first | apply Kd.N_alloc | apply Kd.N_drewN | apply Kd.N_drew)); exact Kd.N_mono HO_30.out (fun _ hk => ⟨⟨hk.1.1.1.1, ⟨hk.2, ⟨hk.1.1.1.2.2.1, hk.1.1.1.2.2.2⟩⟩⟩, hk.1.1.1.2.1⟩)) hg hat); have n2_ := ak_ (Kd.V_afterv (ok := (fun k_ => (w.heap.size ≤ k_) ∧ some k_ ≠ (.slice Ao79 y260.length co79 : Value).ownBlock ∧ k_ ≠ gb229 ∧ k_ ≠ gb230)) (by (with_reducible repeat (first | apply Kd.V_alloc | apply Kd.V_drewN | apply Kd.V_drew)); exact Kd.V_mono HO_51.out (fun _ hk => ⟨⟨hk.1.1.1.1, ⟨hk.2, ⟨hk.1.1.1.2.2.1, hk.1.1.1.2.2.2⟩⟩⟩, hk.1.1.1.2.1⟩)) hg hat); have mn2_ := ak_ (Kd.V_afterv (ok := (fun k_ => (w.heap.size ≤ k_) ∧ some k_ ≠ (.slice Ao79 y260.length co79 : Value).ownBlock ∧ k_ ≠ gb229 ∧ k_ ≠ gb230)) (by (with_reducible repeat (first | apply Kd.V_alloc | apply Kd.V_drewN | apply Kd.V_drew)); exact Kd.V_mono HL237_0.out (fun _ hk => ⟨⟨hk.1.1.1.1, ⟨hk.2, ⟨hk.1.1.1.2.2.1, hk.1.1.1.2.2.2⟩⟩⟩, hk.1.1.1.2.1⟩)) hg hat); have n3_ := ak_ (blk_grown (pk BK229.out) hg (Kd.N_ne HO_8.out BK229.out (by decide))); have n4_ := ak_ (blk_grown (pk BK230.out) hg (Kd.N_ne HO_8.out BK230.out (by decide))); have n5_ := ak_ (Kd.V_afterv (ok := (fun k_ => (w.heap.size ≤ k_) ∧ some k_ ≠ (.slice Ao79 y260.length co79 : Value).ownBlock ∧ k_ ≠ gb229 ∧ k_ ≠ gb230)) (by (with_reducible repeat (first | apply Kd.V_alloc | apply Kd.V_drewN | apply Kd.V_drew)); exact Kd.V_mono HL253_0.out (fun _ hk => ⟨⟨hk.1.1.1.1, ⟨hk.2, ⟨hk.1.1.1.2.2.1, hk.1.1.1.2.2.2⟩⟩⟩, hk.1.1.1.2.1⟩)) hg hat); have n6_ := ak_ (hb); have n7_ := ak_ (ho); clear HO_7; clear HO_30; clear HO_51; clear BK229; clear BK230; clear HL253_0; clear HB; clear HO_8; clear HO262; have HO_7 := n0_; have HO_30 := n1_; clear HL237_0; have HL237_0 := mn2_; clear mn2_; have HO_51 := n2_; have BK229 := n3_; have BK230 := n4_; have HL253_0 := n5_; have HB := n6_; have HO266 := n7_; clear n0_ n1_ n2_ n3_ n4_ n5_ n6_ n7_; clear ho hb hg hat))
                   go_roundg k3
                   case measure => have := HK1.out; have := HK2.out; have := HK3.out; omega
                   case rel => exact ⟨(y264), (wrap64 (x53_3 + 1)), (ry_), H', ⟨by have := HK1.out; have := HK2.out; have := HK3.out; omega⟩, ⟨by (with_reducible repeat (first | apply Kd.N_alloc | apply Kd.N_drewN | apply Kd.N_drew)); exact Kd.N_mono HO_7.out (fun _ hk => ⟨hk.1.1, ⟨hk.2, ⟨hk.1.2.2.1, hk.1.2.2.2⟩⟩⟩)⟩, ⟨Kd.pN HO266.out⟩, ⟨by (with_reducible repeat (first | apply Kd.N_alloc | apply Kd.N_drewN | apply Kd.N_drew)); exact Kd.N_mono HO_30.out (fun _ hk => ⟨hk.1.1, ⟨hk.2, ⟨hk.1.2.2.1, hk.1.2.2.2⟩⟩⟩)⟩, ⟨by (with_reducible repeat (first | apply Kd.V_alloc | apply Kd.V_drewN | apply Kd.V_drew)); exact Kd.V_mono HO_51.out (fun _ hk => ⟨hk.1.1, ⟨hk.2, ⟨hk.1.2.2.1, hk.1.2.2.2⟩⟩⟩)⟩, ⟨pk BK229.out⟩, ⟨pk BK230.out⟩, ⟨by repeat (with_reducible first | exact HB.out | apply ba_ | apply bN_ | apply b1_ | refine below_set ?_ (Aside0.out (by assumption)))⟩, ⟨by (with_reducible repeat (first | apply Kd.V_alloc | apply Kd.V_drewN | apply Kd.V_drew)); exact Kd.V_mono HL237_0.out (fun _ hk => ⟨hk.1.1, ⟨hk.2, ⟨hk.1.2.2.1, hk.1.2.2.2⟩⟩⟩)⟩⟩
                  ·
                   rw [if_neg c82] at H
                   exact absurd H (by simp)
                 ·
                  replace c81 := Bool.eq_false_iff.mpr c81
                  subst c81
                  have H1 : (spec_toRounds.l2 k3 t234 x8_3 (rd_L2 t234 x32_2) t234 (t234.length : Int) x32_2 y267 (y267.length : Int) (wrap64 (x53_3 + 1)) l0_0 a0_1 a0_2 l1_0 a1_1) = some r := by rw [if_neg (show ¬ (false = true) by decide)] at H; exact H
                  clear H
                  have H := H1
                  clear H1
                  have H' := ak_ H
                  clear H
                  go_wp2
                  go_roundg k3
                  case measure => have := HK1.out; have := HK2.out; have := HK3.out; omega
                  case rel => exact ⟨(x8_3), (wrap64 (x53_3 + 1)), (ry_), H', ⟨by have := HK1.out; have := HK2.out; have := HK3.out; omega⟩, ⟨by (with_reducible repeat (first | apply Kd.N_alloc | apply Kd.N_drewN | apply Kd.N_drew)); exact Kd.N_mono HO_7.out (fun _ hk => ⟨hk.1.1.1.1, ⟨hk.1.1.1.2.1, ⟨hk.1.1.1.2.2.1, hk.1.1.1.2.2.2⟩⟩⟩)⟩, ⟨by (with_reducible repeat (first | apply Kd.N_alloc | apply Kd.N_drewN | apply Kd.N_drew)); exact Kd.N_mono HO_8.out (fun _ hk => ⟨hk.1.1.1.1, ⟨hk.1.1.1.2.1, ⟨hk.1.1.1.2.2.1, ⟨hk.1.1.1.2.2.2.1, hk.1.1.1.2.2.2.2⟩⟩⟩⟩)⟩, ⟨by (with_reducible repeat (first | apply Kd.N_alloc | apply Kd.N_drewN | apply Kd.N_drew)); exact Kd.N_mono HO_30.out (fun _ hk => ⟨hk.1.1.1.1, ⟨hk.1.1.1.2.1, ⟨hk.1.1.1.2.2.1, hk.1.1.1.2.2.2⟩⟩⟩)⟩, ⟨by (with_reducible repeat (first | apply Kd.V_alloc | apply Kd.V_drewN | apply Kd.V_drew)); exact Kd.V_mono HO_51.out (fun _ hk => ⟨hk.1.1.1.1, ⟨hk.1.1.1.2.1, ⟨hk.1.1.1.2.2.1, hk.1.1.1.2.2.2⟩⟩⟩)⟩, ⟨pk BK229.out⟩, ⟨pk BK230.out⟩, ⟨by repeat (with_reducible first | exact HB.out | apply ba_ | apply bN_ | apply b1_ | refine below_set ?_ (Aside0.out (by assumption)))⟩, ⟨by (with_reducible repeat (first | apply Kd.V_alloc | apply Kd.V_drewN | apply Kd.V_drew)); exact Kd.V_mono HL237_0.out (fun _ hk => ⟨hk.1.1.1.1, ⟨hk.1.1.1.2.1, ⟨hk.1.1.1.2.2.1, hk.1.1.1.2.2.2⟩⟩⟩)⟩⟩
                ·
                 rw [if_neg c65] at H
                 exact absurd H (by simp)
               ·
                rw [if_neg c64] at H
                exact absurd H (by simp)
              ·
               rw [if_neg c63] at H
               have c63b0 : decide (x53_3 < (y267.length : Int)) = false := decide_eq_false c63
               clear c63
               have H' := ak_ H
               clear H
               go_wp2
               go_roundg k3
               case measure => have := HK1.out; have := HK2.out; have := HK3.out; omega
               case rel => exact ⟨(x8_3), (wrap64 (x32_2 + 1)), (ry_), H', ⟨by have := HK1.out; have := HK2.out; have := HK3.out; omega⟩, ⟨Kd.pN HO_7.out⟩, ⟨Kd.pN HO_8.out⟩, ⟨Kd.pN HO_30.out⟩, ⟨pk BK229.out⟩, ⟨pk BK230.out⟩, ⟨by repeat (with_reducible first | exact HB.out | apply ba_ | apply bN_ | apply b1_ | refine below_set ?_ (Aside0.out (by assumption)))⟩⟩
           ·
            rw [if_neg c61] at H
            exact absurd H (by simp)
          ·
           rw [if_neg c60] at H
           exact absurd H (by simp)
        ·
         rw [if_neg c18] at H
         exact absurd H (by simp)
       ·
        rw [if_neg c17] at H
        exact absurd H (by simp)
      ·
       rw [if_neg c16] at H
       have c16b0 : decide (x32_2 < (t234.length : Int)) = false := decide_eq_false c16
       clear c16
       obtain rfl := Option.some.inj H
       go_wp2
       go_ret
       exact ⟨_, rx_, by (with_reducible repeat (first | apply Kd.N_alloc | apply Kd.N_drewN | apply Kd.N_drew)); exact Kd.N_mono HO_8.out (fun _ hk => hk.1), by repeat (with_reducible first | exact HB.out | apply ba_ | apply bN_ | apply b1_ | refine below_set ?_ (Aside0.out (by assumption)))⟩
def spec_RoundsOfNight.f (k : Nat) (l0_0 : List Int) (a0_1 : Int) (a0_2 : Int) (l1_0 : List Bool) (a1_1 : Int) : Option ((List (List (List Int))) × Bool) := (spec_toCamp.f k l0_0 a0_1 a0_2 l1_0 a1_1).bind fun t274 => (if t274 = true then ((spec_toRounds.f k l0_0 a0_1 a0_2 l1_0 a1_1).bind fun t275 => (some (t275, true))) else (some (([] : List (List (List Int))), false)))
theorem spec_RoundsOfNight.calls (k : Nat) (A0_0 : Option Addr) (c0_0 : Nat) (l0_0 : List Int) (a0_1 : Int) (a0_2 : Int) (A1_0 : Option Addr) (c1_0 : Nat) (l1_0 : List Bool) (a1_1 : Int) (r1 : List (List (List Int))) (r2 : Bool) (w : World) (hr0_0 : Kd.C (Kd.int .i64) w A0_0 l0_0.length l0_0) (hc0_0 : l0_0.length ≤ c0_0) (hr1_0 : Kd.C Kd.bool w A1_0 l1_0.length l1_0) (hc1_0 : l1_0.length ≤ c1_0) (h : spec_RoundsOfNight.f k l0_0 a0_1 a0_2 l1_0 a1_1 = some (r1, r2)) :
  Calls Try.prog 12 #[.agg #[.slice A0_0 l0_0.length c0_0, .int .i64 a0_1, .int .i64 a0_2], .agg #[.slice A1_0 l1_0.length c1_0, .int .i64 a1_1]] w fun e w' => ∃ v0_ : Value, e = .returned (.tuple #[v0_, .bool r2]) ∧ Kd.N (Kd.slice 22 (Kd.slice 3 (Kd.int .i64))) 57 w' w.heap.size (fun k_ => (w.heap.size ≤ k_)) v0_ r1 ∧ Below w.heap.size w w' := by
 have hu33 := Try.underlying33
 have hu35 := Try.underlying35
 have HR0_0 := ak_ hr0_0
 have HC0_0 := ak_ hc0_0
 clear hr0_0 hc0_0
 have HR1_0 := ak_ hr1_0
 have HC1_0 := ak_ hc1_0
 clear hr1_0 hc1_0
 have HB := ak_ (Below.refl w.heap.size w)
 have H : ((spec_toCamp.f k l0_0 a0_1 a0_2 l1_0 a1_1).bind fun t274 => (if t274 = true then ((spec_toRounds.f k l0_0 a0_1 a0_2 l1_0 a1_1).bind fun t275 => (some (t275, true))) else (some (([] : List (List (List Int))), false)))) = some (r1, r2) := h
 clear h
 replace H := Option.bind_eq_some_iff.mp H
 obtain ⟨t274, A30, H⟩ := H
 replace H : (if t274 = true then ((spec_toRounds.f k l0_0 a0_1 a0_2 l1_0 a1_1).bind fun t275 => (some (t275, true))) else (some (([] : List (List (List Int))), false))) = some (r1, r2) := H
 have A3 := ak_ A30
 clear A30
 by_cases c4 : t274 = true
 ·
  subst c4
  have H1 : ((spec_toRounds.f k l0_0 a0_1 a0_2 l1_0 a1_1).bind fun t275 => (some (t275, true))) = some (r1, r2) := by rw [if_pos rfl] at H; exact H
  clear H
  have H := H1
  clear H1
  replace H := Option.bind_eq_some_iff.mp H
  obtain ⟨t275, A50, H⟩ := H
  replace H : (some (t275, true)) = some (r1, r2) := H
  have A5 := ak_ A50
  clear A50
  simp only [Option.some.injEq, Prod.mk.injEq] at H
  obtain ⟨rfl, rfl⟩ := H
  go_enter Try.func12, Try.ntmps12
  go_wp2_with (first | ((with_reducible refine gate_dst (N := 2) rfl ?_); refine bx_ 2 #[.slice A0_0 l0_0.length c0_0, .int .i64 a0_1, .int .i64 a0_2] 33 ?_; intro gb272 hg w6 hbox hb; have n0_ := ak_ (bs_ (bb_ HB.out) hb); have n1_ := ak_ (hbox); have n2_ := ak_ ((by rw [hg]; exact (bz_ (bb_ HB.out)) : w.heap.size ≤ gb272)); have n3_ := n2_; clear HB; have HB := n0_; have BK272 := n1_; have GW272 := n2_; have GE272 := n3_; clear n0_ n1_ n2_ n3_; clear hb hbox hg) | ((with_reducible refine gate_dst (N := 3) rfl ?_); refine bx_ 3 #[.slice A1_0 l1_0.length c1_0, .int .i64 a1_1] 35 ?_; intro gb273 hg w7 hbox hb; have n0_ := ak_ (blk_below (pk BK272.out) hb); have n1_ := ak_ (bs_ bl_ hb); have n2_ := ak_ (hbox); have n3_ := ak_ ((by rw [hg]; exact (bz_ bl_) : w.heap.size ≤ gb273)); have n4_ := n3_; have n5_ := ak_ ((by rw [hg]; exact Nat.ne_of_lt (blk_lt (pk BK272.out)) : gb272 ≠ gb273)); have n6_ := ak_ n5_.out.symm; clear BK272; clear HB; have BK272 := n0_; have HB := n1_; have BK273 := n2_; have GW273 := n3_; have GE273 := n4_; have NB272_273 := n5_; have NB273_272 := n6_; clear n0_ n1_ n2_ n3_ n4_ n5_ n6_; clear hb hbox hg; have hnb8 := NB272_273.out; have hnc8 := NB273_272.out; have hcz9_0 : w7.cell? ⟨gb272, 0, none⟩ = some (.slice A0_0 l0_0.length c0_0) := (blk_cell BK272.out 0).trans rfl; have hcz9_1 : w7.cell? ⟨gb272, 1, none⟩ = some (.int .i64 a0_1) := (blk_cell BK272.out 1).trans rfl; have hcz9_2 : w7.cell? ⟨gb272, 2, none⟩ = some (.int .i64 a0_2) := (blk_cell BK272.out 2).trans rfl; have hfz9_0 := blk_frozen BK272.out 0; have hfz9_1 := blk_frozen BK272.out 1; have hfz9_2 := blk_frozen BK272.out 2; have hcz10_0 : w7.cell? ⟨gb273, 0, none⟩ = some (.slice A1_0 l1_0.length c1_0) := (blk_cell BK273.out 0).trans rfl; have hcz10_1 : w7.cell? ⟨gb273, 1, none⟩ = some (.int .i64 a1_1) := (blk_cell BK273.out 1).trans rfl; have hfz10_0 := blk_frozen BK273.out 0; have hfz10_1 := blk_frozen BK273.out 1) | ((with_reducible refine gate_callee (f := 37) rfl ?_); refine goesL_ (some 8) rfl rfl Try.func37 (by kernel_rfl) rfl #[.agg #[.slice A0_0 l0_0.length c0_0, .int .i64 a0_1, .int .i64 a0_2], .agg #[.slice A1_0 l1_0.length c1_0, .int .i64 a1_1]] rfl (by first | rfl | (simp only [map_toArray, map_cons, map_nil]; try rfl)) ?_; (with_reducible refine (spec_toCamp.calls k _ _ l0_0 a0_1 a0_2 _ _ l1_0 a1_1 true _ ?side1 ?side2 ?side3 ?side4 A3.out).mono ?_); (case side1 => repeat (first | exact (Kd.C_below HR0_0.out HB.out) | (with_reducible refine Kd.C_alloc ?_ _) | (with_reducible refine Kd.C_drewN ?_ _) | (with_reducible refine Kd.C_drew ?_))); (case side2 => exact HC0_0.out); (case side3 => repeat (first | exact (Kd.C_below HR1_0.out HB.out) | (with_reducible refine Kd.C_alloc ?_ _) | (with_reducible refine Kd.C_drewN ?_ _) | (with_reducible refine Kd.C_drew ?_))); (case side4 => exact HC1_0.out); rintro e w11 ⟨rfl, hb⟩; refine ⟨_, rfl, ?_⟩; have n0_ := ak_ (blk_below (pk BK272.out) hb); have n1_ := ak_ (blk_below (pk BK273.out) hb); have n2_ := ak_ (bs_ bl_ hb); clear BK272; clear BK273; clear HB; have BK272 := n0_; have BK273 := n1_; have HB := n2_; clear n0_ n1_ n2_; (try clear hb); (try clear hb2); (try clear hk); (try clear hi); have hcz12_0 : w11.cell? ⟨gb272, 0, none⟩ = some (.slice A0_0 l0_0.length c0_0) := (blk_cell BK272.out 0).trans rfl; have hcz12_1 : w11.cell? ⟨gb272, 1, none⟩ = some (.int .i64 a0_1) := (blk_cell BK272.out 1).trans rfl; have hcz12_2 : w11.cell? ⟨gb272, 2, none⟩ = some (.int .i64 a0_2) := (blk_cell BK272.out 2).trans rfl; have hfz12_0 := blk_frozen BK272.out 0; have hfz12_1 := blk_frozen BK272.out 1; have hfz12_2 := blk_frozen BK272.out 2; have hcz13_0 : w11.cell? ⟨gb273, 0, none⟩ = some (.slice A1_0 l1_0.length c1_0) := (blk_cell BK273.out 0).trans rfl; have hcz13_1 : w11.cell? ⟨gb273, 1, none⟩ = some (.int .i64 a1_1) := (blk_cell BK273.out 1).trans rfl; have hfz13_0 := blk_frozen BK273.out 0; have hfz13_1 := blk_frozen BK273.out 1) | ((with_reducible refine gate_callee (f := 38) rfl ?_); refine goesL_ (some 12) rfl rfl Try.func38 (by kernel_rfl) rfl #[.agg #[.slice A0_0 l0_0.length c0_0, .int .i64 a0_1, .int .i64 a0_2], .agg #[.slice A1_0 l1_0.length c1_0, .int .i64 a1_1]] rfl (by first | rfl | (simp only [map_toArray, map_cons, map_nil]; try rfl)) ?_; (with_reducible refine (spec_toRounds.calls k _ _ l0_0 a0_1 a0_2 _ _ l1_0 a1_1 t275 _ ?side1 ?side2 ?side3 ?side4 A5.out).mono ?_); (case side1 => repeat (first | exact (Kd.C_below HR0_0.out HB.out) | (with_reducible refine Kd.C_alloc ?_ _) | (with_reducible refine Kd.C_drewN ?_ _) | (with_reducible refine Kd.C_drew ?_))); (case side2 => exact HC0_0.out); (case side3 => repeat (first | exact (Kd.C_below HR1_0.out HB.out) | (with_reducible refine Kd.C_alloc ?_ _) | (with_reducible refine Kd.C_drewN ?_ _) | (with_reducible refine Kd.C_drew ?_))); (case side4 => exact HC1_0.out); rintro e w14 ⟨v276, rfl, ho0, hb⟩; refine ⟨_, rfl, ?_⟩; have n0_ := ak_ (Kd.N_lower (Kd.N_mono (ok' := fun k_ => (w.heap.size ≤ k_) ∧ k_ ≠ gb272 ∧ k_ ≠ gb273) ho0 (fun k_ hk_ => ⟨(Nat.le_trans (bz_ bl_) hk_), (Kd.freshB (pk BK272.out) k_ hk_), (Kd.freshB (pk BK273.out) k_ hk_)⟩)) (bz_ bl_)); have n1_ := ak_ (blk_below (pk BK272.out) hb); have n2_ := ak_ (blk_below (pk BK273.out) hb); have n3_ := ak_ (bs_ bl_ hb); clear BK272; clear BK273; clear HB; have HO277 := n0_; have BK272 := n1_; have BK273 := n2_; have HB := n3_; clear n0_ n1_ n2_ n3_; (try clear hb); (try clear hb2); (try clear hk); (try clear hi); (try clear ho0)))
  go_ret2
  exact ⟨_, rx_, by (with_reducible repeat (first | apply Kd.N_alloc | apply Kd.N_drewN | apply Kd.N_drew)); exact Kd.N_mono HO277.out (fun _ hk => hk.1), by repeat (with_reducible first | exact HB.out | apply ba_ | apply bN_ | apply b1_ | refine below_set ?_ (Aside0.out (by assumption)))⟩
 ·
  replace c4 := Bool.eq_false_iff.mpr c4
  subst c4
  have H1 : (some (([] : List (List (List Int))), false)) = some (r1, r2) := by rw [if_neg (show ¬ (false = true) by decide)] at H; exact H
  clear H
  have H := H1
  clear H1
  simp only [Option.some.injEq, Prod.mk.injEq] at H
  obtain ⟨rfl, rfl⟩ := H
  go_enter Try.func12, Try.ntmps12
  go_wp2_with (first | ((with_reducible refine gate_dst (N := 2) rfl ?_); refine bx_ 2 #[.slice A0_0 l0_0.length c0_0, .int .i64 a0_1, .int .i64 a0_2] 33 ?_; intro gb272 hg w15 hbox hb; have n0_ := ak_ (bs_ (bb_ HB.out) hb); have n1_ := ak_ (hbox); have n2_ := ak_ ((by rw [hg]; exact (bz_ (bb_ HB.out)) : w.heap.size ≤ gb272)); have n3_ := n2_; clear HB; have HB := n0_; have BK272 := n1_; have GW272 := n2_; have GE272 := n3_; clear n0_ n1_ n2_ n3_; clear hb hbox hg) | ((with_reducible refine gate_dst (N := 3) rfl ?_); refine bx_ 3 #[.slice A1_0 l1_0.length c1_0, .int .i64 a1_1] 35 ?_; intro gb273 hg w16 hbox hb; have n0_ := ak_ (blk_below (pk BK272.out) hb); have n1_ := ak_ (bs_ bl_ hb); have n2_ := ak_ (hbox); have n3_ := ak_ ((by rw [hg]; exact (bz_ bl_) : w.heap.size ≤ gb273)); have n4_ := n3_; have n5_ := ak_ ((by rw [hg]; exact Nat.ne_of_lt (blk_lt (pk BK272.out)) : gb272 ≠ gb273)); have n6_ := ak_ n5_.out.symm; clear BK272; clear HB; have BK272 := n0_; have HB := n1_; have BK273 := n2_; have GW273 := n3_; have GE273 := n4_; have NB272_273 := n5_; have NB273_272 := n6_; clear n0_ n1_ n2_ n3_ n4_ n5_ n6_; clear hb hbox hg; have hnb17 := NB272_273.out; have hnc17 := NB273_272.out; have hcz18_0 : w16.cell? ⟨gb272, 0, none⟩ = some (.slice A0_0 l0_0.length c0_0) := (blk_cell BK272.out 0).trans rfl; have hcz18_1 : w16.cell? ⟨gb272, 1, none⟩ = some (.int .i64 a0_1) := (blk_cell BK272.out 1).trans rfl; have hcz18_2 : w16.cell? ⟨gb272, 2, none⟩ = some (.int .i64 a0_2) := (blk_cell BK272.out 2).trans rfl; have hfz18_0 := blk_frozen BK272.out 0; have hfz18_1 := blk_frozen BK272.out 1; have hfz18_2 := blk_frozen BK272.out 2; have hcz19_0 : w16.cell? ⟨gb273, 0, none⟩ = some (.slice A1_0 l1_0.length c1_0) := (blk_cell BK273.out 0).trans rfl; have hcz19_1 : w16.cell? ⟨gb273, 1, none⟩ = some (.int .i64 a1_1) := (blk_cell BK273.out 1).trans rfl; have hfz19_0 := blk_frozen BK273.out 0; have hfz19_1 := blk_frozen BK273.out 1) | ((with_reducible refine gate_callee (f := 37) rfl ?_); refine goesL_ (some 8) rfl rfl Try.func37 (by kernel_rfl) rfl #[.agg #[.slice A0_0 l0_0.length c0_0, .int .i64 a0_1, .int .i64 a0_2], .agg #[.slice A1_0 l1_0.length c1_0, .int .i64 a1_1]] rfl (by first | rfl | (simp only [map_toArray, map_cons, map_nil]; try rfl)) ?_; (with_reducible refine (spec_toCamp.calls k _ _ l0_0 a0_1 a0_2 _ _ l1_0 a1_1 false _ ?side1 ?side2 ?side3 ?side4 A3.out).mono ?_); (case side1 => repeat (first | exact (Kd.C_below HR0_0.out HB.out) | (with_reducible refine Kd.C_alloc ?_ _) | (with_reducible refine Kd.C_drewN ?_ _) | (with_reducible refine Kd.C_drew ?_))); (case side2 => exact HC0_0.out); (case side3 => repeat (first | exact (Kd.C_below HR1_0.out HB.out) | (with_reducible refine Kd.C_alloc ?_ _) | (with_reducible refine Kd.C_drewN ?_ _) | (with_reducible refine Kd.C_drew ?_))); (case side4 => exact HC1_0.out); rintro e w20 ⟨rfl, hb⟩; refine ⟨_, rfl, ?_⟩; have n0_ := ak_ (blk_below (pk BK272.out) hb); have n1_ := ak_ (blk_below (pk BK273.out) hb); have n2_ := ak_ (bs_ bl_ hb); clear BK272; clear BK273; clear HB; have BK272 := n0_; have BK273 := n1_; have HB := n2_; clear n0_ n1_ n2_; (try clear hb); (try clear hb2); (try clear hk); (try clear hi)))
  go_ret2
  exact ⟨_, rx_, by first | exact Kd.R_nil _ _ _ _ _ | exact Kd.N_nil _ _ _ _ _ | exact Kd.V_nil _ _ _ _ _ | exact Kd.Q_nil _ _ _ _ _ | exact Kd.S_nil _ _ _ _ _, by repeat (with_reducible first | exact HB.out | apply ba_ | apply bN_ | apply b1_ | refine below_set ?_ (Aside0.out (by assumption)))⟩
end Go.Proofs.Ytmdbhpbogbekmaa.QNt
