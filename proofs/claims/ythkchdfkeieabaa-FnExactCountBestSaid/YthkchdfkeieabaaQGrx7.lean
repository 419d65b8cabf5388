/- Contracts of functions of the given program, walked: each call returns what its Lean function says. Conditions: those that stand at each theorem. (Written by a program of this session.) -/
import Derived.Test.YthkchdfkeieabaaQGrx0
import Derived.Test.YthkchdfkeieabaaQGrx1
import Derived.Test.YthkchdfkeieabaaQGrx3
import Derived.Test.YthkchdfkeieabaaQGrx6
namespace Go.Proofs.Ythkchdfkeieabaa.QGr
open Go.RowKit Go.Proofs.YthkchdfkeieabaaW.PrintWords Go.Proofs.YthkchdfkeieabaaW.PrintLast Go.Proofs.YthkchdfkeieabaaW.PrintMore
open List (setIfInBounds_toArray set_cons_zero set_cons_succ map_toArray map_cons map_nil)
attribute [local go_sem] max2_int min2_int max_two min_two max_three min_three max_four min_four
set_option linter.unusedVariables false
set_option maxHeartbeats 8000000
set_option maxRecDepth 100000
set_option linter.unusedSimpArgs false
def spec_paFirst.f (l0_0 : List Int) (a0_1 : Int) : Option (List Bool × Bool) := if 0 ≤ (l0_0.length : Int) then (if ((l0_0.length : Int) : Int).toNat ≤ 281474976710656 then (some ((List.replicate ((l0_0.length : Int) : Int).toNat false), false)) else (none)) else (none)
theorem spec_paFirst.calls (A0_0 : Option Addr) (c0_0 : Nat) (l0_0 : List Int) (a0_1 : Int) (r1 : List Bool) (r2 : Bool) (w : World) (hr0_0 : Kd.C (Kd.int .i64) w A0_0 l0_0.length l0_0) (hc0_0 : l0_0.length ≤ c0_0) (h : spec_paFirst.f l0_0 a0_1 = some (r1, r2)) :
  Calls Try.prog 90 #[.agg #[.slice A0_0 l0_0.length c0_0, .int .i64 a0_1]] w fun e w' => ∃ v0_ : Value, e = .returned (.agg #[v0_, .bool r2]) ∧ Kd.R Kd.bool 4 w' w.heap.size (fun _ => True) v0_ r1 ∧ Below w.heap.size w w' := by
 have hu34 := Try.underlying34
 have hu115 := Try.underlying115
 have HR0_0 := ak_ hr0_0
 have HC0_0 := ak_ hc0_0
 clear hr0_0 hc0_0
 have HB := ak_ (Below.refl w.heap.size w)
 have H : (if 0 ≤ (l0_0.length : Int) then (if ((l0_0.length : Int) : Int).toNat ≤ 281474976710656 then (some ((List.replicate ((l0_0.length : Int) : Int).toNat false), false)) else (none)) else (none)) = some (r1, r2) := h
 clear h
 by_cases c2 : 0 ≤ (l0_0.length : Int)
 ·
  rw [if_pos c2] at H
  have c2b0 := eq_true c2
  have c2b1 : decide (0 ≤ (l0_0.length : Int)) = true := decide_eq_true c2
  clear c2
  by_cases c3 : ((l0_0.length : Int) : Int).toNat ≤ 281474976710656
  ·
   rw [if_pos c3] at H
   have c3b0 := eq_true c3
   have c3b1 : decide (((l0_0.length : Int) : Int).toNat ≤ 281474976710656) = true := decide_eq_true c3
   clear c3
   obtain ⟨y257, hy257⟩ : ∃ y_ : List Bool, y_ = (List.replicate ((l0_0.length : Int) : Int).toNat false) := ⟨_, rfl⟩
   replace H : (some (y257, false)) = some (r1, r2) := by first | (rw [hy257]; exact H) | exact H
   have Ny257 := ak_ hy257
   clear hy257
   simp only [Option.some.injEq, Prod.mk.injEq] at H
   obtain ⟨rfl, rfl⟩ := H
   go_enter Try.func90, Try.ntmps90
   go_wp2_with (first | ((with_reducible refine gate_dst (N := 1) rfl ?_); refine box_event ?hg (N := 1) ?hd (cs := #[.slice A0_0 l0_0.length c0_0, .int .i64 a0_1]) (t := 34) ?hr ?_; (case hd => rfl); (case hg => rfl); (case hr => go_simp <;> rfl); intro gb255 hg w4 hbox hb; have n0_ := ak_ (bs_ (bb_ HB.out) hb); have n1_ := ak_ (hbox); have n2_ := ak_ ((by rw [hg]; exact (bz_ (bb_ HB.out)) : w.heap.size ≤ gb255)); have n3_ := n2_; clear HB; have HB := n0_; have BK255 := n1_; have GW255 := n2_; have GE255 := n3_; clear n0_ n1_ n2_ n3_; clear hb hbox hg) | ((with_reducible refine gate_dst (N := 2) rfl ?_); refine box_event ?hg (N := 2) ?hd (cs := #[.slice none 0 0, .bool false]) (t := 115) ?hr ?_; (case hd => rfl); (case hg => rfl); (case hr => go_simp <;> rfl); intro gb256 hg w5 hbox hb; have n0_ := ak_ (blk_below (pk BK255.out) hb); have n1_ := ak_ (bs_ (by repeat (first | exact HB.out | apply ba_ | apply bN_ | apply b1_ | refine below_set ?_ GE255.out)) hb); have n2_ := ak_ (hbox); have n3_ := ak_ ((by rw [hg]; exact (bz_ (by repeat (first | exact HB.out | apply ba_ | apply bN_ | apply b1_ | refine below_set ?_ GE255.out))) : w.heap.size ≤ gb256)); have n4_ := n3_; have n5_ := ak_ ((by rw [hg]; exact Nat.ne_of_lt (blk_lt (pk BK255.out)) : gb255 ≠ gb256)); have n6_ := ak_ n5_.out.symm; clear BK255; clear HB; have BK255 := n0_; have HB := n1_; have BK256 := n2_; have GW256 := n3_; have GE256 := n4_; have NB255_256 := n5_; have NB256_255 := n6_; clear n0_ n1_ n2_ n3_ n4_ n5_ n6_; clear hb hbox hg; have hnb6 := NB255_256.out; have hnc6 := NB256_255.out; have hcz7_0 : w5.cell? ⟨gb255, 0, none⟩ = some (.slice A0_0 l0_0.length c0_0) := (blk_cell BK255.out 0).trans rfl; have hcz7_1 : w5.cell? ⟨gb255, 1, none⟩ = some (.int .i64 a0_1) := (blk_cell BK255.out 1).trans rfl; have hfz7_0 := blk_frozen BK255.out 0; have hfz7_1 := blk_frozen BK255.out 1) | ((with_reducible refine gate_dst (N := 6) rfl ?_); refine Kd.R_make Kd.bool _ 4 rfl (N := 6) rfl 38 _ _ rfl (l0_0.length : Int) rfl rfl Try.underlying38 (.bool false) 1 info4 rfl (by decide) (by omega) false (ok := fun _ => True) (okp := fun _ => True) rfl (fun _ hk => hk) trivial (odt_ (by assumption)) (Nat.le_trans (Nat.mul_le_mul_right _ (odt_ (by assumption) : (l0_0.length : Int).toNat ≤ 281474976710656)) (by omega)) (Below.refl _ _) (Nat.le_refl _) ?_; intro v258 w8 ho9 hb hg_ hnew_; clear hg_ hnew_; (first | rw [← Ny257.out] at ho9 | (simp only [Int.reduceToNat] at ho9; rw [← Ny257.out] at ho9)); have n0_ := ak_ (Kd.R_lower ho9 (bz_ (by repeat (first | exact HB.out | apply ba_ | apply bN_ | apply b1_ | refine below_set ?_ (Aside0.out (by assumption)))))); have n1_ := ak_ (blk_below (pk BK255.out) hb); have n2_ := ak_ (blk_below (pk BK256.out) hb); have n3_ := ak_ (bs_ (by repeat (first | exact HB.out | apply ba_ | apply bN_ | apply b1_ | refine below_set ?_ (Aside0.out (by assumption)))) hb); clear BK255; clear BK256; clear HB; have HO259 := n0_; have BK255 := n1_; have BK256 := n2_; have HB := n3_; clear n0_ n1_ n2_ n3_; clear hb ho9; obtain ⟨Ao10, co10, eo10⟩ := Kd.R_slice HO259.out; subst eo10; have hcz11_0 : w8.cell? ⟨gb256, 0, none⟩ = some (.slice none 0 0) := (blk_cell BK256.out 0).trans rfl; have hcz11_1 : w8.cell? ⟨gb256, 1, none⟩ = some (.bool false) := (blk_cell BK256.out 1).trans rfl; have hfz11_0 := blk_frozen BK256.out 0; have hfz11_1 := blk_frozen BK256.out 1))
   refine bodyPost_ret (results_cell_row rfl _ _ gb256 115 #[.slice Ao10 y257.length co10, .bool false] (0, 0) _ rfl (by (with_reducible repeat (first | refine kN_ ?_ _ | refine k1_ ?_ | refine ka_ ?_ _)); refine blk_put (cs := #[.slice Ao10 y257.length co10, .bool false]) ?_ 1 _ rfl; (with_reducible repeat (first | refine kN_ ?_ _ | refine k1_ ?_ | refine ka_ ?_ _)); refine blk_put (cs := #[.slice none 0 0, .bool false]) ?_ 0 _ rfl; exact pk BK256.out) Try.underlying115 rfl (by kernel_rfl)) rfl ?_
   exact ⟨_, by first | rfl | (simp [errW_none, errW_some] <;> rfl) | (simp [*, errW_none, errW_some] <;> rfl), by (with_reducible repeat (first | apply Kd.R_alloc | apply Kd.R_drewN | apply Kd.R_drew)); exact Kd.R_mono (Kd.R_far (p := ⟨gb256, 1, none⟩) (Kd.R_far (p := ⟨gb256, 0, none⟩) (Kd.R_types HO259.out BK256.out (by decide)) (fun _ hk => hk.2) (.slice Ao10 y257.length co10)) (fun _ hk => hk.2) (.bool false)) (fun _ hk => trivial), by repeat (first | exact HB.out | apply ba_ | apply bN_ | apply b1_ | refine below_set ?_ (Aside0.out (by assumption)))⟩
  ·
   rw [if_neg c3] at H
   exact absurd H (by simp)
 ·
  rw [if_neg c2] at H
  exact absurd H (by simp)
def spec_paLast.l0 : Nat → Int → Int → List Bool → Bool → Option (List Bool × Bool)
 | 0, _, _, _, _ => none
 | k + 1, x7, x8, x263000, x263001 => if x8 < x7 then (if x263000.length < 140737488355328 then (spec_paLast.l0 k x7 (wrap64 (x8 + 1)) (x263000 ++ [true]) x263001) else (none)) else (some (x263000, x263001))
def spec_paLast.f (k : Nat) (l0_0 : List Int) (a0_1 : Int) : Option (List Bool × Bool) := spec_paLast.l0 k (l0_0.length : Int) 0 ([] : List Bool) true
theorem spec_paLast.mono_l : ∀ k, (∀ y0 y1 y2 y3, LeO (spec_paLast.l0 k y0 y1 y2 y3) (spec_paLast.l0 (k + 1) y0 y1 y2 y3))
 | 0 => fun _ _ _ _ r h => by simp [spec_paLast.l0] at h
 | k + 1 => by
  have ih0 := spec_paLast.mono_l k
  ·intro y0 y1 y2 y3
   unfold spec_paLast.l0
   repeat' first
   | (with_reducible first | exact ih0 _ _ _ _ | exact LeO.refl _ | exact LeO.none _ | refine LeO.ite ?_ ?_ | refine LeO.bind ?_ (fun _ => ?_))
   | exact ih0 _ _ _ _
   | exact LeO.none _
   | refine LeO.ite ?_ ?_
   | refine LeO.bind ?_ (fun _ => ?_)
theorem spec_paLast.mono : ∀ a0 a1 k, LeO (spec_paLast.f k a0 a1) (spec_paLast.f (k + 1) a0 a1) := by
 intro a0 a1 k
 have ih0 := spec_paLast.mono_l k
 unfold spec_paLast.f
 repeat' first
  | (with_reducible first | exact ih0 _ _ _ _ | exact LeO.refl _ | exact LeO.none _ | refine LeO.ite ?_ ?_ | refine LeO.bind ?_ (fun _ => ?_))
  | exact ih0 _ _ _ _
  | exact LeO.none _
  | refine LeO.ite ?_ ?_
  | refine LeO.bind ?_ (fun _ => ?_)
theorem spec_paLast.calls (k : Nat) (A0_0 : Option Addr) (c0_0 : Nat) (l0_0 : List Int) (a0_1 : Int) (r1 : List Bool) (r2 : Bool) (w : World) (hr0_0 : Kd.C (Kd.int .i64) w A0_0 l0_0.length l0_0) (hc0_0 : l0_0.length ≤ c0_0) (h : spec_paLast.f k l0_0 a0_1 = some (r1, r2)) :
  Calls Try.prog 92 #[.agg #[.slice A0_0 l0_0.length c0_0, .int .i64 a0_1]] w fun e w' => ∃ v0_ : Value, e = .returned (.agg #[v0_, .bool r2]) ∧ Kd.R Kd.bool 4 w' w.heap.size (fun _ => True) v0_ r1 ∧ Below w.heap.size w w' := by
 have hu34 := Try.underlying34
 have hu115 := Try.underlying115
 have HR0_0 := ak_ hr0_0
 have HC0_0 := ak_ hc0_0
 clear hr0_0 hc0_0
 have HB := ak_ (Below.refl w.heap.size w)
 have H : (spec_paLast.l0 k (l0_0.length : Int) 0 ([] : List Bool) true) = some (r1, r2) := h
 clear h
 have H' := ak_ H
 clear H
 go_enter Try.func92, Try.ntmps92
 go_wp2_with (first | ((with_reducible refine gate_dst (N := 1) rfl ?_); refine box_event ?hg (N := 1) ?hd (cs := #[.slice A0_0 l0_0.length c0_0, .int .i64 a0_1]) (t := 34) ?hr ?_; (case hd => rfl); (case hg => rfl); (case hr => go_simp <;> rfl); intro gb260 hg w2 hbox hb; have n0_ := ak_ (bs_ (bb_ HB.out) hb); have n1_ := ak_ (hbox); have n2_ := ak_ ((by rw [hg]; exact (bz_ (bb_ HB.out)) : w.heap.size ≤ gb260)); have n3_ := n2_; clear HB; have HB := n0_; have BK260 := n1_; have GW260 := n2_; have GE260 := n3_; clear n0_ n1_ n2_ n3_; clear hb hbox hg) | ((with_reducible refine gate_dst (N := 2) rfl ?_); refine box_event ?hg (N := 2) ?hd (cs := #[.slice none 0 0, .bool false]) (t := 115) ?hr ?_; (case hd => rfl); (case hg => rfl); (case hr => go_simp <;> rfl); intro gb261 hg w3 hbox hb; have n0_ := ak_ (blk_below (pk BK260.out) hb); have n1_ := ak_ (bs_ (by repeat (first | exact HB.out | apply ba_ | apply bN_ | apply b1_ | refine below_set ?_ GE260.out)) hb); have n2_ := ak_ (hbox); have n3_ := ak_ ((by rw [hg]; exact (bz_ (by repeat (first | exact HB.out | apply ba_ | apply bN_ | apply b1_ | refine below_set ?_ GE260.out))) : w.heap.size ≤ gb261)); have n4_ := n3_; have n5_ := ak_ ((by rw [hg]; exact Nat.ne_of_lt (blk_lt (pk BK260.out)) : gb260 ≠ gb261)); have n6_ := ak_ n5_.out.symm; clear BK260; clear HB; have BK260 := n0_; have HB := n1_; have BK261 := n2_; have GW261 := n3_; have GE261 := n4_; have NB260_261 := n5_; have NB261_260 := n6_; clear n0_ n1_ n2_ n3_ n4_ n5_ n6_; clear hb hbox hg) | ((with_reducible refine gate_dst (N := 3) rfl ?_); refine box_event ?hg (N := 3) ?hd (cs := #[.slice none 0 0, .bool false]) (t := 115) ?hr ?_; (case hd => rfl); (case hg => rfl); (case hr => go_simp <;> rfl); intro gb262 hg w4 hbox hb; have n0_ := ak_ (blk_below (pk BK260.out) hb); have n1_ := ak_ (blk_below (pk BK261.out) hb); have n2_ := ak_ (bs_ (by repeat (first | exact HB.out | apply ba_ | apply bN_ | apply b1_ | refine below_set ?_ (Aside0.out (by assumption)))) hb); have n3_ := ak_ (hbox); have n4_ := ak_ ((by rw [hg]; exact (bz_ (by repeat (first | exact HB.out | apply ba_ | apply bN_ | apply b1_ | refine below_set ?_ (Aside0.out (by assumption))))) : w.heap.size ≤ gb262)); have n5_ := n4_; have n6_ := ak_ ((by rw [hg]; exact Nat.ne_of_lt (blk_lt (pk BK260.out)) : gb260 ≠ gb262)); have n7_ := ak_ n6_.out.symm; have n8_ := ak_ ((by rw [hg]; exact Nat.ne_of_lt (blk_lt (pk BK261.out)) : gb261 ≠ gb262)); have n9_ := ak_ n8_.out.symm; clear BK260; clear BK261; clear HB; have BK260 := n0_; have BK261 := n1_; have HB := n2_; have BK262 := n3_; have GW262 := n4_; have GE262 := n5_; have NB260_262 := n6_; have NB262_260 := n7_; have NB261_262 := n8_; have NB262_261 := n9_; clear n0_ n1_ n2_ n3_ n4_ n5_ n6_ n7_ n8_ n9_; clear hb hbox hg; have hnb5 := NB262_260.out; have hnc5 := NB260_262.out; have hnb6 := NB262_261.out; have hnc6 := NB261_262.out; have hcz7_0 : w4.cell? ⟨gb262, 0, none⟩ = some (.slice none 0 0) := (blk_cell BK262.out 0).trans rfl; have hcz7_1 : w4.cell? ⟨gb262, 1, none⟩ = some (.bool false) := (blk_cell BK262.out 1).trans rfl; have hfz7_0 := blk_frozen BK262.out 0; have hfz7_1 := blk_frozen BK262.out 1; have hnb8 := NB260_261.out; have hnc8 := NB261_260.out; have hcz9_0 : w4.cell? ⟨gb260, 0, none⟩ = some (.slice A0_0 l0_0.length c0_0) := (blk_cell BK260.out 0).trans rfl; have hcz9_1 : w4.cell? ⟨gb260, 1, none⟩ = some (.int .i64 a0_1) := (blk_cell BK260.out 1).trans rfl; have hfz9_0 := blk_frozen BK260.out 0; have hfz9_1 := blk_frozen BK260.out 1))
 go_loopg [8] k (fun kq v8 w' => ∃ (x8_1 : Int) (x263000_1 : List Bool) (u263000 : Value), v8 = .int .i64 x8_1 ∧ Aside0 (spec_paLast.l0 kq (l0_0.length : Int) x8_1 x263000_1 true = some (r1, r2)) ∧ Aside0 (kq ≤ k) ∧ Aside0 (Kd.R Kd.bool 4 w' w.heap.size (fun _ => True) u263000 x263000_1) ∧ Aside0 (w'.heap[gb260]? = some (.cells #[(.slice A0_0 l0_0.length c0_0), .int .i64 a0_1] 34 (0, 0))) ∧ Aside0 (w'.heap[gb261]? = some (.cells #[(.slice none 0 0), .bool false] 115 (0, 0))) ∧ Aside0 (w'.heap[gb262]? = some (.cells #[u263000, .bool true] 115 (0, 0))) ∧ Aside0 (Below w.heap.size w w'))
 case atStart => exact ⟨(0), (([] : List Bool)), (.slice none 0 0), (by first | rfl | (simp; done) | (simp [*]; done)), H', ⟨Nat.le_refl _⟩, ⟨by first | exact Kd.R_nil _ _ _ _ _ | exact Kd.N_nil _ _ _ _ _ | exact Kd.V_nil _ _ _ _ _ | exact Kd.Q_nil _ _ _ _ _ | exact Kd.S_nil _ _ _ _ _⟩, ⟨by (with_reducible repeat (first | refine kN_ ?_ _ | refine k1_ ?_ | refine ka_ ?_ _)); refine blk_far ?_ NB260_262.out _; (with_reducible repeat (first | refine kN_ ?_ _ | refine k1_ ?_ | refine ka_ ?_ _)); refine blk_far ?_ NB260_262.out _; exact pk BK260.out⟩, ⟨by (with_reducible repeat (first | refine kN_ ?_ _ | refine k1_ ?_ | refine ka_ ?_ _)); refine blk_far ?_ NB261_262.out _; (with_reducible repeat (first | refine kN_ ?_ _ | refine k1_ ?_ | refine ka_ ?_ _)); refine blk_far ?_ NB261_262.out _; exact pk BK261.out⟩, ⟨by (with_reducible repeat (first | refine kN_ ?_ _ | refine k1_ ?_ | refine ka_ ?_ _)); refine blk_put (cs := #[.slice none 0 0, .bool false]) ?_ 1 _ rfl; (with_reducible repeat (first | refine kN_ ?_ _ | refine k1_ ?_ | refine ka_ ?_ _)); refine blk_put (cs := #[.slice none 0 0, .bool false]) ?_ 0 _ rfl; exact pk BK262.out⟩, ⟨by repeat (first | exact HB.out | apply ba_ | apply bN_ | apply b1_ | refine below_set ?_ (Aside0.out (by assumption)))⟩⟩
 case round =>
  clear H'
  try clear p2
  try clear c5
  try clear c6
  try clear c8
  try clear c9
  try clear hcz7_0
  try clear hcz7_1
  try clear hcz9_0
  try clear hcz9_1
  try clear hfz7_0
  try clear hfz7_1
  try clear hfz9_0
  try clear hfz9_1
  obtain ⟨x8_1, x263000_1, u263000, rfl, HA, HK1, HO_263000, BK260, BK261, BK262, HB⟩ := hrel
  cases gk with
  | zero => exact absurd HA.out (by simp [spec_paLast.l0])
  | succ k1 =>
   have H := HA.out
   clear HA
   simp only [spec_paLast.l0] at H
   by_cases c10 : x8_1 < (l0_0.length : Int)
   ·
    rw [if_pos c10] at H
    have c10b0 : decide (x8_1 < (l0_0.length : Int)) = true := decide_eq_true c10
    clear c10
    by_cases c11 : x263000_1.length < 140737488355328
    ·
     rw [if_pos c11] at H
     have LMc11 := ak_ c11
     clear c11
     obtain ⟨y263, hy263⟩ : ∃ y_ : List Bool, y_ = (x263000_1 ++ [true]) := ⟨_, rfl⟩
     replace H : (spec_paLast.l0 k1 (l0_0.length : Int) (wrap64 (x8_1 + 1)) y263 true) = some (r1, r2) := by first | (rw [hy263]; exact H) | exact H
     have Ny263 := ak_ hy263
     clear hy263
     have H' := ak_ H
     clear H
     have hnb12 := NB262_260.out
     have hnc12 := NB260_262.out
     have hnb13 := NB262_261.out
     have hnc13 := NB261_262.out
     have hcz14_0 : wr.cell? ⟨gb262, 0, none⟩ = some (u263000) := (blk_cell BK262.out 0).trans rfl
     have hcz14_1 : wr.cell? ⟨gb262, 1, none⟩ = some (.bool true) := (blk_cell BK262.out 1).trans rfl
     have hfz14_0 := blk_frozen BK262.out 0
     have hfz14_1 := blk_frozen BK262.out 1
     go_wp2_with (first | ((with_reducible refine gate_builtin (b := .append) (xs := #[.tmp 11, .tmp 12]) rfl ?_); at_builtin; refine Kd.R_append Kd.bool (w0 := w) w.heap.size rfl (.tmp 11) (.tmp 12) 38 4 (.bool false) 1 rfl Try.underlying38 info4 rfl (by decide) (by omega) u263000 x263000_1 true [.bool true] (fun _ => True) (fun _ => False) rfl rfl ?aP (fun _ hk => hk.elim) ?aF ?aO ?aB ?aS ?aL ?_; (case aP => exact rfl); (case aB => exact (by repeat (first | exact HB.out | apply ba_ | apply bN_ | apply b1_ | refine below_set ?_ (Aside0.out (by assumption))))); (case aF => exact (fun _ _ => trivial)); (case aO => exact (Kd.pR HO_263000.out)); (case aS => exact (bz_ (by repeat (first | exact HB.out | apply ba_ | apply bN_ | apply b1_ | refine below_set ?_ (Aside0.out (by assumption)))))); (case aL => have := LMc11.out; omega); intro v264 w15 ho hb hg hat; rw [← Ny263.out] at ho; have n0_ := ak_ (blk_grown (pk BK260.out) hg (Kd.R_ne HO_263000.out BK260.out (by decide))); have n1_ := ak_ (blk_grown (pk BK261.out) hg (Kd.R_ne HO_263000.out BK261.out (by decide))); have n2_ := ak_ (blk_grown (pk BK262.out) hg (Kd.R_ne HO_263000.out BK262.out (by decide))); have n3_ := ak_ (hb); have n4_ := ak_ (ho); clear BK260; clear BK261; clear BK262; clear HB; clear HO_263000; have BK260 := n0_; have BK261 := n1_; have BK262 := n2_; have HB := n3_; have HO265 := n4_; clear n0_ n1_ n2_ n3_ n4_; clear ho hb hg hat; obtain ⟨Ao16, co16, eo16⟩ := Kd.R_slice HO265.out; subst eo16; have hcz17_0 : w15.cell? ⟨gb262, 0, none⟩ = some (u263000) := (blk_cell BK262.out 0).trans rfl; have hcz17_1 : w15.cell? ⟨gb262, 1, none⟩ = some (.bool true) := (blk_cell BK262.out 1).trans rfl; have hfz17_0 := blk_frozen BK262.out 0; have hfz17_1 := blk_frozen BK262.out 1))
     go_roundg k1
     case measure => have := HK1.out; omega
     case rel => exact ⟨(wrap64 (x8_1 + 1)), (y263), (.slice Ao16 y263.length co16), (by first | rfl | (simp; done) | (simp [*]; done)), H', ⟨by have := HK1.out; omega⟩, ⟨by (with_reducible repeat (first | apply Kd.R_alloc | apply Kd.R_drewN | apply Kd.R_drew)); exact Kd.R_mono (Kd.R_far (p := ⟨gb262, 0, none⟩) (Kd.R_types HO265.out BK262.out (by decide)) (fun _ hk => hk.2) (.slice Ao16 y263.length co16)) (fun _ hk => trivial)⟩, ⟨by (with_reducible repeat (first | refine kN_ ?_ _ | refine k1_ ?_ | refine ka_ ?_ _)); refine blk_far ?_ NB260_262.out _; exact pk BK260.out⟩, ⟨by (with_reducible repeat (first | refine kN_ ?_ _ | refine k1_ ?_ | refine ka_ ?_ _)); refine blk_far ?_ NB261_262.out _; exact pk BK261.out⟩, ⟨by (with_reducible repeat (first | refine kN_ ?_ _ | refine k1_ ?_ | refine ka_ ?_ _)); refine blk_put (cs := #[u263000, .bool true]) ?_ 0 _ rfl; exact pk BK262.out⟩, ⟨by repeat (first | exact HB.out | apply ba_ | apply bN_ | apply b1_ | refine below_set ?_ (Aside0.out (by assumption)))⟩⟩
    ·
     rw [if_neg c11] at H
     exact absurd H (by simp)
   ·
    rw [if_neg c10] at H
    have c10b0 : decide (x8_1 < (l0_0.length : Int)) = false := decide_eq_false c10
    clear c10
    simp only [Option.some.injEq, Prod.mk.injEq] at H
    obtain ⟨rfl, rfl⟩ := H
    have hnb18 := NB262_260.out
    have hnc18 := NB260_262.out
    have hnb19 := NB262_261.out
    have hnc19 := NB261_262.out
    have hcz20_0 : wr.cell? ⟨gb262, 0, none⟩ = some (u263000) := (blk_cell BK262.out 0).trans rfl
    have hcz20_1 : wr.cell? ⟨gb262, 1, none⟩ = some (.bool true) := (blk_cell BK262.out 1).trans rfl
    have hfz20_0 := blk_frozen BK262.out 0
    have hfz20_1 := blk_frozen BK262.out 1
    obtain ⟨Ao21, co21, eo21⟩ := Kd.R_slice HO_263000.out
    subst eo21
    have hnb22 := NB261_260.out
    have hnc22 := NB260_261.out
    have hcz23_0 : wr.cell? ⟨gb261, 0, none⟩ = some (.slice none 0 0) := (blk_cell BK261.out 0).trans rfl
    have hcz23_1 : wr.cell? ⟨gb261, 1, none⟩ = some (.bool false) := (blk_cell BK261.out 1).trans rfl
    have hfz23_0 := blk_frozen BK261.out 0
    have hfz23_1 := blk_frozen BK261.out 1
    go_wp2
    refine bodyPost_ret (results_cell_row rfl _ _ gb261 115 #[.slice Ao21 x263000_1.length co21, .bool true] (0, 0) _ rfl (by (with_reducible repeat (first | refine kN_ ?_ _ | refine k1_ ?_ | refine ka_ ?_ _)); refine blk_put (cs := #[.slice Ao21 x263000_1.length co21, .bool false]) ?_ 1 _ rfl; (with_reducible repeat (first | refine kN_ ?_ _ | refine k1_ ?_ | refine ka_ ?_ _)); refine blk_put (cs := #[.slice none 0 0, .bool false]) ?_ 0 _ rfl; exact pk BK261.out) Try.underlying115 rfl (by kernel_rfl)) rfl ?_
    exact ⟨_, by first | rfl | (simp [errW_none, errW_some] <;> rfl) | (simp [*, errW_none, errW_some] <;> rfl), by (with_reducible repeat (first | apply Kd.R_alloc | apply Kd.R_drewN | apply Kd.R_drew)); exact Kd.R_mono (Kd.R_far (p := ⟨gb261, 1, none⟩) (Kd.R_far (p := ⟨gb261, 0, none⟩) (Kd.R_types HO_263000.out BK261.out (by decide)) (fun _ hk => hk.2) (.slice Ao21 x263000_1.length co21)) (fun _ hk => hk.2) (.bool true)) (fun _ hk => trivial), by repeat (first | exact HB.out | apply ba_ | apply bN_ | apply b1_ | refine below_set ?_ (Aside0.out (by assumption)))⟩
def spec_seLeast.f (k : Nat) (l0_0 : List Int) (a0_1 : Int) : Option (Int) := (spec_paFirst.f l0_0 a0_1).bind fun bt267 => ((spec_seFar.f k l0_0 a0_1 bt267.1 bt267.2).bind fun t271 => ((spec_paLast.f k l0_0 a0_1).bind fun bt274 => ((spec_seIndex.f k bt274.1 bt274.2).bind fun t278 => (if 0 ≤ t278 then (if t278 < (t271.length : Int) then (some (rd t271 t278)) else (none)) else (none)))))
theorem spec_seLeast.mono : ∀ a0 a1 k, LeO (spec_seLeast.f k a0 a1) (spec_seLeast.f (k + 1) a0 a1) := by
 intro a0 a1 k
 unfold spec_seLeast.f
 repeat' first
  | (with_reducible first | exact spec_paLast.mono _ _ _ | exact spec_seFar.mono _ _ _ _ _ | exact spec_seIndex.mono _ _ _ | exact LeO.refl _ | exact LeO.none _ | refine LeO.ite ?_ ?_ | refine LeO.bind ?_ (fun _ => ?_))
  | exact spec_paLast.mono _ _ _
  | exact spec_seFar.mono _ _ _ _ _
  | exact spec_seIndex.mono _ _ _
  | exact LeO.none _
  | refine LeO.ite ?_ ?_
  | refine LeO.bind ?_ (fun _ => ?_)
def spec_seLeast.T1 : Bool × List (List Nat × List Nat) := (true, [([], []), ([], []), ([1], [1]), ([0, 2, 2], [0, 2]), ([], []), ([4, 3], [4]), ([5, 5], [5]), ([3, 6], [3, 6]), ([7], [7]), ([8, 6, 0, 1, 2, 3, 4, 5, 6, 7, 8], [8])])
def spec_seLeast.B1 : List Nat := [0, 0, 2, 7, 0, 31, 63, 127, 255, 511]
theorem spec_seLeast.tab1 : rtab .any (opsOf Try.f46 1) = spec_seLeast.T1 := by kernel_rfl
theorem spec_seLeast.bits1 : waitsOk spec_seLeast.T1.2 spec_seLeast.B1 = true := by kernel_rfl
theorem spec_seLeast.calls (k : Nat) (A0_0 : Option Addr) (c0_0 : Nat) (l0_0 : List Int) (a0_1 : Int) (r : Int) (w : World) (hr0_0 : Kd.C (Kd.int .i64) w A0_0 l0_0.length l0_0) (hc0_0 : l0_0.length ≤ c0_0) (h : spec_seLeast.f k l0_0 a0_1 = some r) :
  Calls Try.prog 46 #[.agg #[.slice A0_0 l0_0.length c0_0, .int .i64 a0_1]] w fun e w' => e = .returned (.int .i64 r) ∧ Below w.heap.size w w' := by
 have hu34 := Try.underlying34
 have HR0_0 := ak_ hr0_0
 have HC0_0 := ak_ hc0_0
 clear hr0_0 hc0_0
 have HB := ak_ (Below.refl w.heap.size w)
 have H : ((spec_paFirst.f l0_0 a0_1).bind fun bt267 => ((spec_seFar.f k l0_0 a0_1 bt267.1 bt267.2).bind fun t271 => ((spec_paLast.f k l0_0 a0_1).bind fun bt274 => ((spec_seIndex.f k bt274.1 bt274.2).bind fun t278 => (if 0 ≤ t278 then (if t278 < (t271.length : Int) then (some (rd t271 t278)) else (none)) else (none)))))) = some r := h
 clear h
 replace H := Option.bind_eq_some_iff.mp H
 obtain ⟨⟨t267, t270⟩, A20, H⟩ := H
 replace H : ((spec_seFar.f k l0_0 a0_1 t267 t270).bind fun t271 => ((spec_paLast.f k l0_0 a0_1).bind fun bt274 => ((spec_seIndex.f k bt274.1 bt274.2).bind fun t278 => (if 0 ≤ t278 then (if t278 < (t271.length : Int) then (some (rd t271 t278)) else (none)) else (none))))) = some r := H
 have A2 := ak_ A20
 clear A20
 replace H := Option.bind_eq_some_iff.mp H
 obtain ⟨t271, A30, H⟩ := H
 replace H : ((spec_paLast.f k l0_0 a0_1).bind fun bt274 => ((spec_seIndex.f k bt274.1 bt274.2).bind fun t278 => (if 0 ≤ t278 then (if t278 < (t271.length : Int) then (some (rd t271 t278)) else (none)) else (none)))) = some r := H
 have A3 := ak_ A30
 clear A30
 replace H := Option.bind_eq_some_iff.mp H
 obtain ⟨⟨t274, t277⟩, A40, H⟩ := H
 replace H : ((spec_seIndex.f k t274 t277).bind fun t278 => (if 0 ≤ t278 then (if t278 < (t271.length : Int) then (some (rd t271 t278)) else (none)) else (none))) = some r := H
 have A4 := ak_ A40
 clear A40
 replace H := Option.bind_eq_some_iff.mp H
 obtain ⟨t278, A50, H⟩ := H
 replace H : (if 0 ≤ t278 then (if t278 < (t271.length : Int) then (some (rd t271 t278)) else (none)) else (none)) = some r := H
 have A5 := ak_ A50
 clear A50
 by_cases c6 : 0 ≤ t278
 ·
  rw [if_pos c6] at H
  have c6b0 : decide (0 ≤ t278) = true := decide_eq_true c6
  clear c6
  by_cases c7 : t278 < (t271.length : Int)
  ·
   rw [if_pos c7] at H
   have c7b0 : decide (t278 < (t271.length : Int)) = true := decide_eq_true c7
   clear c7
   obtain rfl := Option.some.inj H
   go_enter Try.func46, Try.ntmps46
   try go_wp2_with (first | ((with_reducible refine gate_dst (N := 1) rfl ?_); refine box_event ?hg (N := 1) ?hd (cs := #[.slice A0_0 l0_0.length c0_0, .int .i64 a0_1]) (t := 34) ?hr ?_; (case hd => rfl); (case hg => rfl); (case hr => go_simp <;> rfl); intro gb266 hg w8 hbox hb; have n0_ := ak_ (bs_ (bb_ HB.out) hb); have n1_ := ak_ (hbox); have n2_ := ak_ ((by rw [hg]; exact (bz_ (bb_ HB.out)) : w.heap.size ≤ gb266)); have n3_ := n2_; clear HB; have HB := n0_; have BK266 := n1_; have GW266 := n2_; have GE266 := n3_; clear n0_ n1_ n2_ n3_; clear hb hbox hg))
   have n0_ := ak_ (k1_ BK266.out)
   have n1_ := ak_ (b1_ HB.out)
   clear BK266 HB
   have BK266 := n0_; have HB := n1_
   clear n0_ n1_
   refine start_ (n := 10) (S := fun w' => w'.cell? ⟨gb266, 0, none⟩ = some (.slice A0_0 l0_0.length c0_0) ∧ w'.cell? ⟨gb266, 1, none⟩ = some (.int .i64 a0_1)) (ds := []) (mb_ 10 0) (by kernel_rfl) rfl rfl ⟨(blk_cell BK266.out 0).trans rfl, (blk_cell BK266.out 1).trans rfl⟩ (fun hHeld => ?_); refine with_tabW spec_seLeast.tab1 spec_seLeast.bits1 (fun HT_ HW_ => ?_)
   generalize w8.drew = w9 at BK266 HB hHeld ⊢
   refine take_ (i := 0) (N := some 3) (v := ?_) (a' := ?_) (mb_ 10 1) rfl rfl (take_ofW HT_.out HW_.out (by kernel_rfl)) (fun _ _ _ h => h) (Or.inl ⟨by rfl, ?_⟩) hHeld ?_ ?_
   rotate_left
   ·
    rintro w' ⟨s0, s1⟩
    go_simp
    with_reducible rfl
   rotate_left
   ·
    simp only [Act.put, setIfInBounds_toArray, set_cons_zero, set_cons_succ, i64_w, i32_w]
    rfl
   refine take_ (i := 1) (N := some 4) (v := ?_) (a' := ?_) (mb_ 10 3) rfl rfl (take_ofW HT_.out HW_.out (by kernel_rfl)) (fun _ _ _ h => h) (Or.inl ⟨by rfl, ?_⟩) hHeld ?_ ?_
   rotate_left
   ·
    rintro w' ⟨s0, s1⟩
    go_simp
    with_reducible rfl
   rotate_left
   ·
    simp only [Act.put, setIfInBounds_toArray, set_cons_zero, set_cons_succ, i64_w, i32_w]
    rfl
   refine take_ (i := 4) (N := some 7) (v := ?_) (a' := ?_) (mb_ 10 19) rfl rfl (take_ofW HT_.out HW_.out (by kernel_rfl)) (fun _ _ _ h => h) (Or.inl ⟨by rfl, ?_⟩) hHeld ?_ ?_
   rotate_left
   ·
    rintro w' ⟨s0, s1⟩
    go_simp
    with_reducible rfl
   rotate_left
   ·
    simp only [Act.put, setIfInBounds_toArray, set_cons_zero, set_cons_succ, i64_w, i32_w]
    rfl
   refine one_ (i := 2) (N := some 5) (mb_ 10 23) rfl rfl (one_of HT_.out (by kernel_rfl)) (by decide) (fun K hK => ?_)
   refine goes_ Try.func90 (by kernel_rfl) rfl #[.agg #[.slice A0_0 l0_0.length c0_0, .int .i64 a0_1]] (by rfl) rfl rfl (by first | rfl | (simp only [map_toArray, map_cons, map_nil]; try rfl)) ?_
   with_reducible refine (spec_paFirst.calls _ _ l0_0 a0_1 t267 t270 _ ?side1 ?side2 A2.out).mono ?_
   (case side1 => repeat (first | exact (Kd.C_below HR0_0.out HB.out) | (with_reducible refine Kd.C_alloc ?_ _) | (with_reducible refine Kd.C_drewN ?_ _) | (with_reducible refine Kd.C_drew ?_)))
   (case side2 => exact HC0_0.out)
   rintro e w10 ⟨v268, rfl, ho0, hb⟩
   refine ⟨_, rfl, ?_⟩
   have n0_ := ak_ (Kd.R_lower ho0 (bz_ (by repeat (first | exact HB.out | apply ba_ | apply bN_ | apply b1_ | refine below_set ?_ GE266.out))))
   have n1_ := ak_ (blk_below (pk BK266.out) hb)
   have n2_ := ak_ (bs_ (by repeat (first | exact HB.out | apply ba_ | apply bN_ | apply b1_ | refine below_set ?_ GE266.out)) hb)
   clear BK266 HB
   have HO269 := n0_; have BK266 := n1_; have HB := n2_
   clear n0_ n1_ n2_
   (try clear hb)
   (try clear hb2)
   (try clear hk)
   (try clear hi)
   (try clear ho0)
   obtain ⟨Ao11, co11, eo11⟩ := Kd.R_slice HO269.out
   (first | subst eo11 | (injection eo11 with f1_ f2_ f3_; have f4_ := f1_.symm; have f5_ := f3_.symm; clear f1_ f2_ f3_; subst f4_; subst f5_))
   refine hK.out _ _ ⟨(blk_cell BK266.out 0).trans rfl, (blk_cell BK266.out 1).trans rfl⟩ (fun hHeld => ?_)
   clear hK K
   refine norm_ (a' := ?_) ?_ ?_
   rotate_left
   ·
    show Act.put _ (some 5) _ = _
    simp only [Act.put, setIfInBounds_toArray, set_cons_zero, set_cons_succ, i64_w, i32_w]
    rfl
   refine one_ (i := 3) (N := some 6) (mb_ 10 31) rfl rfl (one_of HT_.out (by kernel_rfl)) (by decide) (fun K hK => ?_)
   refine goes_ Try.func89 (by kernel_rfl) rfl #[.agg #[.slice A0_0 l0_0.length c0_0, .int .i64 a0_1], .agg #[.slice Ao11 t267.length co11, .bool t270]] (by rfl) rfl rfl (by first | rfl | (simp only [map_toArray, map_cons, map_nil]; try rfl)) ?_
   with_reducible refine (spec_seFar.calls k _ _ l0_0 a0_1 _ _ t267 t270 t271 _ ?side1 ?side2 ?side3 ?side4 A3.out).mono ?_
   (case side1 => repeat (first | exact (Kd.C_below HR0_0.out HB.out) | (with_reducible refine Kd.C_alloc ?_ _) | (with_reducible refine Kd.C_drewN ?_ _) | (with_reducible refine Kd.C_drew ?_)))
   (case side2 => exact HC0_0.out)
   (case side3 => repeat (first | exact (Kd.R_reads' HO269.out).2.2 | (with_reducible refine Kd.C_alloc ?_ _) | (with_reducible refine Kd.C_drewN ?_ _) | (with_reducible refine Kd.C_drew ?_)))
   (case side4 => exact (Kd.R_reads' HO269.out).2.1)
   rintro e w12 ⟨v272, rfl, ho0, hb⟩
   refine ⟨_, rfl, ?_⟩
   have n0_ := ak_ (Kd.R_below (Kd.pR HO269.out) hb)
   have n1_ := ak_ (Kd.R_lower ho0 (bz_ (by repeat (first | exact HB.out | apply ba_ | apply bN_ | apply b1_ | refine below_set ?_ GE266.out))))
   have n2_ := ak_ (blk_below (pk BK266.out) hb)
   have n3_ := ak_ (bs_ (by repeat (first | exact HB.out | apply ba_ | apply bN_ | apply b1_ | refine below_set ?_ GE266.out)) hb)
   clear HO269 BK266 HB
   have HO269 := n0_; have HO273 := n1_; have BK266 := n2_; have HB := n3_
   clear n0_ n1_ n2_ n3_
   (try clear hb)
   (try clear hb2)
   (try clear hk)
   (try clear hi)
   (try clear ho0)
   refine hK.out _ _ ⟨(blk_cell BK266.out 0).trans rfl, (blk_cell BK266.out 1).trans rfl⟩ (fun hHeld => ?_)
   clear hK K
   refine norm_ (a' := ?_) ?_ ?_
   rotate_left
   ·
    show Act.put _ (some 6) _ = _
    simp only [Act.put, setIfInBounds_toArray, set_cons_zero, set_cons_succ, i64_w, i32_w]
    rfl
   refine one_ (i := 5) (N := some 8) (mb_ 10 63) rfl rfl (one_of HT_.out (by kernel_rfl)) (by decide) (fun K hK => ?_)
   refine goes_ Try.func92 (by kernel_rfl) rfl #[.agg #[.slice A0_0 l0_0.length c0_0, .int .i64 a0_1]] (by rfl) rfl rfl (by first | rfl | (simp only [map_toArray, map_cons, map_nil]; try rfl)) ?_
   with_reducible refine (spec_paLast.calls k _ _ l0_0 a0_1 t274 t277 _ ?side1 ?side2 A4.out).mono ?_
   (case side1 => repeat (first | exact (Kd.C_below HR0_0.out HB.out) | (with_reducible refine Kd.C_alloc ?_ _) | (with_reducible refine Kd.C_drewN ?_ _) | (with_reducible refine Kd.C_drew ?_)))
   (case side2 => exact HC0_0.out)
   rintro e w13 ⟨v275, rfl, ho0, hb⟩
   refine ⟨_, rfl, ?_⟩
   have n0_ := ak_ (Kd.R_elder' (Kd.pR HO269.out) (Kd.R_base ho0) hb)
   have n1_ := ak_ (Kd.R_below (Kd.pR HO273.out) hb)
   have n2_ := ak_ (Kd.R_lower (Kd.R_new' ho0 (Kd.R_lt (Kd.pR HO269.out))) (bz_ (by repeat (first | exact HB.out | apply ba_ | apply bN_ | apply b1_ | refine below_set ?_ GE266.out))))
   have n3_ := ak_ (blk_below (pk BK266.out) hb)
   have n4_ := ak_ (bs_ (by repeat (first | exact HB.out | apply ba_ | apply bN_ | apply b1_ | refine below_set ?_ GE266.out)) hb)
   clear HO269 HO273 BK266 HB
   have HO269 := n0_; have HO273 := n1_; have HO276 := n2_; have BK266 := n3_; have HB := n4_
   clear n0_ n1_ n2_ n3_ n4_
   (try clear hb)
   (try clear hb2)
   (try clear hk)
   (try clear hi)
   (try clear ho0)
   obtain ⟨Ao14, co14, eo14⟩ := Kd.R_slice HO276.out
   (first | subst eo14 | (injection eo14 with f1_ f2_ f3_; have f4_ := f1_.symm; have f5_ := f3_.symm; clear f1_ f2_ f3_; subst f4_; subst f5_))
   refine hK.out _ _ ⟨(blk_cell BK266.out 0).trans rfl, (blk_cell BK266.out 1).trans rfl⟩ (fun hHeld => ?_)
   clear hK K
   refine norm_ (a' := ?_) ?_ ?_
   rotate_left
   ·
    show Act.put _ (some 8) _ = _
    simp only [Act.put, setIfInBounds_toArray, set_cons_zero, set_cons_succ, i64_w, i32_w]
    rfl
   refine one_ (i := 6) (N := some 9) (mb_ 10 127) rfl rfl (one_of HT_.out (by kernel_rfl)) (by decide) (fun K hK => ?_)
   refine goes_ Try.func91 (by kernel_rfl) rfl #[.agg #[.slice Ao14 t274.length co14, .bool t277]] (by rfl) rfl rfl (by first | rfl | (simp only [map_toArray, map_cons, map_nil]; try rfl)) ?_
   with_reducible refine (spec_seIndex.calls k _ _ t274 t277 t278 _ ?side1 ?side2 A5.out).mono ?_
   (case side1 => repeat (first | exact (Kd.R_reads' HO276.out).2.2 | (with_reducible refine Kd.C_alloc ?_ _) | (with_reducible refine Kd.C_drewN ?_ _) | (with_reducible refine Kd.C_drew ?_)))
   (case side2 => exact (Kd.R_reads' HO276.out).2.1)
   rintro e w15 ⟨rfl, hb⟩
   refine ⟨_, rfl, ?_⟩
   have n0_ := ak_ (Kd.R_below (Kd.pR HO269.out) hb)
   have n1_ := ak_ (Kd.R_below (Kd.pR HO273.out) hb)
   have n2_ := ak_ (Kd.R_below (Kd.pR HO276.out) hb)
   have n3_ := ak_ (blk_below (pk BK266.out) hb)
   have n4_ := ak_ (bs_ (by repeat (first | exact HB.out | apply ba_ | apply bN_ | apply b1_ | refine below_set ?_ GE266.out)) hb)
   clear HO269 HO273 HO276 BK266 HB
   have HO269 := n0_; have HO273 := n1_; have HO276 := n2_; have BK266 := n3_; have HB := n4_
   clear n0_ n1_ n2_ n3_ n4_
   (try clear hb)
   (try clear hb2)
   (try clear hk)
   (try clear hi)
   obtain ⟨Ao16, co16, eo16⟩ := Kd.R_slice HO273.out
   (first | subst eo16 | (injection eo16 with f1_ f2_ f3_; have f4_ := f1_.symm; have f5_ := f3_.symm; clear f1_ f2_ f3_; subst f4_; subst f5_))
   have p279 : 0 ≤ (t278 : Int) := odt_ (by assumption)
   have q279 : t278 < (t271.length : Int) := odt_ (by assumption)
   obtain ⟨ad279, e279, hx279_0⟩ := Kd.at_int (Kd.R_reads' HO273.out).2.2 t278 p279 q279
   cases e279
   replace p279 := eq_true p279
   replace q279 := eq_true q279
   refine hK.out _ _ ⟨(blk_cell BK266.out 0).trans rfl, (blk_cell BK266.out 1).trans rfl⟩ (fun hHeld => ?_)
   clear hK K
   refine norm_ (a' := ?_) ?_ ?_
   rotate_left
   ·
    show Act.put _ (some 9) _ = _
    simp only [Act.put, setIfInBounds_toArray, set_cons_zero, set_cons_succ, i64_w, i32_w]
    rfl
   refine pure_ (i := 7) (N := some 10) (v := ?_) (a' := ?_) (mb_ 10 255) rfl rfl (any_of HT_.out (by kernel_rfl)) (fun _ _ _ h => h) (Or.inl ⟨by rfl, ?_⟩) ?_ ?_
   rotate_left
   ·
    intro w'
    go_simp
    with_reducible rfl
   rotate_left
   ·
    simp only [Act.put, setIfInBounds_toArray, set_cons_zero, set_cons_succ, i64_w, i32_w]
    rfl
   refine one_ (i := 8) (N := some 11) (mb_ 10 511) rfl rfl (one_of HT_.out (by kernel_rfl)) (by decide) (fun K hK => ?_)
   refine value_ (w1 := ?_) (v := ?_) (by rfl) rfl ?_ ?_
   rotate_left 2
   ·
    go_simp
    constructor
    ·
     rfl
    ·
     rfl
   refine hK.out _ _ ⟨(blk_cell BK266.out 0).trans rfl, (blk_cell BK266.out 1).trans rfl⟩ (fun hHeld => ?_)
   clear hK K
   refine norm_ (a' := ?_) ?_ ?_
   rotate_left
   ·
    show Act.put _ (some 11) _ = _
    simp only [Act.put, setIfInBounds_toArray, set_cons_zero, set_cons_succ, i64_w, i32_w]
    rfl
   refine pure_ (i := 9) (N := some 2) (v := ?_) (a' := ?_) (mb_ 10 1023) rfl rfl (any_of HT_.out (by kernel_rfl)) (fun _ _ _ h => h) (Or.inl ⟨by rfl, ?_⟩) ?_ ?_
   rotate_left
   ·
    intro w'
    go_simp
    with_reducible rfl
   rotate_left
   ·
    simp only [Act.put, setIfInBounds_toArray, set_cons_zero, set_cons_succ, i64_w, i32_w]
    rfl
   refine done_ (done_of HT_.out (by kernel_rfl)) ?_
   try go_wp2
   go_ret
   exact ⟨by first | rfl | (simp [errW_none, errW_some] <;> rfl) | (simp [*, errW_none, errW_some] <;> rfl), by repeat (first | exact HB.out | apply ba_ | apply bN_ | apply b1_ | refine below_set ?_ GE266.out)⟩
  ·
   rw [if_neg c7] at H
   exact absurd H (by simp)
 ·
  rw [if_neg c6] at H
  exact absurd H (by simp)
mutual
def spec_seOrder.l0 : Nat → List Int → List Int → List Int → Int → Int → Option (List Int)
 | 0, _, _, _, _, _ => none
 | k + 1, x0, x3, x8, x9, x10 => if x10 < x9 then (if 0 ≤ x10 then (if x10 < (x8.length : Int) then (if (rd x8 x10) < 0 then (spec_seOrder.l0 k x0 x3 x8 x9 (wrap64 (x10 + 1))) else (spec_seOrder.l1 k x0 x3 x10 (rd x8 x10) (x3.length : Int) x8 x9 x10)) else (none)) else (none)) else (some x3)
def spec_seOrder.l1 : Nat → List Int → List Int → Int → Int → Int → List Int → Int → Int → Option (List Int)
 | 0, _, _, _, _, _, _, _, _ => none
 | k + 1, x0, x3, x4, x5, x6, x8, x9, x10 => if x6 > 0 then (if 0 ≤ (wrap64 (x6 - 1)) then (if (wrap64 (x6 - 1)) < (x3.length : Int) then (if 0 ≤ (rd x3 (wrap64 (x6 - 1))) then (if (rd x3 (wrap64 (x6 - 1))) < (x0.length : Int) then (if x5 < (rd x0 (rd x3 (wrap64 (x6 - 1)))) then (spec_seOrder.l1 k x0 x3 x4 x5 (wrap64 (x6 - 1)) x8 x9 x10) else (if 0 ≤ x6 then (if x6 ≤ (x3.length : Int) then ((spec_l1Own.f (x3.take (x6 : Int).toNat)).bind fun t287 => (if t287.length < 17592186044416 then ((some (t287 ++ [x4] : List Int)).bind fun y290 => ((some (x3.drop (x6 : Int).toNat : List Int)).bind fun y293 => (if y290.length + y293.length < 17592186044416 then (spec_seOrder.l0 k x0 (y290 ++ y293) x8 x9 (wrap64 (x10 + 1))) else (none)))) else (none))) else (none)) else (none))) else (none)) else (none)) else (none)) else (none)) else (if 0 ≤ x6 then (if x6 ≤ (x3.length : Int) then ((spec_l1Own.f (x3.take (x6 : Int).toNat)).bind fun t304 => (if t304.length < 17592186044416 then ((some (t304 ++ [x4] : List Int)).bind fun y307 => ((some (x3.drop (x6 : Int).toNat : List Int)).bind fun y310 => (if y307.length + y310.length < 17592186044416 then (spec_seOrder.l0 k x0 (y307 ++ y310) x8 x9 (wrap64 (x10 + 1))) else (none)))) else (none))) else (none)) else (none))
end
def spec_seOrder.f (k : Nat) (l0 : List Int) : Option (List Int) := spec_seOrder.l0 k l0 ([] : List Int) l0 (l0.length : Int) 0
theorem spec_seOrder.mono_l : ∀ k, (∀ y0 y1 y2 y3 y4, LeO (spec_seOrder.l0 k y0 y1 y2 y3 y4) (spec_seOrder.l0 (k + 1) y0 y1 y2 y3 y4)) ∧ (∀ y0 y1 y2 y3 y4 y5 y6 y7, LeO (spec_seOrder.l1 k y0 y1 y2 y3 y4 y5 y6 y7) (spec_seOrder.l1 (k + 1) y0 y1 y2 y3 y4 y5 y6 y7))
 | 0 => ⟨fun _ _ _ _ _ r h => by simp [spec_seOrder.l0] at h, fun _ _ _ _ _ _ _ _ r h => by simp [spec_seOrder.l1] at h⟩
 | k + 1 => by
  obtain ⟨ih0, ih1⟩ := spec_seOrder.mono_l k
  refine ⟨?_, ?_⟩
  ·intro y0 y1 y2 y3 y4
   unfold spec_seOrder.l0
   repeat' first
   | (with_reducible first | exact ih0 _ _ _ _ _ | exact ih1 _ _ _ _ _ _ _ _ | exact LeO.refl _ | exact LeO.none _ | refine LeO.ite ?_ ?_ | refine LeO.bind ?_ (fun _ => ?_))
   | exact ih0 _ _ _ _ _
   | exact ih1 _ _ _ _ _ _ _ _
   | exact LeO.none _
   | refine LeO.ite ?_ ?_
   | refine LeO.bind ?_ (fun _ => ?_)
  ·intro y0 y1 y2 y3 y4 y5 y6 y7
   unfold spec_seOrder.l1
   repeat' first
   | (with_reducible first | exact ih0 _ _ _ _ _ | exact ih1 _ _ _ _ _ _ _ _ | exact LeO.refl _ | exact LeO.none _ | refine LeO.ite ?_ ?_ | refine LeO.bind ?_ (fun _ => ?_))
   | exact ih0 _ _ _ _ _
   | exact ih1 _ _ _ _ _ _ _ _
   | exact LeO.none _
   | refine LeO.ite ?_ ?_
   | refine LeO.bind ?_ (fun _ => ?_)
theorem spec_seOrder.mono : ∀ a0 k, LeO (spec_seOrder.f k a0) (spec_seOrder.f (k + 1) a0) := by
 intro a0 k
 obtain ⟨ih0, ih1⟩ := spec_seOrder.mono_l k
 unfold spec_seOrder.f
 repeat' first
  | (with_reducible first | exact ih0 _ _ _ _ _ | exact ih1 _ _ _ _ _ _ _ _ | exact LeO.refl _ | exact LeO.none _ | refine LeO.ite ?_ ?_ | refine LeO.bind ?_ (fun _ => ?_))
  | exact ih0 _ _ _ _ _
  | exact ih1 _ _ _ _ _ _ _ _
  | exact LeO.none _
  | refine LeO.ite ?_ ?_
  | refine LeO.bind ?_ (fun _ => ?_)
theorem spec_seOrder.calls (k : Nat) (A0 : Option Addr) (c0 : Nat) (l0 : List Int) (r : List Int) (w : World) (hr0 : Kd.C (Kd.int .i64) w A0 l0.length l0) (hc0 : l0.length ≤ c0) (h : spec_seOrder.f k l0 = some r) :
  Calls Try.prog 93 #[.slice A0 l0.length c0] w fun e w' => ∃ v0_ : Value, e = .returned (v0_) ∧ Kd.R (Kd.int .i64) 3 w' w.heap.size (fun _ => True) v0_ r ∧ Below w.heap.size w w' := by
 have HR0 := ak_ hr0
 have HC0 := ak_ hc0
 clear hr0 hc0
 have HB := ak_ (Below.refl w.heap.size w)
 have H : (spec_seOrder.l0 k l0 ([] : List Int) l0 (l0.length : Int) 0) = some r := h
 clear h
 have H' := ak_ H
 clear H
 go_enter Try.func93, Try.ntmps93
 go_wp2
 go_loopg [3, 10] k (fun kq v3 v10 w' => ∃ (x3_1 : List Int) (x10_1 : Int), v10 = .int .i64 x10_1 ∧ Aside0 (spec_seOrder.l0 kq l0 x3_1 l0 (l0.length : Int) x10_1 = some r) ∧ Aside0 (kq ≤ k) ∧ Aside0 (Kd.R (Kd.int .i64) 3 w' w.heap.size (fun _ => True) v3 x3_1) ∧ Aside0 (Below w.heap.size w w'))
 case atStart => exact ⟨(([] : List Int)), (0), (by first | rfl | (simp; done) | (simp [*]; done)), H', ⟨Nat.le_refl _⟩, ⟨by first | exact Kd.R_nil _ _ _ _ _ | exact Kd.N_nil _ _ _ _ _ | exact Kd.V_nil _ _ _ _ _ | exact Kd.Q_nil _ _ _ _ _ | exact Kd.S_nil _ _ _ _ _⟩, ⟨bb_ HB.out⟩⟩
 case round =>
  clear H'
  obtain ⟨x3_1, x10_1, rfl, HA, HK1, HO_3, HB⟩ := hrel
  cases gk with
  | zero => exact absurd HA.out (by simp [spec_seOrder.l0])
  | succ k1 =>
   have H := HA.out
   clear HA
   simp only [spec_seOrder.l0] at H
   by_cases c2 : x10_1 < (l0.length : Int)
   ·
    rw [if_pos c2] at H
    have c2b0 : decide (x10_1 < (l0.length : Int)) = true := decide_eq_true c2
    clear c2
    by_cases c3 : 0 ≤ x10_1
    ·
     rw [if_pos c3] at H
     have c3b0 : decide (0 ≤ x10_1) = true := decide_eq_true c3
     clear c3
     by_cases c4 : x10_1 < (l0.length : Int)
     ·
      rw [if_pos c4] at H
      have c4b0 : decide (x10_1 < (l0.length : Int)) = true := decide_eq_true c4
      clear c4
      by_cases c5 : (rd l0 x10_1) < 0
      ·
       rw [if_pos c5] at H
       have c5b0 : decide ((rd l0 x10_1) < 0) = true := decide_eq_true c5
       clear c5
       have H' := ak_ H
       clear H
       have p280 : 0 ≤ (x10_1 : Int) := odt_ (by assumption)
       have q280 : x10_1 < (l0.length : Int) := odt_ (by assumption)
       obtain ⟨ad280, e280, hx280_0⟩ := Kd.at_int HR0.out x10_1 p280 q280
       cases e280
       try replace hx280_0 := (HB.out.cell (World.block_lt_of_cell? w _ hx280_0)).trans hx280_0
       replace p280 := eq_true p280
       replace q280 := eq_true q280
       go_wp2
       go_roundg k1
       case measure => have := HK1.out; omega
       case rel => exact ⟨(x3_1), (wrap64 (x10_1 + 1)), (by first | rfl | (simp; done) | (simp [*]; done)), H', ⟨by have := HK1.out; omega⟩, ⟨Kd.pR HO_3.out⟩, ⟨bb_ HB.out⟩⟩
      ·
       rw [if_neg c5] at H
       have c5b0 : decide ((rd l0 x10_1) < 0) = false := decide_eq_false c5
       clear c5
       have H' := ak_ H
       clear H
       have p280 : 0 ≤ (x10_1 : Int) := odt_ (by assumption)
       have q280 : x10_1 < (l0.length : Int) := odt_ (by assumption)
       obtain ⟨ad280, e280, hx280_0⟩ := Kd.at_int HR0.out x10_1 p280 q280
       cases e280
       try replace hx280_0 := (HB.out.cell (World.block_lt_of_cell? w _ hx280_0)).trans hx280_0
       replace p280 := eq_true p280
       replace q280 := eq_true q280
       obtain ⟨Ao6, co6, eo6⟩ := Kd.R_slice HO_3.out
       subst eo6
       go_wp2
       go_loopg [6] k1 (fun kq v6 w' => ∃ (x6_2 : Int), v6 = .int .i64 x6_2 ∧ Aside0 (spec_seOrder.l1 kq l0 x3_1 x10_1 (rd l0 x10_1) x6_2 l0 (l0.length : Int) x10_1 = some r) ∧ Aside0 (kq ≤ k1) ∧ Aside0 (Kd.R (Kd.int .i64) 3 w' w.heap.size (fun _ => True) (.slice Ao6 x3_1.length co6) x3_1) ∧ Aside0 (Below w.heap.size w w'))
       case atStart => exact ⟨((x3_1.length : Int)), (by first | rfl | (simp; done) | (simp [*]; done)), H', ⟨Nat.le_refl _⟩, ⟨Kd.pR HO_3.out⟩, ⟨bb_ HB.out⟩⟩
       case round =>
        clear H'
        try clear c2
        try clear c2b0
        try clear p2
        try clear q2
        try clear hx2
        try clear c3
        try clear c3b0
        try clear c4
        try clear c4b0
        try clear c5
        try clear c5b0
        try clear p6
        try clear hx280_0
        try clear p280
        try clear q280
        obtain ⟨x6_2, rfl, HA, HK2, HO_3, HB⟩ := hrel
        cases gk with
        | zero => exact absurd HA.out (by simp [spec_seOrder.l1])
        | succ k2 =>
         have H := HA.out
         clear HA
         simp only [spec_seOrder.l1] at H
         by_cases c7 : x6_2 > 0
         ·
          rw [if_pos c7] at H
          have c7b0 : decide (0 < x6_2) = true := decide_eq_true c7
          clear c7
          obtain ⟨ji8, hji8⟩ : ∃ j_ : Int, (wrap64 (x6_2 - 1)) = j_ := ⟨_, rfl⟩
          replace H : (if 0 ≤ (ji8) then (if (ji8) < (x3_1.length : Int) then (if 0 ≤ (rd x3_1 (ji8)) then (if (rd x3_1 (ji8)) < (l0.length : Int) then (if (rd l0 x10_1) < (rd l0 (rd x3_1 (ji8))) then (spec_seOrder.l1 k2 l0 x3_1 x10_1 (rd l0 x10_1) ji8 l0 (l0.length : Int) x10_1) else (if 0 ≤ x6_2 then (if x6_2 ≤ (x3_1.length : Int) then ((spec_l1Own.f (x3_1.take (x6_2 : Int).toNat)).bind fun t287 => (if t287.length < 17592186044416 then ((some (t287 ++ [x10_1] : List Int)).bind fun y290 => ((some (x3_1.drop (x6_2 : Int).toNat : List Int)).bind fun y293 => (if y290.length + y293.length < 17592186044416 then (spec_seOrder.l0 k2 l0 (y290 ++ y293) l0 (l0.length : Int) (wrap64 (x10_1 + 1))) else (none)))) else (none))) else (none)) else (none))) else (none)) else (none)) else (none)) else (none)) = some r := by first | (rw [hji8] at H; exact H) | (simp only [hji8] at H ⊢; exact H)
          have hji8w : (IntKind.i64.wrap (x6_2 - 1)) = ji8 := (i64_w _).trans hji8
          by_cases c9 : 0 ≤ (ji8)
          ·
           rw [if_pos c9] at H
           have c9b0 : decide (0 ≤ (ji8)) = true := decide_eq_true c9
           clear c9
           by_cases c10 : (ji8) < (x3_1.length : Int)
           ·
            rw [if_pos c10] at H
            have c10b0 : decide ((ji8) < (x3_1.length : Int)) = true := decide_eq_true c10
            clear c10
            by_cases c11 : 0 ≤ (rd x3_1 (ji8))
            ·
             rw [if_pos c11] at H
             have c11b0 : decide (0 ≤ (rd x3_1 (ji8))) = true := decide_eq_true c11
             clear c11
             by_cases c12 : (rd x3_1 (ji8)) < (l0.length : Int)
             ·
              rw [if_pos c12] at H
              have c12b0 : decide ((rd x3_1 (ji8)) < (l0.length : Int)) = true := decide_eq_true c12
              clear c12
              by_cases c13 : (rd l0 x10_1) < (rd l0 (rd x3_1 (ji8)))
              ·
               rw [if_pos c13] at H
               have c13b0 : decide ((rd l0 x10_1) < (rd l0 (rd x3_1 (ji8)))) = true := decide_eq_true c13
               clear c13
               have H' := ak_ H
               clear H
               have p281 : 0 ≤ ((ji8) : Int) := odt_ (by assumption)
               have q281 : (ji8) < (x3_1.length : Int) := odt_ (by assumption)
               obtain ⟨ad281, e281, hx281_0⟩ := Kd.at_int (Kd.R_reads' HO_3.out).2.2 (ji8) p281 q281
               cases e281
               replace p281 := eq_true p281
               replace q281 := eq_true q281
               have p282 : 0 ≤ ((rd x3_1 (ji8)) : Int) := odt_ (by assumption)
               have q282 : (rd x3_1 (ji8)) < (l0.length : Int) := odt_ (by assumption)
               obtain ⟨ad282, e282, hx282_0⟩ := Kd.at_int HR0.out (rd x3_1 (ji8)) p282 q282
               obtain rfl : ad280 = ad282 := (by injection e282)
               try replace hx282_0 := (HB.out.cell (World.block_lt_of_cell? w _ hx282_0)).trans hx282_0
               replace p282 := eq_true p282
               replace q282 := eq_true q282
               go_wp2
               go_roundg k2
               case measure => have := HK1.out; have := HK2.out; omega
               case rel => exact ⟨(ji8), (by first | rfl | (simp; done) | (simp only [← hji8] <;> (first | rfl | simp)) | (simp [*]; done)), H', ⟨by have := HK1.out; have := HK2.out; omega⟩, ⟨Kd.pR HO_3.out⟩, ⟨bb_ HB.out⟩⟩
              ·
               rw [if_neg c13] at H
               have c13b0 : decide ((rd l0 x10_1) < (rd l0 (rd x3_1 (ji8)))) = false := decide_eq_false c13
               clear c13
               by_cases c14 : 0 ≤ x6_2
               ·
                rw [if_pos c14] at H
                have c14b0 := eq_true c14
                have c14b1 : decide (0 ≤ x6_2) = true := decide_eq_true c14
                clear c14
                by_cases c15 : x6_2 ≤ (x3_1.length : Int)
                ·
                 rw [if_pos c15] at H
                 have c15b0 := eq_true c15
                 have c15b1 : decide (x6_2 ≤ (x3_1.length : Int)) = true := decide_eq_true c15
                 clear c15
                 obtain ⟨y283, hy283⟩ : ∃ y_ : List Int, y_ = (x3_1.take (x6_2 : Int).toNat) := ⟨_, rfl⟩
                 replace H : ((spec_l1Own.f y283).bind fun t287 => (if t287.length < 17592186044416 then ((some (t287 ++ [x10_1] : List Int)).bind fun y290 => ((some (x3_1.drop (x6_2 : Int).toNat : List Int)).bind fun y293 => (if y290.length + y293.length < 17592186044416 then (spec_seOrder.l0 k2 l0 (y290 ++ y293) l0 (l0.length : Int) (wrap64 (x10_1 + 1))) else (none)))) else (none))) = some r := by first | (rw [hy283]; exact H) | exact H
                 have Ny283 := ak_ hy283
                 clear hy283
                 replace H := Option.bind_eq_some_iff.mp H
                 obtain ⟨t287, A160, H⟩ := H
                 replace H : (if t287.length < 17592186044416 then ((some (t287 ++ [x10_1] : List Int)).bind fun y290 => ((some (x3_1.drop (x6_2 : Int).toNat : List Int)).bind fun y293 => (if y290.length + y293.length < 17592186044416 then (spec_seOrder.l0 k2 l0 (y290 ++ y293) l0 (l0.length : Int) (wrap64 (x10_1 + 1))) else (none)))) else (none)) = some r := H
                 have A16 := ak_ A160
                 clear A160
                 by_cases c17 : t287.length < 17592186044416
                 ·
                  rw [if_pos c17] at H
                  have LMc17 := ak_ c17
                  clear c17
                  obtain ⟨y290, hy290⟩ : ∃ y_ : List Int, y_ = (t287 ++ [x10_1]) := ⟨_, rfl⟩
                  replace H : ((some (x3_1.drop (x6_2 : Int).toNat : List Int)).bind fun y293 => (if y290.length + y293.length < 17592186044416 then (spec_seOrder.l0 k2 l0 (y290 ++ y293) l0 (l0.length : Int) (wrap64 (x10_1 + 1))) else (none))) = some r := by first | (rw [hy290]; exact H) | exact H
                  have Ny290 := ak_ hy290
                  clear hy290
                  have c18b0 := eq_true (odt_ (by assumption) : 0 ≤ x6_2)
                  have c19b0 := eq_true (odt_ (by assumption) : x6_2 ≤ (x3_1.length : Int))
                  obtain ⟨y293, hy293⟩ : ∃ y_ : List Int, y_ = (x3_1.drop (x6_2 : Int).toNat) := ⟨_, rfl⟩
                  replace H : (if y290.length + y293.length < 17592186044416 then (spec_seOrder.l0 k2 l0 (y290 ++ y293) l0 (l0.length : Int) (wrap64 (x10_1 + 1))) else (none)) = some r := by first | (rw [hy293]; exact H) | exact H
                  have Ny293 := ak_ hy293
                  clear hy293
                  by_cases c20 : y290.length + y293.length < 17592186044416
                  ·
                   rw [if_pos c20] at H
                   have LMc20 := ak_ c20
                   clear c20
                   obtain ⟨y297, hy297⟩ : ∃ y_ : List Int, y_ = (y290 ++ y293) := ⟨_, rfl⟩
                   replace H : (spec_seOrder.l0 k2 l0 y297 l0 (l0.length : Int) (wrap64 (x10_1 + 1))) = some r := by first | (rw [hy297]; exact H) | exact H
                   have Ny297 := ak_ hy297
                   clear hy297
                   have H' := ak_ H
                   clear H
                   have p281 : 0 ≤ ((ji8) : Int) := odt_ (by assumption)
                   have q281 : (ji8) < (x3_1.length : Int) := odt_ (by assumption)
                   obtain ⟨ad281, e281, hx281_0⟩ := Kd.at_int (Kd.R_reads' HO_3.out).2.2 (ji8) p281 q281
                   cases e281
                   replace p281 := eq_true p281
                   replace q281 := eq_true q281
                   have p282 : 0 ≤ ((rd x3_1 (ji8)) : Int) := odt_ (by assumption)
                   have q282 : (rd x3_1 (ji8)) < (l0.length : Int) := odt_ (by assumption)
                   obtain ⟨ad282, e282, hx282_0⟩ := Kd.at_int HR0.out (rd x3_1 (ji8)) p282 q282
                   obtain rfl : ad280 = ad282 := (by injection e282)
                   try replace hx282_0 := (HB.out.cell (World.block_lt_of_cell? w _ hx282_0)).trans hx282_0
                   replace p282 := eq_true p282
                   replace q282 := eq_true q282
                   have q21 : (x6_2 : Int) ≤ ((x3_1.length : Int) : Int) := odt_ (by assumption)
                   obtain ⟨i021, hi021, _, hsz21, _⟩ := info_parts info3
                   have hroom21 : x3_1.length ≤ co6 := (Kd.R_reads' HO_3.out).2.1
                   have hC21 : Kd.C (Kd.int .i64) _ (some ad281) x3_1.length x3_1 := (Kd.R_reads' HO_3.out).2.2
                   have hcut21 := cut_to (P := Try.prog) 29 3 .i64 Try.underlying29 hi021 (some ad281) x3_1.length co6 x6_2 (odt_ (by assumption)) q21 hroom21
                   have hr21 := Kd.C_take (m := (x6_2 : Int).toNat) hC21 (by omega)
                   have hy21 : y283.length = (x6_2 : Int).toNat := (by rw [Ny283.out, List.length_take]; omega)
                   rw [← Ny283.out] at hr21
                   rw [← hy21] at hcut21
                   have HR286 := ak_ hr21
                   have HC286 := ak_ (show y283.length ≤ co6 from by omega)
                   clear hr21 hC21 hroom21 hi021 hsz21
                   have KY21 := ak_ hy21
                   clear hy21
                   have KL21 := ak_ (show (x6_2 : Int).toNat ≤ x3_1.length from by omega)
                   replace q21 := eq_true q21
                   go_wp2_with (first | ((with_reducible refine gate_callee (f := 130) rfl ?_); refine goesL_ (some 38) rfl rfl Try.func130 (by kernel_rfl) rfl #[.slice (some ad281) y283.length co6] rfl (by first | rfl | (simp only [map_toArray, map_cons, map_nil]; try rfl)) ?_; (with_reducible refine (spec_l1Own.calls _ _ y283 t287 _ ?side1 ?side2 A16.out).mono ?_); (case side1 => repeat (first | exact (by repeat (first | (with_reducible exact HR286.out) | (with_reducible refine Kd.C_alloc ?_ _) | (with_reducible refine Kd.C_drewN ?_ _) | (with_reducible refine Kd.C_drew ?_) | exact HR286.out)) | (with_reducible refine Kd.C_alloc ?_ _) | (with_reducible refine Kd.C_drewN ?_ _) | (with_reducible refine Kd.C_drew ?_))); (case side2 => exact HC286.out); rintro e w22 ⟨v288, rfl, ho0, hb⟩; refine ⟨_, rfl, ?_⟩; have n0_ := ak_ (Kd.R_elder' (Kd.pR HO_3.out) (Kd.R_base ho0) hb); have n1_ := ak_ (Kd.R_lower (Kd.R_new' ho0 (Kd.R_lt (Kd.pR HO_3.out))) (bz_ (bb_ HB.out))); have n2_ := ak_ (Kd.C_below (by repeat (first | (with_reducible exact HR286.out) | (with_reducible refine Kd.C_alloc ?_ _) | (with_reducible refine Kd.C_drewN ?_ _) | (with_reducible refine Kd.C_drew ?_) | exact HR286.out)) hb); have n3_ := ak_ (bs_ (bb_ HB.out) hb); clear HO_3; clear HR286; clear HB; have HO_3 := n0_; have HO289 := n1_; have HR286 := n2_; have HB := n3_; clear n0_ n1_ n2_ n3_; (try clear hb); (try clear hb2); (try clear hk); (try clear hi); (try clear ho0)) | ((with_reducible refine gate_builtin (b := .append) (xs := #[.tmp 38, .tmp 40]) rfl ?_); at_builtin; refine Kd.R_append (Kd.int .i64) (w0 := w) w.heap.size rfl (.tmp 38) (.tmp 40) 29 3 (.int .i64 0) 8 rfl Try.underlying29 info3 rfl (by decide) (by omega) v288 t287 x10_1 [.int .i64 x10_1] (fun k_ => some k_ ≠ (.slice (some ad281) x3_1.length co6 : Value).ownBlock) (fun _ => False) rfl rfl ?aP (fun _ hk => hk.elim) ?aF ?aO ?aB ?aS ?aL ?_; (case aP => exact rfl); (case aB => exact (bb_ HB.out)); (case aF => exact (fun k_ hk => Kd.fresh' (Kd.R_lt (Kd.pR HO_3.out)) k_ hk)); (case aO => exact (by (with_reducible repeat (first | apply Kd.R_alloc | apply Kd.R_drewN | apply Kd.R_drew)); exact Kd.R_mono HO289.out (fun _ hk => hk.2))); (case aS => exact (bz_ (bb_ HB.out))); (case aL => have := LMc17.out; omega); intro v291 w23 ho hb hg hat; rw [← Ny290.out] at ho; have n0_ := ak_ (Kd.R_after (ok := (fun _ => True)) (Kd.pR HO_3.out) hg hat); have n1_ := ak_ (hb); have n2_ := ak_ ((show Kd.C (Kd.int .i64) w23 (some ad281) y283.length y283 from by rw [Ny283.out]; exact Kd.C_take (m := (x6_2 : Int).toNat) ((Kd.R_reads' (Kd.R_after (ok := (fun _ => True)) (Kd.pR HO_3.out) hg hat)).2.2) KL21.out)); have n3_ := ak_ (ho); clear HO_3; clear HB; clear HR286; clear HO289; have HO_3 := n0_; have HB := n1_; have HR286 := n2_; have HO292 := n3_; clear n0_ n1_ n2_ n3_; clear ho hb hg hat; have q24 : (x6_2 : Int) ≤ ((x3_1.length : Int) : Int) := odt_ (by assumption); obtain ⟨i024, hi024, _, hsz24, _⟩ := info_parts info3; have hroom24 : x3_1.length ≤ co6 := (Kd.R_reads' HO_3.out).2.1; have hC24 : Kd.C (Kd.int .i64) _ (some ad281) x3_1.length x3_1 := (Kd.R_reads' HO_3.out).2.2; have q024 : (0 : Int) ≤ (x6_2 : Int) := odt_ (by assumption); have hcut24 := cut_from (P := Try.prog) 29 3 .i64 Try.underlying29 hi024 1 hsz24 (some ad281) x3_1.length co6 x6_2 q024 q24; have hr24 := Kd.C_drop (m := (x6_2 : Int).toNat) (c := co6) hC24 (by omega) hroom24; obtain ⟨A24, hA24⟩ : ∃ A1, A1 = (if co6 = (x6_2 : Int).toNat then (some ad281) else ((some ad281) : Option Addr).map (·.add ((x6_2 : Int).toNat * 1))) := ⟨_, rfl⟩; obtain ⟨c24, hc24⟩ : ∃ c1, c1 = co6 - (x6_2 : Int).toNat := ⟨_, rfl⟩; have hy24 : y293.length = x3_1.length - (x6_2 : Int).toNat := (by rw [Ny293.out, List.length_drop] <;> omega); rw [show (x3_1).drop (x6_2 : Int).toNat = y293 from Ny293.out.symm] at hr24; replace hr24 : Kd.C (Kd.int .i64) _ A24 y293.length y293 := (by rw [hA24]; exact hr24); rw [← hy24, ← hA24, ← hc24] at hcut24; have HR296 := ak_ hr24; have HC296 := ak_ (show y293.length ≤ c24 from by rw [hy24, hc24]; exact Nat.sub_le_sub_right hroom24 _); clear hr24 hC24 hroom24 hi024 hsz24 hc24; have KY24 := ak_ hy24; have KA24 := ak_ hA24; clear hy24 hA24; have KL24 := ak_ (show (x6_2 : Int).toNat ≤ x3_1.length from by omega); replace q24 := eq_true q24) | ((with_reducible refine gate_builtin (b := .append) (xs := #[.tmp 42, .tmp 45]) rfl ?_); at_builtin; refine Kd.R_append_rows (Kd.int .i64) (w0 := w) w.heap.size rfl (.tmp 42) (.tmp 45) 29 3 (.int .i64 0) 8 rfl Try.underlying29 info3 rfl (by decide) (by omega) v291 y290 y293 _ _ _ (fun k_ => some k_ ≠ (.slice (some ad281) x3_1.length co6 : Value).ownBlock) (fun _ => False) rfl rfl ?aO ?aR (fun _ _ h => h) (fun _ h => h.elim) ?aF ?aB ?aS ?aL ?_; (case aR => repeat (first | exact (by repeat (first | (with_reducible exact HR296.out) | (with_reducible refine Kd.C_alloc ?_ _) | (with_reducible refine Kd.C_drewN ?_ _) | (with_reducible refine Kd.C_drew ?_) | exact HR296.out)) | (with_reducible refine Kd.C_alloc ?_ _) | (with_reducible refine Kd.C_drewN ?_ _) | (with_reducible refine Kd.C_drew ?_))); (case aB => exact (bb_ HB.out)); (case aF => exact (fun k_ hk => Kd.fresh' (Kd.R_lt (Kd.pR HO_3.out)) k_ hk)); (case aO => exact (Kd.pR HO292.out)); (case aS => exact (bz_ (bb_ HB.out))); (case aL => have := LMc20.out; omega); intro v298 w25 ho hb hg hat; rw [← Ny297.out] at ho; have n0_ := ak_ (Kd.R_after (ok := (fun _ => True)) (Kd.pR HO_3.out) hg hat); have n1_ := ak_ (hb); have n2_ := ak_ ((show Kd.C (Kd.int .i64) w25 (some ad281) y283.length y283 from by rw [Ny283.out]; exact Kd.C_take (m := (x6_2 : Int).toNat) ((Kd.R_reads' (Kd.R_after (ok := (fun _ => True)) (Kd.pR HO_3.out) hg hat)).2.2) KL21.out)); have n3_ := ak_ ((show Kd.C (Kd.int .i64) w25 A24 y293.length y293 from by rw [Ny293.out, KA24.out]; exact Kd.C_drop (m := (x6_2 : Int).toNat) (c := co6) ((Kd.R_reads' (Kd.R_after (ok := (fun _ => True)) (Kd.pR HO_3.out) hg hat)).2.2) KL24.out ((Kd.R_reads' (Kd.R_after (ok := (fun _ => True)) (Kd.pR HO_3.out) hg hat)).2.1))); have n4_ := ak_ (ho); clear HO_3; clear HB; clear HR286; clear HR296; clear HO292; have HO_3 := n0_; have HB := n1_; have HR286 := n2_; have HR296 := n3_; have HO299 := n4_; clear n0_ n1_ n2_ n3_ n4_; clear ho hb hg hat))
                   go_roundg k2
                   case measure => have := HK1.out; have := HK2.out; omega
                   case rel => exact ⟨(y297), (wrap64 (x10_1 + 1)), (by first | rfl | (simp; done) | (simp [*]; done)), H', ⟨by have := HK1.out; have := HK2.out; omega⟩, ⟨by (with_reducible repeat (first | apply Kd.R_alloc | apply Kd.R_drewN | apply Kd.R_drew)); exact Kd.R_mono HO299.out (fun _ hk => trivial)⟩, ⟨bb_ HB.out⟩⟩
                  ·
                   rw [if_neg c20] at H
                   exact absurd H (by simp)
                 ·
                  rw [if_neg c17] at H
                  exact absurd H (by simp)
                ·
                 rw [if_neg c15] at H
                 exact absurd H (by simp)
               ·
                rw [if_neg c14] at H
                exact absurd H (by simp)
             ·
              rw [if_neg c12] at H
              exact absurd H (by simp)
            ·
             rw [if_neg c11] at H
             exact absurd H (by simp)
           ·
            rw [if_neg c10] at H
            exact absurd H (by simp)
          ·
           rw [if_neg c9] at H
           exact absurd H (by simp)
         ·
          rw [if_neg c7] at H
          have c7b0 : decide (0 < x6_2) = false := decide_eq_false c7
          clear c7
          by_cases c26 : 0 ≤ x6_2
          ·
           rw [if_pos c26] at H
           have c26b0 := eq_true c26
           have c26b1 : decide (0 ≤ x6_2) = true := decide_eq_true c26
           clear c26
           by_cases c27 : x6_2 ≤ (x3_1.length : Int)
           ·
            rw [if_pos c27] at H
            have c27b0 := eq_true c27
            have c27b1 : decide (x6_2 ≤ (x3_1.length : Int)) = true := decide_eq_true c27
            clear c27
            obtain ⟨y300, hy300⟩ : ∃ y_ : List Int, y_ = (x3_1.take (x6_2 : Int).toNat) := ⟨_, rfl⟩
            replace H : ((spec_l1Own.f y300).bind fun t304 => (if t304.length < 17592186044416 then ((some (t304 ++ [x10_1] : List Int)).bind fun y307 => ((some (x3_1.drop (x6_2 : Int).toNat : List Int)).bind fun y310 => (if y307.length + y310.length < 17592186044416 then (spec_seOrder.l0 k2 l0 (y307 ++ y310) l0 (l0.length : Int) (wrap64 (x10_1 + 1))) else (none)))) else (none))) = some r := by first | (rw [hy300]; exact H) | exact H
            have Ny300 := ak_ hy300
            clear hy300
            replace H := Option.bind_eq_some_iff.mp H
            obtain ⟨t304, A280, H⟩ := H
            replace H : (if t304.length < 17592186044416 then ((some (t304 ++ [x10_1] : List Int)).bind fun y307 => ((some (x3_1.drop (x6_2 : Int).toNat : List Int)).bind fun y310 => (if y307.length + y310.length < 17592186044416 then (spec_seOrder.l0 k2 l0 (y307 ++ y310) l0 (l0.length : Int) (wrap64 (x10_1 + 1))) else (none)))) else (none)) = some r := H
            have A28 := ak_ A280
            clear A280
            by_cases c29 : t304.length < 17592186044416
            ·
             rw [if_pos c29] at H
             have LMc29 := ak_ c29
             clear c29
             obtain ⟨y307, hy307⟩ : ∃ y_ : List Int, y_ = (t304 ++ [x10_1]) := ⟨_, rfl⟩
             replace H : ((some (x3_1.drop (x6_2 : Int).toNat : List Int)).bind fun y310 => (if y307.length + y310.length < 17592186044416 then (spec_seOrder.l0 k2 l0 (y307 ++ y310) l0 (l0.length : Int) (wrap64 (x10_1 + 1))) else (none))) = some r := by first | (rw [hy307]; exact H) | exact H
             have Ny307 := ak_ hy307
             clear hy307
             have c30b0 := eq_true (odt_ (by assumption) : 0 ≤ x6_2)
             have c31b0 := eq_true (odt_ (by assumption) : x6_2 ≤ (x3_1.length : Int))
             obtain ⟨y310, hy310⟩ : ∃ y_ : List Int, y_ = (x3_1.drop (x6_2 : Int).toNat) := ⟨_, rfl⟩
             replace H : (if y307.length + y310.length < 17592186044416 then (spec_seOrder.l0 k2 l0 (y307 ++ y310) l0 (l0.length : Int) (wrap64 (x10_1 + 1))) else (none)) = some r := by first | (rw [hy310]; exact H) | exact H
             have Ny310 := ak_ hy310
             clear hy310
             by_cases c32 : y307.length + y310.length < 17592186044416
             ·
              rw [if_pos c32] at H
              have LMc32 := ak_ c32
              clear c32
              obtain ⟨y314, hy314⟩ : ∃ y_ : List Int, y_ = (y307 ++ y310) := ⟨_, rfl⟩
              replace H : (spec_seOrder.l0 k2 l0 y314 l0 (l0.length : Int) (wrap64 (x10_1 + 1))) = some r := by first | (rw [hy314]; exact H) | exact H
              have Ny314 := ak_ hy314
              clear hy314
              have H' := ak_ H
              clear H
              have q33 : (x6_2 : Int) ≤ ((x3_1.length : Int) : Int) := odt_ (by assumption)
              obtain ⟨i033, hi033, _, hsz33, _⟩ := info_parts info3
              have hroom33 : x3_1.length ≤ co6 := (Kd.R_reads' HO_3.out).2.1
              have hC33 : Kd.C (Kd.int .i64) _ Ao6 x3_1.length x3_1 := (Kd.R_reads' HO_3.out).2.2
              have hcut33 := cut_to (P := Try.prog) 29 3 .i64 Try.underlying29 hi033 Ao6 x3_1.length co6 x6_2 (odt_ (by assumption)) q33 hroom33
              have hr33 := Kd.C_take (m := (x6_2 : Int).toNat) hC33 (by omega)
              have hy33 : y300.length = (x6_2 : Int).toNat := (by rw [Ny300.out, List.length_take]; omega)
              rw [← Ny300.out] at hr33
              rw [← hy33] at hcut33
              have HR303 := ak_ hr33
              have HC303 := ak_ (show y300.length ≤ co6 from by omega)
              clear hr33 hC33 hroom33 hi033 hsz33
              have KY33 := ak_ hy33
              clear hy33
              have KL33 := ak_ (show (x6_2 : Int).toNat ≤ x3_1.length from by omega)
              replace q33 := eq_true q33
              go_wp2_with (first | ((with_reducible refine gate_callee (f := 130) rfl ?_); refine goesL_ (some 38) rfl rfl Try.func130 (by kernel_rfl) rfl #[.slice Ao6 y300.length co6] rfl (by first | rfl | (simp only [map_toArray, map_cons, map_nil]; try rfl)) ?_; (with_reducible refine (spec_l1Own.calls _ _ y300 t304 _ ?side1 ?side2 A28.out).mono ?_); (case side1 => repeat (first | exact (by repeat (first | (with_reducible exact HR303.out) | (with_reducible refine Kd.C_alloc ?_ _) | (with_reducible refine Kd.C_drewN ?_ _) | (with_reducible refine Kd.C_drew ?_) | exact HR303.out)) | (with_reducible refine Kd.C_alloc ?_ _) | (with_reducible refine Kd.C_drewN ?_ _) | (with_reducible refine Kd.C_drew ?_))); (case side2 => exact HC303.out); rintro e w34 ⟨v305, rfl, ho0, hb⟩; refine ⟨_, rfl, ?_⟩; have n0_ := ak_ (Kd.R_elder' (Kd.pR HO_3.out) (Kd.R_base ho0) hb); have n1_ := ak_ (Kd.R_lower (Kd.R_new' ho0 (Kd.R_lt (Kd.pR HO_3.out))) (bz_ (bb_ HB.out))); have n2_ := ak_ (Kd.C_below (by repeat (first | (with_reducible exact HR303.out) | (with_reducible refine Kd.C_alloc ?_ _) | (with_reducible refine Kd.C_drewN ?_ _) | (with_reducible refine Kd.C_drew ?_) | exact HR303.out)) hb); have n3_ := ak_ (bs_ (bb_ HB.out) hb); clear HO_3; clear HR303; clear HB; have HO_3 := n0_; have HO306 := n1_; have HR303 := n2_; have HB := n3_; clear n0_ n1_ n2_ n3_; (try clear hb); (try clear hb2); (try clear hk); (try clear hi); (try clear ho0)) | ((with_reducible refine gate_builtin (b := .append) (xs := #[.tmp 38, .tmp 40]) rfl ?_); at_builtin; refine Kd.R_append (Kd.int .i64) (w0 := w) w.heap.size rfl (.tmp 38) (.tmp 40) 29 3 (.int .i64 0) 8 rfl Try.underlying29 info3 rfl (by decide) (by omega) v305 t304 x10_1 [.int .i64 x10_1] (fun k_ => some k_ ≠ (.slice Ao6 x3_1.length co6 : Value).ownBlock) (fun _ => False) rfl rfl ?aP (fun _ hk => hk.elim) ?aF ?aO ?aB ?aS ?aL ?_; (case aP => exact rfl); (case aB => exact (bb_ HB.out)); (case aF => exact (fun k_ hk => Kd.fresh' (Kd.R_lt (Kd.pR HO_3.out)) k_ hk)); (case aO => exact (by (with_reducible repeat (first | apply Kd.R_alloc | apply Kd.R_drewN | apply Kd.R_drew)); exact Kd.R_mono HO306.out (fun _ hk => hk.2))); (case aS => exact (bz_ (bb_ HB.out))); (case aL => have := LMc29.out; omega); intro v308 w35 ho hb hg hat; rw [← Ny307.out] at ho; have n0_ := ak_ (Kd.R_after (ok := (fun _ => True)) (Kd.pR HO_3.out) hg hat); have n1_ := ak_ (hb); have n2_ := ak_ ((show Kd.C (Kd.int .i64) w35 Ao6 y300.length y300 from by rw [Ny300.out]; exact Kd.C_take (m := (x6_2 : Int).toNat) ((Kd.R_reads' (Kd.R_after (ok := (fun _ => True)) (Kd.pR HO_3.out) hg hat)).2.2) KL33.out)); have n3_ := ak_ (ho); clear HO_3; clear HB; clear HR303; clear HO306; have HO_3 := n0_; have HB := n1_; have HR303 := n2_; have HO309 := n3_; clear n0_ n1_ n2_ n3_; clear ho hb hg hat; have q36 : (x6_2 : Int) ≤ ((x3_1.length : Int) : Int) := odt_ (by assumption); obtain ⟨i036, hi036, _, hsz36, _⟩ := info_parts info3; have hroom36 : x3_1.length ≤ co6 := (Kd.R_reads' HO_3.out).2.1; have hC36 : Kd.C (Kd.int .i64) _ Ao6 x3_1.length x3_1 := (Kd.R_reads' HO_3.out).2.2; have q036 : (0 : Int) ≤ (x6_2 : Int) := odt_ (by assumption); have hcut36 := cut_from (P := Try.prog) 29 3 .i64 Try.underlying29 hi036 1 hsz36 Ao6 x3_1.length co6 x6_2 q036 q36; have hr36 := Kd.C_drop (m := (x6_2 : Int).toNat) (c := co6) hC36 (by omega) hroom36; obtain ⟨A36, hA36⟩ : ∃ A1, A1 = (if co6 = (x6_2 : Int).toNat then Ao6 else (Ao6 : Option Addr).map (·.add ((x6_2 : Int).toNat * 1))) := ⟨_, rfl⟩; obtain ⟨c36, hc36⟩ : ∃ c1, c1 = co6 - (x6_2 : Int).toNat := ⟨_, rfl⟩; have hy36 : y310.length = x3_1.length - (x6_2 : Int).toNat := (by rw [Ny310.out, List.length_drop] <;> omega); rw [show (x3_1).drop (x6_2 : Int).toNat = y310 from Ny310.out.symm] at hr36; replace hr36 : Kd.C (Kd.int .i64) _ A36 y310.length y310 := (by rw [hA36]; exact hr36); rw [← hy36, ← hA36, ← hc36] at hcut36; have HR313 := ak_ hr36; have HC313 := ak_ (show y310.length ≤ c36 from by rw [hy36, hc36]; exact Nat.sub_le_sub_right hroom36 _); clear hr36 hC36 hroom36 hi036 hsz36 hc36; have KY36 := ak_ hy36; have KA36 := ak_ hA36; clear hy36 hA36; have KL36 := ak_ (show (x6_2 : Int).toNat ≤ x3_1.length from by omega); replace q36 := eq_true q36) | ((with_reducible refine gate_builtin (b := .append) (xs := #[.tmp 42, .tmp 45]) rfl ?_); at_builtin; refine Kd.R_append_rows (Kd.int .i64) (w0 := w) w.heap.size rfl (.tmp 42) (.tmp 45) 29 3 (.int .i64 0) 8 rfl Try.underlying29 info3 rfl (by decide) (by omega) v308 y307 y310 _ _ _ (fun k_ => some k_ ≠ (.slice Ao6 x3_1.length co6 : Value).ownBlock) (fun _ => False) rfl rfl ?aO ?aR (fun _ _ h => h) (fun _ h => h.elim) ?aF ?aB ?aS ?aL ?_; (case aR => repeat (first | exact (by repeat (first | (with_reducible exact HR313.out) | (with_reducible refine Kd.C_alloc ?_ _) | (with_reducible refine Kd.C_drewN ?_ _) | (with_reducible refine Kd.C_drew ?_) | exact HR313.out)) | (with_reducible refine Kd.C_alloc ?_ _) | (with_reducible refine Kd.C_drewN ?_ _) | (with_reducible refine Kd.C_drew ?_))); (case aB => exact (bb_ HB.out)); (case aF => exact (fun k_ hk => Kd.fresh' (Kd.R_lt (Kd.pR HO_3.out)) k_ hk)); (case aO => exact (Kd.pR HO309.out)); (case aS => exact (bz_ (bb_ HB.out))); (case aL => have := LMc32.out; omega); intro v315 w37 ho hb hg hat; rw [← Ny314.out] at ho; have n0_ := ak_ (Kd.R_after (ok := (fun _ => True)) (Kd.pR HO_3.out) hg hat); have n1_ := ak_ (hb); have n2_ := ak_ ((show Kd.C (Kd.int .i64) w37 Ao6 y300.length y300 from by rw [Ny300.out]; exact Kd.C_take (m := (x6_2 : Int).toNat) ((Kd.R_reads' (Kd.R_after (ok := (fun _ => True)) (Kd.pR HO_3.out) hg hat)).2.2) KL33.out)); have n3_ := ak_ ((show Kd.C (Kd.int .i64) w37 A36 y310.length y310 from by rw [Ny310.out, KA36.out]; exact Kd.C_drop (m := (x6_2 : Int).toNat) (c := co6) ((Kd.R_reads' (Kd.R_after (ok := (fun _ => True)) (Kd.pR HO_3.out) hg hat)).2.2) KL36.out ((Kd.R_reads' (Kd.R_after (ok := (fun _ => True)) (Kd.pR HO_3.out) hg hat)).2.1))); have n4_ := ak_ (ho); clear HO_3; clear HB; clear HR303; clear HR313; clear HO309; have HO_3 := n0_; have HB := n1_; have HR303 := n2_; have HR313 := n3_; have HO316 := n4_; clear n0_ n1_ n2_ n3_ n4_; clear ho hb hg hat))
              go_roundg k2
              case measure => have := HK1.out; have := HK2.out; omega
              case rel => exact ⟨(y314), (wrap64 (x10_1 + 1)), (by first | rfl | (simp; done) | (simp [*]; done)), H', ⟨by have := HK1.out; have := HK2.out; omega⟩, ⟨by (with_reducible repeat (first | apply Kd.R_alloc | apply Kd.R_drewN | apply Kd.R_drew)); exact Kd.R_mono HO316.out (fun _ hk => trivial)⟩, ⟨bb_ HB.out⟩⟩
             ·
              rw [if_neg c32] at H
              exact absurd H (by simp)
            ·
             rw [if_neg c29] at H
             exact absurd H (by simp)
           ·
            rw [if_neg c27] at H
            exact absurd H (by simp)
          ·
           rw [if_neg c26] at H
           exact absurd H (by simp)
     ·
      rw [if_neg c4] at H
      exact absurd H (by simp)
    ·
     rw [if_neg c3] at H
     exact absurd H (by simp)
   ·
    rw [if_neg c2] at H
    have c2b0 : decide (x10_1 < (l0.length : Int)) = false := decide_eq_false c2
    clear c2
    obtain rfl := Option.some.inj H
    go_wp2
    go_ret
    exact ⟨_, by first | rfl | (simp [errW_none, errW_some] <;> rfl) | (simp [*, errW_none, errW_some] <;> rfl), by (with_reducible repeat (first | apply Kd.R_alloc | apply Kd.R_drewN | apply Kd.R_drew)); exact HO_3.out, bb_ HB.out⟩
end Go.Proofs.Ythkchdfkeieabaa.QGr
