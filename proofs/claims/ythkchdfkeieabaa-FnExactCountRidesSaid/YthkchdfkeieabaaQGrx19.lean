/- Contracts of functions of the given program, walked: each call returns what its Lean function says. Conditions: those that stand at each theorem. (Written by a program of this session.) -/
import Derived.Test.YthkchdfkeieabaaQGrx0
import Derived.Test.YthkchdfkeieabaaQGrx1
import Derived.Test.YthkchdfkeieabaaQGrx10
import Derived.Test.YthkchdfkeieabaaQGrx12
import Derived.Test.YthkchdfkeieabaaQGrx14
import Derived.Test.YthkchdfkeieabaaQGrx16
import Derived.Test.YthkchdfkeieabaaQGrx18
namespace Go.Proofs.Ythkchdfkeieabaa.QGr
open Go.RowKit Go.Proofs.YthkchdfkeieabaaW.PrintWords Go.Proofs.YthkchdfkeieabaaW.PrintLast Go.Proofs.YthkchdfkeieabaaW.PrintMore
open List (setIfInBounds_toArray set_cons_zero set_cons_succ map_toArray map_cons map_nil)
attribute [local go_sem] max2_int min2_int max_two min_two max_three min_three max_four min_four
set_option linter.unusedVariables false
set_option maxHeartbeats 8000000
set_option maxRecDepth 100000
set_option linter.unusedSimpArgs false
attribute [local go_sem] run_store_fn_
def impl_CountRides.f (k : Nat) (th : Int) (ds : List (List Int)) (se : Int) : Option (Int × Bool) := (impl_IsKeep.f k th ds se).bind fun b => if b = true then (impl_Keep_costs.f k th ds se).bind fun p => if p.2 = true then (coG (kpG k th ds se) (grN th.toNat) 0 p.1).bind fun r => some (r, true) else some (0, true) else some (0, false)
theorem impl_CountRides.mono : ∀ th ds se k, LeO (impl_CountRides.f k th ds se) (impl_CountRides.f (k + 1) th ds se) := fun th ds se k => LeO.bind (impl_IsKeep.mono _ _ _ _) (fun _ => LeO.ite (LeO.bind (impl_Keep_costs.mono th ds se k) (fun _ => LeO.ite (LeO.bind (coG_mono (fun s => kpG_mono k th ds se s) _ _ _) (fun _ => LeO.refl _)) (LeO.refl _))) (LeO.refl _))
theorem impl_CountRides.calls (k : Nat) (th : Int) (Ad : Option Addr) (cd0 : Nat) (ds : List (List Int)) (se : Int) (r1 : Int) (r2 : Bool) (w : World) (hkd : Kd.C (Kd.slice 3 (Kd.int .i64)) w Ad ds.length ds) (hdc : ds.length ≤ cd0) (h : impl_CountRides.f k th ds se = some (r1, r2)) :
  Calls Try.prog 26 #[.agg #[.int .i64 th, .slice Ad ds.length cd0, .int .i64 se]] w fun e w' => e = .returned (.tuple #[.int .i64 r1, .bool r2]) ∧ Below w.heap.size w w' := by
 have hu := Try.underlying52
 have hu2 := Try.underlying68
 unfold impl_CountRides.f at h
 obtain ⟨b1, h1, h⟩ := Option.bind_eq_some_iff.mp h
 have A1 := ak_ fun (W : World) (hb : Below w.heap.size w W) => impl_IsKeep.calls k th Ad cd0 ds se b1 W (Kd.C_below hkd hb) hdc h1
 have HB := ak_ (Below.refl w.heap.size w)
 cases b1
 ·rw [if_neg (by simp)] at h
  obtain ⟨rfl, rfl⟩ : (0 : Int) = r1 ∧ false = r2 := by simpa using h
  clear h h1 hkd hdc
  go_enter Try.func26, Try.ntmps26
  go_upto_region 1 with (first | ((with_reducible refine gate_dst (N := 1) rfl ?_); refine bx_ 1 #[.int .i64 th, .slice Ad ds.length cd0, .int .i64 se] 52 ?_; intro gb1 hg w1 hbox hb; have nb_ := ak_ (bs_ (bb_ HB.out) hb); have nc_ := ak_ hbox; have nd_ := ak_ ((by rw [hg]; exact (bz_ (bb_ HB.out)) : w.heap.size ≤ gb1)); clear HB hb hbox hg; have HB := nb_; have BK1 := nc_; have GE1 := nd_; clear nb_ nc_ nd_; have hz1_0 := (blk_cell BK1.out 0); have hf1_0 := (blk_frozen BK1.out 0); simp at hz1_0; have hz1_1 := (blk_cell BK1.out 1); have hf1_1 := (blk_frozen BK1.out 1); simp at hz1_1; have hz1_2 := (blk_cell BK1.out 2); have hf1_2 := (blk_frozen BK1.out 2); simp at hz1_2; skip))
  have hq0 := blk_cell BK1.out 0
  have hq1 := blk_cell BK1.out 1
  have hq2 := blk_cell BK1.out 2
  simp at hq0
  simp at hq1
  simp at hq2
  go_wp2_with (go_at_call 66; refine (A1.out _ (bb_ HB.out)).mono ?_; rintro e w8 ⟨rfl, hb⟩; clear hq0 hq1 hq2 A1; have n0_ := ak_ (blk_below (pk BK1.out) hb); have n1_ := ak_ (bs_ (bb_ HB.out) hb); clear BK1 HB hb; have BK1 := n0_; have HB := n1_; clear n0_ n1_)
  first | go_ret2 | go_ret
  exact ⟨rfl, (bb_ HB.out)⟩
 ·rw [if_pos rfl] at h
  have hth : 0 ≤ th := by
   by_cases hc : 0 ≤ th
   ·exact hc
   ·unfold impl_IsKeep.f impl_in.f at h1
    rw [if_neg hc, Option.bind_some, if_neg (by decide)] at h1
    cases k with
    | zero => simp [impl_IsKeep.j0] at h1
    | succ k => simp [impl_IsKeep.j0] at h1
  obtain ⟨⟨dist, b2⟩, h2, h⟩ := Option.bind_eq_some_iff.mp h
  have A2 := ak_ fun (W : World) (hb : Below w.heap.size w W) => impl_Keep_costs.calls k th Ad cd0 ds se dist b2 W hth (Kd.C_below hkd hb) hdc h2
  have H := ak_ h
  have HN := ak_ h1
  clear h h1 h2 hkd hdc
  go_enter Try.func26, Try.ntmps26
  go_upto_region 1 with (first | ((with_reducible refine gate_dst (N := 1) rfl ?_); refine bx_ 1 #[.int .i64 th, .slice Ad ds.length cd0, .int .i64 se] 52 ?_; intro gb1 hg w1 hbox hb; have nb_ := ak_ (bs_ (bb_ HB.out) hb); have nc_ := ak_ hbox; have nd_ := ak_ ((by rw [hg]; exact (bz_ (bb_ HB.out)) : w.heap.size ≤ gb1)); clear HB hb hbox hg; have HB := nb_; have BK1 := nc_; have GE1 := nd_; clear nb_ nc_ nd_; have hz1_0 := (blk_cell BK1.out 0); have hf1_0 := (blk_frozen BK1.out 0); simp at hz1_0; have hz1_1 := (blk_cell BK1.out 1); have hf1_1 := (blk_frozen BK1.out 1); simp at hz1_1; have hz1_2 := (blk_cell BK1.out 2); have hf1_2 := (blk_frozen BK1.out 2); simp at hz1_2; skip))
  have hq0 := blk_cell BK1.out 0
  have hq1 := blk_cell BK1.out 1
  have hq2 := blk_cell BK1.out 2
  simp at hq0
  simp at hq1
  simp at hq2
  go_upto_region 3 with (go_at_call 66; refine (A1.out _ (bb_ HB.out)).mono ?_; rintro e w8 ⟨rfl, hb⟩; clear hq0 hq1 hq2 A1; have n0_ := ak_ (blk_below (pk BK1.out) hb); have n1_ := ak_ (bs_ (bb_ HB.out) hb); clear BK1 HB hb; have BK1 := n0_; have HB := n1_; clear n0_ n1_)
  have hq0 := blk_cell BK1.out 0
  have hq1 := blk_cell BK1.out 1
  have hq2 := blk_cell BK1.out 2
  simp at hq0
  simp at hq1
  simp at hq2
  go_upto_region 4 with (first | (go_at_call 67; refine (A2.out _ (bb_ HB.out)).mono ?_; rintro e w12 ⟨fo, cb, gd, cd, rfl, hen, hga, hgo, hdi, hb⟩; have HEN := ak_ hen; have HGA := ak_ hga; have HGO := ak_ hgo; have HD := ak_ hdi; have HB12 := ak_ (Below.refl w12.heap.size w12); clear hq0 hq1 hq2 A2; have n0_ := ak_ (blk_below (pk BK1.out) hb); have n1_ := ak_ (bs_ (bb_ HB.out) hb); clear BK1 HB hb hen hga hgo hdi; have BK1 := n0_; have HB := n1_; clear n0_ n1_) | ((with_reducible refine gate_dst (N := 4) rfl ?_); refine bx_ 4 #[.int .i64 0, .nilFunc] 68 ?_; intro gb4 hg w4 hbox hb; have n0_ := ak_ (blk_below (pk BK1.out) hb); have m0_ := ak_ ((by rw [hg]; exact Nat.ne_of_lt (blk_lt (pk BK1.out)) : gb1 ≠ gb4)); have nb_ := ak_ (bs_ (bb_ HB.out) hb); have nc_ := ak_ hbox; have nd_ := ak_ ((by rw [hg]; exact (bz_ (bb_ HB.out)) : w.heap.size ≤ gb4)); have n12_ := ak_ hb; have HG12 := ak_ (by rw [hg]; exact Nat.le_refl _ : w12.heap.size ≤ gb4); clear HB HB12 hb hbox hg; have HB12 := n12_; clear n12_; clear BK1; have BK1 := n0_; have NE1_4 := m0_; have HB := nb_; have BK4 := nc_; have GE4 := nd_; clear nb_ nc_ nd_ n0_ m0_; have hz4_0 := (blk_cell BK4.out 0); have hf4_0 := (blk_frozen BK4.out 0); simp at hz4_0; have hz4_1 := (blk_cell BK4.out 1); have hf4_1 := (blk_frozen BK4.out 1); simp at hz4_1; skip))
  have B41 := ak_ (blk_put (cs' := #[.int .i64 (grN th.toNat), .func (.func fo) #[] cb]) (blk_put (cs' := #[.int .i64 (grN th.toNat), .nilFunc]) BK4.out 0 (.int .i64 (grN th.toNat)) rfl) 1 (.func (.func fo) #[] cb) rfl)
  have HB1 := ak_ (below_set (v := (.func (.func fo) #[] cb)) (j := 1) (below_set (v := (.int .i64 (grN th.toNat))) (j := 0) HB.out GE4.out) GE4.out)
  have HB2 := ak_ (below_set (v := (.func (.func fo) #[] cb)) (j := 1) (below_set (v := (.int .i64 (grN th.toNat))) (j := 0) HB12.out HG12.out) HG12.out)
  generalize (w4.setCell ⟨gb4, 0, none⟩ (.int .i64 (grN th.toNat))).setCell ⟨gb4, 1, none⟩ (.func (.func fo) #[] cb) = w5 at B41 HB1 HB2 ⊢
  clear BK4 HB HB12 hz4_0 hz4_1 hf4_0 hf4_1
  have HB := HB1; clear HB1
  have h := H.out
  cases b2
  ·rw [if_neg (by simp)] at h
   obtain ⟨rfl, rfl⟩ : (0 : Int) = r1 ∧ true = r2 := by simpa using h
   clear h H
   go_wp2
   first | go_ret2 | go_ret
   exact ⟨rfl, (bb_ HB.out)⟩
  ·rw [if_pos rfl] at h
   obtain ⟨r, h3, h⟩ := Option.bind_eq_some_iff.mp h
   obtain ⟨rfl, rfl⟩ : r = r1 ∧ true = r2 := by simpa using h
   unfold coG at h3
   rw [if_pos HGA.out] at h3
   have A3 := ak_ fun (W : World) (hb : Below w12.heap.size w12 W) => impl_graph_int_count.calls fo cb (grN th.toNat) (grE (kpG k th ds se)) w12 W HEN.out HGO.out hb 0 (some ⟨gd, 0, none⟩) cd dist r (Kd.C_below (Kd.R_reads' HD.out).2.2 hb) h3
   have hz0 := blk_cell B41.out 0
   have hz1 := blk_cell B41.out 1
   simp at hz0
   simp at hz1
   clear h h3 H
   go_wp2_with (go_at_call 43; refine (A3.out _ (by repeat (first | (with_reducible first | exact HB2.out | apply ba_ | apply bN_ | apply b1_) | exact HB2.out))).mono ?_; rintro e w20 ⟨rfl, hb⟩; have n0_ := ak_ (bs_ (bb_ HB.out) hb); clear HB HB2 hb; have HB := n0_; clear n0_)
   first | go_ret2 | go_ret
   exact ⟨rfl, (bb_ HB.out)⟩
def laws_eqIntS.l0 : Nat → List Int → List Int → Int → Option (Bool)
 | 0, _, _, _ => none
 | k + 1, x0, x1, x5 => if x5 < (x0.length : Int) then (if 0 ≤ x5 then (if x5 < (x1.length : Int) then (if (rd x0 x5) = (rd x1 x5) then (laws_eqIntS.l0 k x0 x1 (wrap64 (x5 + 1))) else (some false)) else (none)) else (none)) else (some true)
def laws_eqIntS.f (k : Nat) (l0 : List Int) (l1 : List Int) : Option (Bool) := if (l0.length : Int) = (l1.length : Int) then (laws_eqIntS.l0 k l0 l1 0) else (some false)
theorem laws_eqIntS.mono_l : ∀ k, (∀ y0 y1 y2, LeO (laws_eqIntS.l0 k y0 y1 y2) (laws_eqIntS.l0 (k + 1) y0 y1 y2))
 | 0 => fun _ _ _ r h => by simp [laws_eqIntS.l0] at h
 | k + 1 => by
  have ih0 := laws_eqIntS.mono_l k
  ·intro y0 y1 y2
   unfold laws_eqIntS.l0
   repeat' first
   | (with_reducible first | exact ih0 _ _ _ | exact LeO.refl _ | exact LeO.none _ | refine LeO.ite ?_ ?_ | refine LeO.bind ?_ (fun _ => ?_))
   | exact ih0 _ _ _
   | exact LeO.none _
   | refine LeO.ite ?_ ?_
   | refine LeO.bind ?_ (fun _ => ?_)
theorem laws_eqIntS.mono : ∀ a0 a1 k, LeO (laws_eqIntS.f k a0 a1) (laws_eqIntS.f (k + 1) a0 a1) := by
 intro a0 a1 k
 have ih0 := laws_eqIntS.mono_l k
 unfold laws_eqIntS.f
 repeat' first
  | (with_reducible first | exact ih0 _ _ _ | exact LeO.refl _ | exact LeO.none _ | refine LeO.ite ?_ ?_ | refine LeO.bind ?_ (fun _ => ?_))
  | exact ih0 _ _ _
  | exact LeO.none _
  | refine LeO.ite ?_ ?_
  | refine LeO.bind ?_ (fun _ => ?_)
theorem laws_eqIntS.calls (k : Nat) (A0 : Option Addr) (c0 : Nat) (l0 : List Int) (A1 : Option Addr) (c1 : Nat) (l1 : List Int) (r : Bool) (w : World) (hr0 : Kd.C (Kd.int .i64) w A0 l0.length l0) (hc0 : l0.length ≤ c0) (hr1 : Kd.C (Kd.int .i64) w A1 l1.length l1) (hc1 : l1.length ≤ c1) (h : laws_eqIntS.f k l0 l1 = some r) :
  Calls Try.prog 51 #[.slice A0 l0.length c0, .slice A1 l1.length c1] w fun e w' => e = .returned (.bool r) ∧ Drawn0 w w' := by
 have HR0 := ak_ hr0
 have HC0 := ak_ hc0
 clear hr0 hc0
 have HR1 := ak_ hr1
 have HC1 := ak_ hc1
 clear hr1 hc1
 have H : (if (l0.length : Int) = (l1.length : Int) then (laws_eqIntS.l0 k l0 l1 0) else (some false)) = some r := h
 clear h
 by_cases c3 : (l0.length : Int) = (l1.length : Int)
 ·
  rw [if_pos c3] at H
  have c3b0 : ((l0.length : Int) == (l1.length : Int)) = true := beq_iff_eq.mpr c3
  have c3b1 : ((l0.length : Int) != (l1.length : Int)) = false := bne_eq_false_iff_eq.mpr c3
  have c3b2 : (l0.length == l1.length) = true := by first | simpa using c3 | (simp at c3 ⊢; omega)
  clear c3
  have H' := ak_ H
  clear H
  go_enter Try.func51, Try.ntmps51
  go_wp2
  repeat (go_quiet (fail); try go_wp2)
  go_loopg [5] k (fun kq v5 w' => ∃ (x5_1 : Int), v5 = .int .i64 x5_1 ∧ Aside0 (laws_eqIntS.l0 kq l0 l1 x5_1 = some r) ∧ Aside0 (kq ≤ k) ∧ Drawn0 w w')
  case atStart => exact ⟨(0), (ry_), H', ⟨Nat.le_refl _⟩, by repeat (first | exact Drawn0.refl _ | apply Drawn0.step)⟩
  case round =>
   clear H'
   try clear c1
   try clear p2
   try clear c3
   try clear c3b0
   try clear c3b1
   try clear c3b2
   obtain ⟨x5_1, rfl, HA, HK1, ⟨m1, rfl⟩⟩ := hrel
   cases gk with
   | zero => exact absurd HA.out (by simp [laws_eqIntS.l0])
   | succ k1 =>
    have H := HA.out
    clear HA
    simp only [laws_eqIntS.l0] at H
    by_cases c4 : x5_1 < (l0.length : Int)
    ·
     rw [if_pos c4] at H
     have c4b0 : decide (x5_1 < (l0.length : Int)) = true := decide_eq_true c4
     clear c4
     by_cases c5 : 0 ≤ x5_1
     ·
      rw [if_pos c5] at H
      have c5b0 : decide (0 ≤ x5_1) = true := decide_eq_true c5
      clear c5
      by_cases c6 : x5_1 < (l1.length : Int)
      ·
       rw [if_pos c6] at H
       have c6b0 : decide (x5_1 < (l1.length : Int)) = true := decide_eq_true c6
       clear c6
       by_cases c7 : (rd l0 x5_1) = (rd l1 x5_1)
       ·
        rw [if_pos c7] at H
        have c7b0 : ((rd l0 x5_1) == (rd l1 x5_1)) = true := beq_iff_eq.mpr c7
        have c7b1 : ((rd l0 x5_1) != (rd l1 x5_1)) = false := bne_eq_false_iff_eq.mpr c7
        clear c7
        have H' := ak_ H
        clear H
        have p494 : 0 ≤ (x5_1 : Int) := odt_ (by assumption)
        have q494 : x5_1 < (l0.length : Int) := odt_ (by assumption)
        obtain ⟨ad494, e494, hx494_0⟩ := Kd.at_int HR0.out x5_1 p494 q494
        cases e494
        replace p494 := eq_true p494
        replace q494 := eq_true q494
        have p495 : 0 ≤ (x5_1 : Int) := odt_ (by assumption)
        have q495 : x5_1 < (l1.length : Int) := odt_ (by assumption)
        obtain ⟨ad495, e495, hx495_0⟩ := Kd.at_int HR1.out x5_1 p495 q495
        cases e495
        replace p495 := eq_true p495
        replace q495 := eq_true q495
        go_wp2
        repeat (go_quiet (fail); try go_wp2)
        go_roundg k1
        case measure => have := HK1.out; omega
        case rel => exact ⟨(wrap64 (x5_1 + 1)), (ry_), H', ⟨by have := HK1.out; omega⟩, by repeat (first | exact Drawn0.refl _ | apply Drawn0.step)⟩
       ·
        rw [if_neg c7] at H
        have c7b0 : ((rd l0 x5_1) == (rd l1 x5_1)) = false := beq_eq_false_iff_ne.mpr c7
        have c7b1 : ((rd l0 x5_1) != (rd l1 x5_1)) = true := bne_iff_ne.mpr c7
        obtain rfl := Option.some.inj H
        have p494 : 0 ≤ (x5_1 : Int) := odt_ (by assumption)
        have q494 : x5_1 < (l0.length : Int) := odt_ (by assumption)
        obtain ⟨ad494, e494, hx494_0⟩ := Kd.at_int HR0.out x5_1 p494 q494
        cases e494
        replace p494 := eq_true p494
        replace q494 := eq_true q494
        have p495 : 0 ≤ (x5_1 : Int) := odt_ (by assumption)
        have q495 : x5_1 < (l1.length : Int) := odt_ (by assumption)
        obtain ⟨ad495, e495, hx495_0⟩ := Kd.at_int HR1.out x5_1 p495 q495
        cases e495
        replace p495 := eq_true p495
        replace q495 := eq_true q495
        go_wp2
        repeat (go_quiet (fail); try go_wp2)
        go_ret
        exact ⟨ry_, by repeat (first | exact Drawn0.refl _ | apply Drawn0.step)⟩
      ·
       rw [if_neg c6] at H
       exact absurd H (by simp)
     ·
      rw [if_neg c5] at H
      exact absurd H (by simp)
    ·
     rw [if_neg c4] at H
     have c4b0 : decide (x5_1 < (l0.length : Int)) = false := decide_eq_false c4
     clear c4
     obtain rfl := Option.some.inj H
     go_wp2
     repeat (go_quiet (fail); try go_wp2)
     go_ret
     exact ⟨ry_, by repeat (first | exact Drawn0.refl _ | apply Drawn0.step)⟩
 ·
  rw [if_neg c3] at H
  have c3b0 : ((l0.length : Int) == (l1.length : Int)) = false := beq_eq_false_iff_ne.mpr c3
  have c3b1 : ((l0.length : Int) != (l1.length : Int)) = true := bne_iff_ne.mpr c3
  have c3b2 : (l0.length == l1.length) = false := by first | simpa using c3 | (simp at c3 ⊢; omega)
  obtain rfl := Option.some.inj H
  go_enter Try.func51, Try.ntmps51
  go_wp2
  repeat (go_quiet (fail); try go_wp2)
  go_ret
  exact ⟨ry_, by repeat (first | exact Drawn0.refl _ | apply Drawn0.step)⟩
def laws_eqIntSS.l0 : Nat → List (List Int) → List (List Int) → Int → Option (Bool)
 | 0, _, _, _ => none
 | k + 1, x0, x1, x5 => if x5 < (x0.length : Int) then (if 0 ≤ x5 then (if x5 < (x1.length : Int) then ((laws_eqIntS.f k (rd_L1 x0 x5) (rd_L1 x1 x5)).bind fun t498 => (if t498 = true then (laws_eqIntSS.l0 k x0 x1 (wrap64 (x5 + 1))) else (some false))) else (none)) else (none)) else (some true)
def laws_eqIntSS.f (k : Nat) (l0 : List (List Int)) (l1 : List (List Int)) : Option (Bool) := if (l0.length : Int) = (l1.length : Int) then (laws_eqIntSS.l0 k l0 l1 0) else (some false)
theorem laws_eqIntSS.mono_l : ∀ k, (∀ y0 y1 y2, LeO (laws_eqIntSS.l0 k y0 y1 y2) (laws_eqIntSS.l0 (k + 1) y0 y1 y2))
 | 0 => fun _ _ _ r h => by simp [laws_eqIntSS.l0] at h
 | k + 1 => by
  have ih0 := laws_eqIntSS.mono_l k
  ·intro y0 y1 y2
   unfold laws_eqIntSS.l0
   repeat' first
   | (with_reducible first | exact ih0 _ _ _ | exact laws_eqIntS.mono _ _ _ | exact LeO.refl _ | exact LeO.none _ | refine LeO.ite ?_ ?_ | refine LeO.bind ?_ (fun _ => ?_))
   | exact ih0 _ _ _
   | exact laws_eqIntS.mono _ _ _
   | exact LeO.none _
   | refine LeO.ite ?_ ?_
   | refine LeO.bind ?_ (fun _ => ?_)
theorem laws_eqIntSS.mono : ∀ a0 a1 k, LeO (laws_eqIntSS.f k a0 a1) (laws_eqIntSS.f (k + 1) a0 a1) := by
 intro a0 a1 k
 have ih0 := laws_eqIntSS.mono_l k
 unfold laws_eqIntSS.f
 repeat' first
  | (with_reducible first | exact ih0 _ _ _ | exact laws_eqIntS.mono _ _ _ | exact LeO.refl _ | exact LeO.none _ | refine LeO.ite ?_ ?_ | refine LeO.bind ?_ (fun _ => ?_))
  | exact ih0 _ _ _
  | exact laws_eqIntS.mono _ _ _
  | exact LeO.none _
  | refine LeO.ite ?_ ?_
  | refine LeO.bind ?_ (fun _ => ?_)
theorem laws_eqIntSS.calls (k : Nat) (A0 : Option Addr) (c0 : Nat) (l0 : List (List Int)) (A1 : Option Addr) (c1 : Nat) (l1 : List (List Int)) (r : Bool) (w : World) (hr0 : Kd.C (Kd.slice 3 (Kd.int .i64)) w A0 l0.length l0) (hc0 : l0.length ≤ c0) (hr1 : Kd.C (Kd.slice 3 (Kd.int .i64)) w A1 l1.length l1) (hc1 : l1.length ≤ c1) (h : laws_eqIntSS.f k l0 l1 = some r) :
  Calls Try.prog 30 #[.slice A0 l0.length c0, .slice A1 l1.length c1] w fun e w' => e = .returned (.bool r) ∧ Drawn0 w w' := by
 have HR0 := ak_ hr0
 have HC0 := ak_ hc0
 clear hr0 hc0
 have HR1 := ak_ hr1
 have HC1 := ak_ hc1
 clear hr1 hc1
 have H : (if (l0.length : Int) = (l1.length : Int) then (laws_eqIntSS.l0 k l0 l1 0) else (some false)) = some r := h
 clear h
 by_cases c3 : (l0.length : Int) = (l1.length : Int)
 ·
  rw [if_pos c3] at H
  have c3b0 : ((l0.length : Int) == (l1.length : Int)) = true := beq_iff_eq.mpr c3
  have c3b1 : ((l0.length : Int) != (l1.length : Int)) = false := bne_eq_false_iff_eq.mpr c3
  have c3b2 : (l0.length == l1.length) = true := by first | simpa using c3 | (simp at c3 ⊢; omega)
  clear c3
  have H' := ak_ H
  clear H
  go_enter Try.func30, Try.ntmps30
  go_wp2
  repeat (go_quiet (fail); try go_wp2)
  go_loopg [5] k (fun kq v5 w' => ∃ (x5_1 : Int), v5 = .int .i64 x5_1 ∧ Aside0 (laws_eqIntSS.l0 kq l0 l1 x5_1 = some r) ∧ Aside0 (kq ≤ k) ∧ Drawn0 w w')
  case atStart => exact ⟨(0), (ry_), H', ⟨Nat.le_refl _⟩, by repeat (first | exact Drawn0.refl _ | apply Drawn0.step)⟩
  case round =>
   clear H'
   try clear c1
   try clear p2
   try clear c3
   try clear c3b0
   try clear c3b1
   try clear c3b2
   obtain ⟨x5_1, rfl, HA, HK1, ⟨m1, rfl⟩⟩ := hrel
   cases gk with
   | zero => exact absurd HA.out (by simp [laws_eqIntSS.l0])
   | succ k1 =>
    have H := HA.out
    clear HA
    simp only [laws_eqIntSS.l0] at H
    by_cases c4 : x5_1 < (l0.length : Int)
    ·
     rw [if_pos c4] at H
     have c4b0 : decide (x5_1 < (l0.length : Int)) = true := decide_eq_true c4
     clear c4
     by_cases c5 : 0 ≤ x5_1
     ·
      rw [if_pos c5] at H
      have c5b0 : decide (0 ≤ x5_1) = true := decide_eq_true c5
      clear c5
      by_cases c6 : x5_1 < (l1.length : Int)
      ·
       rw [if_pos c6] at H
       have c6b0 : decide (x5_1 < (l1.length : Int)) = true := decide_eq_true c6
       clear c6
       replace H := Option.bind_eq_some_iff.mp H
       obtain ⟨t498, A70, H⟩ := H
       replace H : (if t498 = true then (laws_eqIntSS.l0 k1 l0 l1 (wrap64 (x5_1 + 1))) else (some false)) = some r := H
       have A7 := ak_ A70
       clear A70
       by_cases c8 : t498 = true
       ·
        subst c8
        have H1 : (laws_eqIntSS.l0 k1 l0 l1 (wrap64 (x5_1 + 1))) = some r := by rw [if_pos rfl] at H; exact H
        clear H
        have H := H1
        clear H1
        have H' := ak_ H
        clear H
        have p496 : 0 ≤ (x5_1 : Int) := odt_ (by assumption)
        have q496 : x5_1 < (l0.length : Int) := odt_ (by assumption)
        obtain ⟨ad496, A496_0, c496_0, e496, hx496_0, hl496_0, hi496_0⟩ := at_L1 HR0.out x5_1 p496 q496
        cases e496
        have HR496_0 := ak_ hi496_0
        have HC496_0 := ak_ hl496_0
        clear hi496_0 hl496_0
        replace p496 := eq_true p496
        replace q496 := eq_true q496
        have p497 : 0 ≤ (x5_1 : Int) := odt_ (by assumption)
        have q497 : x5_1 < (l1.length : Int) := odt_ (by assumption)
        obtain ⟨ad497, A497_0, c497_0, e497, hx497_0, hl497_0, hi497_0⟩ := at_L1 HR1.out x5_1 p497 q497
        cases e497
        have HR497_0 := ak_ hi497_0
        have HC497_0 := ak_ hl497_0
        clear hi497_0 hl497_0
        replace p497 := eq_true p497
        replace q497 := eq_true q497
        go_wp2_with (first | (go_at_call 51; (with_reducible refine (laws_eqIntS.calls k1 _ _ (rd_L1 l0 x5_1) _ _ (rd_L1 l1 x5_1) true _ ?side1 ?side2 ?side3 ?side4 A7.out).mono ?_); (case side1 => repeat (first | exact HR496_0.out | (with_reducible refine Kd.C_alloc ?_ _) | (with_reducible refine Kd.C_drewN ?_ _) | (with_reducible refine Kd.C_drew ?_))); (case side2 => exact HC496_0.out); (case side3 => repeat (first | exact HR497_0.out | (with_reducible refine Kd.C_alloc ?_ _) | (with_reducible refine Kd.C_drewN ?_ _) | (with_reducible refine Kd.C_drew ?_))); (case side4 => exact HC497_0.out); rintro e w' ⟨rfl, ⟨nd, rfl⟩⟩; (try first | exact ⟨rfl, _, World.drewN_drewN _ _ _⟩ | exact ⟨rfl, _, Eq.trans (World.drewN_drewN _ _ _) (congrArg (World.drewN _) (Nat.add_assoc _ _ _))⟩)))
        repeat (go_quiet (first | (go_at_call 51; (with_reducible refine (laws_eqIntS.calls k1 _ _ (rd_L1 l0 x5_1) _ _ (rd_L1 l1 x5_1) true _ ?side1 ?side2 ?side3 ?side4 A7.out).mono ?_); (case side1 => repeat (first | exact HR496_0.out | (with_reducible refine Kd.C_alloc ?_ _) | (with_reducible refine Kd.C_drewN ?_ _) | (with_reducible refine Kd.C_drew ?_))); (case side2 => exact HC496_0.out); (case side3 => repeat (first | exact HR497_0.out | (with_reducible refine Kd.C_alloc ?_ _) | (with_reducible refine Kd.C_drewN ?_ _) | (with_reducible refine Kd.C_drew ?_))); (case side4 => exact HC497_0.out); rintro e w' ⟨rfl, ⟨nd, rfl⟩⟩; (try first | exact ⟨rfl, _, World.drewN_drewN _ _ _⟩ | exact ⟨rfl, _, Eq.trans (World.drewN_drewN _ _ _) (congrArg (World.drewN _) (Nat.add_assoc _ _ _))⟩))); try go_wp2_with (first | (go_at_call 51; (with_reducible refine (laws_eqIntS.calls k1 _ _ (rd_L1 l0 x5_1) _ _ (rd_L1 l1 x5_1) true _ ?side1 ?side2 ?side3 ?side4 A7.out).mono ?_); (case side1 => repeat (first | exact HR496_0.out | (with_reducible refine Kd.C_alloc ?_ _) | (with_reducible refine Kd.C_drewN ?_ _) | (with_reducible refine Kd.C_drew ?_))); (case side2 => exact HC496_0.out); (case side3 => repeat (first | exact HR497_0.out | (with_reducible refine Kd.C_alloc ?_ _) | (with_reducible refine Kd.C_drewN ?_ _) | (with_reducible refine Kd.C_drew ?_))); (case side4 => exact HC497_0.out); rintro e w' ⟨rfl, ⟨nd, rfl⟩⟩; (try first | exact ⟨rfl, _, World.drewN_drewN _ _ _⟩ | exact ⟨rfl, _, Eq.trans (World.drewN_drewN _ _ _) (congrArg (World.drewN _) (Nat.add_assoc _ _ _))⟩))))
        go_roundg k1
        case measure => have := HK1.out; omega
        case rel => exact ⟨(wrap64 (x5_1 + 1)), (ry_), H', ⟨by have := HK1.out; omega⟩, by repeat (first | exact Drawn0.refl _ | apply Drawn0.step)⟩
       ·
        replace c8 := Bool.eq_false_iff.mpr c8
        subst c8
        have H1 : (some false) = some r := by rw [if_neg (show ¬ (false = true) by decide)] at H; exact H
        clear H
        have H := H1
        clear H1
        obtain rfl := Option.some.inj H
        have p496 : 0 ≤ (x5_1 : Int) := odt_ (by assumption)
        have q496 : x5_1 < (l0.length : Int) := odt_ (by assumption)
        obtain ⟨ad496, A496_0, c496_0, e496, hx496_0, hl496_0, hi496_0⟩ := at_L1 HR0.out x5_1 p496 q496
        cases e496
        have HR496_0 := ak_ hi496_0
        have HC496_0 := ak_ hl496_0
        clear hi496_0 hl496_0
        replace p496 := eq_true p496
        replace q496 := eq_true q496
        have p497 : 0 ≤ (x5_1 : Int) := odt_ (by assumption)
        have q497 : x5_1 < (l1.length : Int) := odt_ (by assumption)
        obtain ⟨ad497, A497_0, c497_0, e497, hx497_0, hl497_0, hi497_0⟩ := at_L1 HR1.out x5_1 p497 q497
        cases e497
        have HR497_0 := ak_ hi497_0
        have HC497_0 := ak_ hl497_0
        clear hi497_0 hl497_0
        replace p497 := eq_true p497
        replace q497 := eq_true q497
        go_wp2_with (first | (go_at_call 51; (with_reducible refine (laws_eqIntS.calls k1 _ _ (rd_L1 l0 x5_1) _ _ (rd_L1 l1 x5_1) false _ ?side1 ?side2 ?side3 ?side4 A7.out).mono ?_); (case side1 => repeat (first | exact HR496_0.out | (with_reducible refine Kd.C_alloc ?_ _) | (with_reducible refine Kd.C_drewN ?_ _) | (with_reducible refine Kd.C_drew ?_))); (case side2 => exact HC496_0.out); (case side3 => repeat (first | exact HR497_0.out | (with_reducible refine Kd.C_alloc ?_ _) | (with_reducible refine Kd.C_drewN ?_ _) | (with_reducible refine Kd.C_drew ?_))); (case side4 => exact HC497_0.out); rintro e w' ⟨rfl, ⟨nd, rfl⟩⟩; (try first | exact ⟨rfl, _, World.drewN_drewN _ _ _⟩ | exact ⟨rfl, _, Eq.trans (World.drewN_drewN _ _ _) (congrArg (World.drewN _) (Nat.add_assoc _ _ _))⟩)))
        repeat (go_quiet (first | (go_at_call 51; (with_reducible refine (laws_eqIntS.calls k1 _ _ (rd_L1 l0 x5_1) _ _ (rd_L1 l1 x5_1) false _ ?side1 ?side2 ?side3 ?side4 A7.out).mono ?_); (case side1 => repeat (first | exact HR496_0.out | (with_reducible refine Kd.C_alloc ?_ _) | (with_reducible refine Kd.C_drewN ?_ _) | (with_reducible refine Kd.C_drew ?_))); (case side2 => exact HC496_0.out); (case side3 => repeat (first | exact HR497_0.out | (with_reducible refine Kd.C_alloc ?_ _) | (with_reducible refine Kd.C_drewN ?_ _) | (with_reducible refine Kd.C_drew ?_))); (case side4 => exact HC497_0.out); rintro e w' ⟨rfl, ⟨nd, rfl⟩⟩; (try first | exact ⟨rfl, _, World.drewN_drewN _ _ _⟩ | exact ⟨rfl, _, Eq.trans (World.drewN_drewN _ _ _) (congrArg (World.drewN _) (Nat.add_assoc _ _ _))⟩))); try go_wp2_with (first | (go_at_call 51; (with_reducible refine (laws_eqIntS.calls k1 _ _ (rd_L1 l0 x5_1) _ _ (rd_L1 l1 x5_1) false _ ?side1 ?side2 ?side3 ?side4 A7.out).mono ?_); (case side1 => repeat (first | exact HR496_0.out | (with_reducible refine Kd.C_alloc ?_ _) | (with_reducible refine Kd.C_drewN ?_ _) | (with_reducible refine Kd.C_drew ?_))); (case side2 => exact HC496_0.out); (case side3 => repeat (first | exact HR497_0.out | (with_reducible refine Kd.C_alloc ?_ _) | (with_reducible refine Kd.C_drewN ?_ _) | (with_reducible refine Kd.C_drew ?_))); (case side4 => exact HC497_0.out); rintro e w' ⟨rfl, ⟨nd, rfl⟩⟩; (try first | exact ⟨rfl, _, World.drewN_drewN _ _ _⟩ | exact ⟨rfl, _, Eq.trans (World.drewN_drewN _ _ _) (congrArg (World.drewN _) (Nat.add_assoc _ _ _))⟩))))
        go_ret
        exact ⟨ry_, by repeat (first | exact Drawn0.refl _ | apply Drawn0.step)⟩
      ·
       rw [if_neg c6] at H
       exact absurd H (by simp)
     ·
      rw [if_neg c5] at H
      exact absurd H (by simp)
    ·
     rw [if_neg c4] at H
     have c4b0 : decide (x5_1 < (l0.length : Int)) = false := decide_eq_false c4
     clear c4
     obtain rfl := Option.some.inj H
     go_wp2
     repeat (go_quiet (fail); try go_wp2)
     go_ret
     exact ⟨ry_, by repeat (first | exact Drawn0.refl _ | apply Drawn0.step)⟩
 ·
  rw [if_neg c3] at H
  have c3b0 : ((l0.length : Int) == (l1.length : Int)) = false := beq_eq_false_iff_ne.mpr c3
  have c3b1 : ((l0.length : Int) != (l1.length : Int)) = true := bne_iff_ne.mpr c3
  have c3b2 : (l0.length == l1.length) = false := by first | simpa using c3 | (simp at c3 ⊢; omega)
  obtain rfl := Option.some.inj H
  go_enter Try.func30, Try.ntmps30
  go_wp2
  repeat (go_quiet (fail); try go_wp2)
  go_ret
  exact ⟨ry_, by repeat (first | exact Drawn0.refl _ | apply Drawn0.step)⟩
def laws_eqKeep.f (k : Nat) (a0_0 : Int) (l0_1 : List (List Int)) (a0_2 : Int) (a1_0 : Int) (l1_1 : List (List Int)) (a1_2 : Int) : Option (Bool) := if a0_0 = a1_0 then ((laws_eqIntSS.f k l0_1 l1_1).bind fun t501 => (if t501 = true then (if a0_2 = a1_2 then (some true) else (some false)) else (some false))) else (some false)
theorem laws_eqKeep.mono : ∀ a0 a1 a2 a3 a4 a5 k, LeO (laws_eqKeep.f k a0 a1 a2 a3 a4 a5) (laws_eqKeep.f (k + 1) a0 a1 a2 a3 a4 a5) := by
 intro a0 a1 a2 a3 a4 a5 k
 unfold laws_eqKeep.f
 repeat' first
  | (with_reducible first | exact laws_eqIntSS.mono _ _ _ | exact LeO.refl _ | exact LeO.none _ | refine LeO.ite ?_ ?_ | refine LeO.bind ?_ (fun _ => ?_))
  | exact laws_eqIntSS.mono _ _ _
  | exact LeO.none _
  | refine LeO.ite ?_ ?_
  | refine LeO.bind ?_ (fun _ => ?_)
theorem laws_eqKeep.calls (k : Nat) (a0_0 : Int) (A0_1 : Option Addr) (c0_1 : Nat) (l0_1 : List (List Int)) (a0_2 : Int) (a1_0 : Int) (A1_1 : Option Addr) (c1_1 : Nat) (l1_1 : List (List Int)) (a1_2 : Int) (r : Bool) (w : World) (hr0_1 : Kd.C (Kd.slice 3 (Kd.int .i64)) w A0_1 l0_1.length l0_1) (hc0_1 : l0_1.length ≤ c0_1) (hr1_1 : Kd.C (Kd.slice 3 (Kd.int .i64)) w A1_1 l1_1.length l1_1) (hc1_1 : l1_1.length ≤ c1_1) (h : laws_eqKeep.f k a0_0 l0_1 a0_2 a1_0 l1_1 a1_2 = some r) :
  Calls Try.prog 27 #[.agg #[.int .i64 a0_0, .slice A0_1 l0_1.length c0_1, .int .i64 a0_2], .agg #[.int .i64 a1_0, .slice A1_1 l1_1.length c1_1, .int .i64 a1_2]] w fun e w' => e = .returned (.bool r) ∧ Below w.heap.size w w' := by
 have hu52 := Try.underlying52
 have HR0_1 := ak_ hr0_1
 have HC0_1 := ak_ hc0_1
 clear hr0_1 hc0_1
 have HR1_1 := ak_ hr1_1
 have HC1_1 := ak_ hc1_1
 clear hr1_1 hc1_1
 have HB := ak_ (Below.refl w.heap.size w)
 have H : (if a0_0 = a1_0 then ((laws_eqIntSS.f k l0_1 l1_1).bind fun t501 => (if t501 = true then (if a0_2 = a1_2 then (some true) else (some false)) else (some false))) else (some false)) = some r := h
 clear h
 by_cases c3 : a0_0 = a1_0
 ·
  rw [if_pos c3] at H
  have c3b0 : (a0_0 == a1_0) = true := beq_iff_eq.mpr c3
  have c3b1 : (a0_0 != a1_0) = false := bne_eq_false_iff_eq.mpr c3
  clear c3
  replace H := Option.bind_eq_some_iff.mp H
  obtain ⟨t501, A40, H⟩ := H
  replace H : (if t501 = true then (if a0_2 = a1_2 then (some true) else (some false)) else (some false)) = some r := H
  have A4 := ak_ A40
  clear A40
  by_cases c5 : t501 = true
  ·
   subst c5
   have H1 : (if a0_2 = a1_2 then (some true) else (some false)) = some r := by rw [if_pos rfl] at H; exact H
   clear H
   have H := H1
   clear H1
   by_cases c6 : a0_2 = a1_2
   ·
    rw [if_pos c6] at H
    have c6b0 : (a0_2 == a1_2) = true := beq_iff_eq.mpr c6
    have c6b1 : (a0_2 != a1_2) = false := bne_eq_false_iff_eq.mpr c6
    clear c6
    obtain rfl := Option.some.inj H
    go_enter Try.func27, Try.ntmps27
    go_wp2_with (first | ((with_reducible refine gate_dst (N := 2) rfl ?_); refine bx_ 2 #[.int .i64 a0_0, .slice A0_1 l0_1.length c0_1, .int .i64 a0_2] 52 ?_; intro gb499 hg w7 hbox hb; have n0_ := ak_ (bs_ (bb_ HB.out) hb); have n1_ := ak_ (hbox); have n2_ := ak_ ((by rw [hg]; exact (bz_ (bb_ HB.out)) : w.heap.size ≤ gb499)); have n3_ := n2_; clear HB; have HB := n0_; have BK499 := n1_; have GW499 := n2_; have GE499 := n3_; clear n0_ n1_ n2_ n3_; clear hb hbox hg) | ((with_reducible refine gate_dst (N := 3) rfl ?_); refine bx_ 3 #[.int .i64 a1_0, .slice A1_1 l1_1.length c1_1, .int .i64 a1_2] 52 ?_; intro gb500 hg w8 hbox hb; have n0_ := ak_ (blk_below (pk BK499.out) hb); have n1_ := ak_ (bs_ bl_ hb); have n2_ := ak_ (hbox); have n3_ := ak_ ((by rw [hg]; exact (bz_ bl_) : w.heap.size ≤ gb500)); have n4_ := n3_; have n5_ := ak_ ((by rw [hg]; exact Nat.ne_of_lt (blk_lt (pk BK499.out)) : gb499 ≠ gb500)); have n6_ := ak_ n5_.out.symm; clear BK499; clear HB; have BK499 := n0_; have HB := n1_; have BK500 := n2_; have GW500 := n3_; have GE500 := n4_; have NB499_500 := n5_; have NB500_499 := n6_; clear n0_ n1_ n2_ n3_ n4_ n5_ n6_; clear hb hbox hg; have hnb9 := NB499_500.out; have hnc9 := NB500_499.out; have hcz10_0 : w8.cell? ⟨gb499, 0, none⟩ = some (.int .i64 a0_0) := (blk_cell BK499.out 0).trans rfl; have hcz10_1 : w8.cell? ⟨gb499, 1, none⟩ = some (.slice A0_1 l0_1.length c0_1) := (blk_cell BK499.out 1).trans rfl; have hcz10_2 : w8.cell? ⟨gb499, 2, none⟩ = some (.int .i64 a0_2) := (blk_cell BK499.out 2).trans rfl; have hfz10_0 := blk_frozen BK499.out 0; have hfz10_1 := blk_frozen BK499.out 1; have hfz10_2 := blk_frozen BK499.out 2; have hcz11_0 : w8.cell? ⟨gb500, 0, none⟩ = some (.int .i64 a1_0) := (blk_cell BK500.out 0).trans rfl; have hcz11_1 : w8.cell? ⟨gb500, 1, none⟩ = some (.slice A1_1 l1_1.length c1_1) := (blk_cell BK500.out 1).trans rfl; have hcz11_2 : w8.cell? ⟨gb500, 2, none⟩ = some (.int .i64 a1_2) := (blk_cell BK500.out 2).trans rfl; have hfz11_0 := blk_frozen BK500.out 0; have hfz11_1 := blk_frozen BK500.out 1; have hfz11_2 := blk_frozen BK500.out 2) | ((with_reducible refine gate_callee (f := 30) rfl ?_); refine goesL_ (some 14) rfl rfl Try.func30 (by kernel_rfl) rfl #[.slice A0_1 l0_1.length c0_1, .slice A1_1 l1_1.length c1_1] rfl (by first | rfl | (simp only [map_toArray, map_cons, map_nil]; try rfl)) ?_; (with_reducible refine (laws_eqIntSS.calls k _ _ l0_1 _ _ l1_1 true _ ?side1 ?side2 ?side3 ?side4 A4.out).mono ?_); (case side1 => repeat (first | exact (Kd.C_below HR0_1.out HB.out) | (with_reducible refine Kd.C_alloc ?_ _) | (with_reducible refine Kd.C_drewN ?_ _) | (with_reducible refine Kd.C_drew ?_))); (case side2 => exact HC0_1.out); (case side3 => repeat (first | exact (Kd.C_below HR1_1.out HB.out) | (with_reducible refine Kd.C_alloc ?_ _) | (with_reducible refine Kd.C_drewN ?_ _) | (with_reducible refine Kd.C_drew ?_))); (case side4 => exact HC1_1.out); rintro e w' ⟨rfl, ⟨nd, rfl⟩⟩; refine ⟨_, rfl, ?_⟩))
    go_ret
    exact ⟨rx_, by repeat (first | exact HB.out | apply ba_ | apply bN_ | apply b1_ | refine below_set ?_ (Aside0.out (by assumption)))⟩
   ·
    rw [if_neg c6] at H
    have c6b0 : (a0_2 == a1_2) = false := beq_eq_false_iff_ne.mpr c6
    have c6b1 : (a0_2 != a1_2) = true := bne_iff_ne.mpr c6
    obtain rfl := Option.some.inj H
    go_enter Try.func27, Try.ntmps27
    go_wp2_with (first | ((with_reducible refine gate_dst (N := 2) rfl ?_); refine bx_ 2 #[.int .i64 a0_0, .slice A0_1 l0_1.length c0_1, .int .i64 a0_2] 52 ?_; intro gb499 hg w12 hbox hb; have n0_ := ak_ (bs_ (bb_ HB.out) hb); have n1_ := ak_ (hbox); have n2_ := ak_ ((by rw [hg]; exact (bz_ (bb_ HB.out)) : w.heap.size ≤ gb499)); have n3_ := n2_; clear HB; have HB := n0_; have BK499 := n1_; have GW499 := n2_; have GE499 := n3_; clear n0_ n1_ n2_ n3_; clear hb hbox hg) | ((with_reducible refine gate_dst (N := 3) rfl ?_); refine bx_ 3 #[.int .i64 a1_0, .slice A1_1 l1_1.length c1_1, .int .i64 a1_2] 52 ?_; intro gb500 hg w13 hbox hb; have n0_ := ak_ (blk_below (pk BK499.out) hb); have n1_ := ak_ (bs_ bl_ hb); have n2_ := ak_ (hbox); have n3_ := ak_ ((by rw [hg]; exact (bz_ bl_) : w.heap.size ≤ gb500)); have n4_ := n3_; have n5_ := ak_ ((by rw [hg]; exact Nat.ne_of_lt (blk_lt (pk BK499.out)) : gb499 ≠ gb500)); have n6_ := ak_ n5_.out.symm; clear BK499; clear HB; have BK499 := n0_; have HB := n1_; have BK500 := n2_; have GW500 := n3_; have GE500 := n4_; have NB499_500 := n5_; have NB500_499 := n6_; clear n0_ n1_ n2_ n3_ n4_ n5_ n6_; clear hb hbox hg; have hnb14 := NB499_500.out; have hnc14 := NB500_499.out; have hcz15_0 : w13.cell? ⟨gb499, 0, none⟩ = some (.int .i64 a0_0) := (blk_cell BK499.out 0).trans rfl; have hcz15_1 : w13.cell? ⟨gb499, 1, none⟩ = some (.slice A0_1 l0_1.length c0_1) := (blk_cell BK499.out 1).trans rfl; have hcz15_2 : w13.cell? ⟨gb499, 2, none⟩ = some (.int .i64 a0_2) := (blk_cell BK499.out 2).trans rfl; have hfz15_0 := blk_frozen BK499.out 0; have hfz15_1 := blk_frozen BK499.out 1; have hfz15_2 := blk_frozen BK499.out 2; have hcz16_0 : w13.cell? ⟨gb500, 0, none⟩ = some (.int .i64 a1_0) := (blk_cell BK500.out 0).trans rfl; have hcz16_1 : w13.cell? ⟨gb500, 1, none⟩ = some (.slice A1_1 l1_1.length c1_1) := (blk_cell BK500.out 1).trans rfl; have hcz16_2 : w13.cell? ⟨gb500, 2, none⟩ = some (.int .i64 a1_2) := (blk_cell BK500.out 2).trans rfl; have hfz16_0 := blk_frozen BK500.out 0; have hfz16_1 := blk_frozen BK500.out 1; have hfz16_2 := blk_frozen BK500.out 2) | ((with_reducible refine gate_callee (f := 30) rfl ?_); refine goesL_ (some 14) rfl rfl Try.func30 (by kernel_rfl) rfl #[.slice A0_1 l0_1.length c0_1, .slice A1_1 l1_1.length c1_1] rfl (by first | rfl | (simp only [map_toArray, map_cons, map_nil]; try rfl)) ?_; (with_reducible refine (laws_eqIntSS.calls k _ _ l0_1 _ _ l1_1 true _ ?side1 ?side2 ?side3 ?side4 A4.out).mono ?_); (case side1 => repeat (first | exact (Kd.C_below HR0_1.out HB.out) | (with_reducible refine Kd.C_alloc ?_ _) | (with_reducible refine Kd.C_drewN ?_ _) | (with_reducible refine Kd.C_drew ?_))); (case side2 => exact HC0_1.out); (case side3 => repeat (first | exact (Kd.C_below HR1_1.out HB.out) | (with_reducible refine Kd.C_alloc ?_ _) | (with_reducible refine Kd.C_drewN ?_ _) | (with_reducible refine Kd.C_drew ?_))); (case side4 => exact HC1_1.out); rintro e w' ⟨rfl, ⟨nd, rfl⟩⟩; refine ⟨_, rfl, ?_⟩))
    go_ret
    exact ⟨rx_, by repeat (first | exact HB.out | apply ba_ | apply bN_ | apply b1_ | refine below_set ?_ (Aside0.out (by assumption)))⟩
  ·
   replace c5 := Bool.eq_false_iff.mpr c5
   subst c5
   have H1 : (some false) = some r := by rw [if_neg (show ¬ (false = true) by decide)] at H; exact H
   clear H
   have H := H1
   clear H1
   obtain rfl := Option.some.inj H
   go_enter Try.func27, Try.ntmps27
   go_wp2_with (first | ((with_reducible refine gate_dst (N := 2) rfl ?_); refine bx_ 2 #[.int .i64 a0_0, .slice A0_1 l0_1.length c0_1, .int .i64 a0_2] 52 ?_; intro gb499 hg w17 hbox hb; have n0_ := ak_ (bs_ (bb_ HB.out) hb); have n1_ := ak_ (hbox); have n2_ := ak_ ((by rw [hg]; exact (bz_ (bb_ HB.out)) : w.heap.size ≤ gb499)); have n3_ := n2_; clear HB; have HB := n0_; have BK499 := n1_; have GW499 := n2_; have GE499 := n3_; clear n0_ n1_ n2_ n3_; clear hb hbox hg) | ((with_reducible refine gate_dst (N := 3) rfl ?_); refine bx_ 3 #[.int .i64 a1_0, .slice A1_1 l1_1.length c1_1, .int .i64 a1_2] 52 ?_; intro gb500 hg w18 hbox hb; have n0_ := ak_ (blk_below (pk BK499.out) hb); have n1_ := ak_ (bs_ bl_ hb); have n2_ := ak_ (hbox); have n3_ := ak_ ((by rw [hg]; exact (bz_ bl_) : w.heap.size ≤ gb500)); have n4_ := n3_; have n5_ := ak_ ((by rw [hg]; exact Nat.ne_of_lt (blk_lt (pk BK499.out)) : gb499 ≠ gb500)); have n6_ := ak_ n5_.out.symm; clear BK499; clear HB; have BK499 := n0_; have HB := n1_; have BK500 := n2_; have GW500 := n3_; have GE500 := n4_; have NB499_500 := n5_; have NB500_499 := n6_; clear n0_ n1_ n2_ n3_ n4_ n5_ n6_; clear hb hbox hg; have hnb19 := NB499_500.out; have hnc19 := NB500_499.out; have hcz20_0 : w18.cell? ⟨gb499, 0, none⟩ = some (.int .i64 a0_0) := (blk_cell BK499.out 0).trans rfl; have hcz20_1 : w18.cell? ⟨gb499, 1, none⟩ = some (.slice A0_1 l0_1.length c0_1) := (blk_cell BK499.out 1).trans rfl; have hcz20_2 : w18.cell? ⟨gb499, 2, none⟩ = some (.int .i64 a0_2) := (blk_cell BK499.out 2).trans rfl; have hfz20_0 := blk_frozen BK499.out 0; have hfz20_1 := blk_frozen BK499.out 1; have hfz20_2 := blk_frozen BK499.out 2; have hcz21_0 : w18.cell? ⟨gb500, 0, none⟩ = some (.int .i64 a1_0) := (blk_cell BK500.out 0).trans rfl; have hcz21_1 : w18.cell? ⟨gb500, 1, none⟩ = some (.slice A1_1 l1_1.length c1_1) := (blk_cell BK500.out 1).trans rfl; have hcz21_2 : w18.cell? ⟨gb500, 2, none⟩ = some (.int .i64 a1_2) := (blk_cell BK500.out 2).trans rfl; have hfz21_0 := blk_frozen BK500.out 0; have hfz21_1 := blk_frozen BK500.out 1; have hfz21_2 := blk_frozen BK500.out 2) | ((with_reducible refine gate_callee (f := 30) rfl ?_); refine goesL_ (some 14) rfl rfl Try.func30 (by kernel_rfl) rfl #[.slice A0_1 l0_1.length c0_1, .slice A1_1 l1_1.length c1_1] rfl (by first | rfl | (simp only [map_toArray, map_cons, map_nil]; try rfl)) ?_; (with_reducible refine (laws_eqIntSS.calls k _ _ l0_1 _ _ l1_1 false _ ?side1 ?side2 ?side3 ?side4 A4.out).mono ?_); (case side1 => repeat (first | exact (Kd.C_below HR0_1.out HB.out) | (with_reducible refine Kd.C_alloc ?_ _) | (with_reducible refine Kd.C_drewN ?_ _) | (with_reducible refine Kd.C_drew ?_))); (case side2 => exact HC0_1.out); (case side3 => repeat (first | exact (Kd.C_below HR1_1.out HB.out) | (with_reducible refine Kd.C_alloc ?_ _) | (with_reducible refine Kd.C_drewN ?_ _) | (with_reducible refine Kd.C_drew ?_))); (case side4 => exact HC1_1.out); rintro e w' ⟨rfl, ⟨nd, rfl⟩⟩; refine ⟨_, rfl, ?_⟩))
   go_ret
   exact ⟨rx_, by repeat (first | exact HB.out | apply ba_ | apply bN_ | apply b1_ | refine below_set ?_ (Aside0.out (by assumption)))⟩
 ·
  rw [if_neg c3] at H
  have c3b0 : (a0_0 == a1_0) = false := beq_eq_false_iff_ne.mpr c3
  have c3b1 : (a0_0 != a1_0) = true := bne_iff_ne.mpr c3
  obtain rfl := Option.some.inj H
  go_enter Try.func27, Try.ntmps27
  go_wp2_with (first | ((with_reducible refine gate_dst (N := 2) rfl ?_); refine bx_ 2 #[.int .i64 a0_0, .slice A0_1 l0_1.length c0_1, .int .i64 a0_2] 52 ?_; intro gb499 hg w22 hbox hb; have n0_ := ak_ (bs_ (bb_ HB.out) hb); have n1_ := ak_ (hbox); have n2_ := ak_ ((by rw [hg]; exact (bz_ (bb_ HB.out)) : w.heap.size ≤ gb499)); have n3_ := n2_; clear HB; have HB := n0_; have BK499 := n1_; have GW499 := n2_; have GE499 := n3_; clear n0_ n1_ n2_ n3_; clear hb hbox hg) | ((with_reducible refine gate_dst (N := 3) rfl ?_); refine bx_ 3 #[.int .i64 a1_0, .slice A1_1 l1_1.length c1_1, .int .i64 a1_2] 52 ?_; intro gb500 hg w23 hbox hb; have n0_ := ak_ (blk_below (pk BK499.out) hb); have n1_ := ak_ (bs_ bl_ hb); have n2_ := ak_ (hbox); have n3_ := ak_ ((by rw [hg]; exact (bz_ bl_) : w.heap.size ≤ gb500)); have n4_ := n3_; have n5_ := ak_ ((by rw [hg]; exact Nat.ne_of_lt (blk_lt (pk BK499.out)) : gb499 ≠ gb500)); have n6_ := ak_ n5_.out.symm; clear BK499; clear HB; have BK499 := n0_; have HB := n1_; have BK500 := n2_; have GW500 := n3_; have GE500 := n4_; have NB499_500 := n5_; have NB500_499 := n6_; clear n0_ n1_ n2_ n3_ n4_ n5_ n6_; clear hb hbox hg; have hnb24 := NB499_500.out; have hnc24 := NB500_499.out; have hcz25_0 : w23.cell? ⟨gb499, 0, none⟩ = some (.int .i64 a0_0) := (blk_cell BK499.out 0).trans rfl; have hcz25_1 : w23.cell? ⟨gb499, 1, none⟩ = some (.slice A0_1 l0_1.length c0_1) := (blk_cell BK499.out 1).trans rfl; have hcz25_2 : w23.cell? ⟨gb499, 2, none⟩ = some (.int .i64 a0_2) := (blk_cell BK499.out 2).trans rfl; have hfz25_0 := blk_frozen BK499.out 0; have hfz25_1 := blk_frozen BK499.out 1; have hfz25_2 := blk_frozen BK499.out 2; have hcz26_0 : w23.cell? ⟨gb500, 0, none⟩ = some (.int .i64 a1_0) := (blk_cell BK500.out 0).trans rfl; have hcz26_1 : w23.cell? ⟨gb500, 1, none⟩ = some (.slice A1_1 l1_1.length c1_1) := (blk_cell BK500.out 1).trans rfl; have hcz26_2 : w23.cell? ⟨gb500, 2, none⟩ = some (.int .i64 a1_2) := (blk_cell BK500.out 2).trans rfl; have hfz26_0 := blk_frozen BK500.out 0; have hfz26_1 := blk_frozen BK500.out 1; have hfz26_2 := blk_frozen BK500.out 2))
  go_ret
  exact ⟨rx_, by repeat (first | exact HB.out | apply ba_ | apply bN_ | apply b1_ | refine below_set ?_ (Aside0.out (by assumption)))⟩
def laws_FnExactCountRides.j0 : Nat → Bool → Int → List (List Int) → Int → Int → List (List Int) → Int → Option (Bool)
 | 0, _, _, _, _, _, _, _ => none
 | k + 1, x34, x503000, x503001, x503002, x517000, x517001, x517002 => if x34 = true then (none) else ((laws_toKeep.f k x503000 x503001 x503002).bind fun bt519 => ((laws_eqKeep.f k x517000 x517001 x517002 bt519.1 bt519.2.1 bt519.2.2).bind fun t524 => (if t524 = true then (some true) else (none))))
def laws_FnExactCountRides.f (k : Nat) (a0_0 : Int) (l0_1 : List (List Int)) (a0_2 : Int) : Option (Bool) := (laws_szKeep.f k a0_0 l0_1 a0_2 1048576).bind fun t503 => (if t503 < 0 then (some true) else ((laws_toKeep.f k a0_0 l0_1 a0_2).bind fun bt504 => ((spec_CountRides.f k bt504.1 bt504.2.1 bt504.2.2).bind fun bt509 => ((laws_toKeep.f k a0_0 l0_1 a0_2).bind fun bt511 => ((impl_CountRides.f k bt511.1 bt511.2.1 bt511.2.2).bind fun bt517 => (if bt517.1 = bt509.1 then (laws_FnExactCountRides.j0 k (bt517.2 != bt509.2) a0_0 l0_1 a0_2 bt511.1 bt511.2.1 bt511.2.2) else (laws_FnExactCountRides.j0 k true a0_0 l0_1 a0_2 bt511.1 bt511.2.1 bt511.2.2)))))))
theorem laws_FnExactCountRides.mono_l : ∀ k, (∀ y0 y1 y2 y3 y4 y5 y6, LeO (laws_FnExactCountRides.j0 k y0 y1 y2 y3 y4 y5 y6) (laws_FnExactCountRides.j0 (k + 1) y0 y1 y2 y3 y4 y5 y6))
 | 0 => fun _ _ _ _ _ _ _ r h => by simp [laws_FnExactCountRides.j0] at h
 | k + 1 => by
  have ih0 := laws_FnExactCountRides.mono_l k
  ·intro y0 y1 y2 y3 y4 y5 y6
   unfold laws_FnExactCountRides.j0
   repeat' first
   | (with_reducible first | exact ih0 _ _ _ _ _ _ _ | exact impl_CountRides.mono _ _ _ _ | exact laws_eqKeep.mono _ _ _ _ _ _ _ | exact laws_szKeep.mono _ _ _ _ _ | exact laws_toKeep.mono _ _ _ _ | exact spec_CountRides.mono _ _ _ _ | exact LeO.refl _ | exact LeO.none _ | refine LeO.ite ?_ ?_ | refine LeO.bind ?_ (fun _ => ?_))
   | exact ih0 _ _ _ _ _ _ _
   | exact impl_CountRides.mono _ _ _ _
   | exact laws_eqKeep.mono _ _ _ _ _ _ _
   | exact laws_szKeep.mono _ _ _ _ _
   | exact laws_toKeep.mono _ _ _ _
   | exact spec_CountRides.mono _ _ _ _
   | exact LeO.none _
   | refine LeO.ite ?_ ?_
   | refine LeO.bind ?_ (fun _ => ?_)
theorem laws_FnExactCountRides.mono : ∀ a0 a1 a2 k, LeO (laws_FnExactCountRides.f k a0 a1 a2) (laws_FnExactCountRides.f (k + 1) a0 a1 a2) := by
 intro a0 a1 a2 k
 have ih0 := laws_FnExactCountRides.mono_l k
 unfold laws_FnExactCountRides.f
 repeat' first
  | (with_reducible first | exact ih0 _ _ _ _ _ _ _ | exact impl_CountRides.mono _ _ _ _ | exact laws_eqKeep.mono _ _ _ _ _ _ _ | exact laws_szKeep.mono _ _ _ _ _ | exact laws_toKeep.mono _ _ _ _ | exact spec_CountRides.mono _ _ _ _ | exact LeO.refl _ | exact LeO.none _ | refine LeO.ite ?_ ?_ | refine LeO.bind ?_ (fun _ => ?_))
  | exact ih0 _ _ _ _ _ _ _
  | exact impl_CountRides.mono _ _ _ _
  | exact laws_eqKeep.mono _ _ _ _ _ _ _
  | exact laws_szKeep.mono _ _ _ _ _
  | exact laws_toKeep.mono _ _ _ _
  | exact spec_CountRides.mono _ _ _ _
  | exact LeO.none _
  | refine LeO.ite ?_ ?_
  | refine LeO.bind ?_ (fun _ => ?_)
theorem laws_FnExactCountRides.calls (k : Nat) (a0_0 : Int) (A0_1 : Option Addr) (c0_1 : Nat) (l0_1 : List (List Int)) (a0_2 : Int) (r : Bool) (w : World) (hr0_1 : Kd.C (Kd.slice 3 (Kd.int .i64)) w A0_1 l0_1.length l0_1) (hc0_1 : l0_1.length ≤ c0_1) (h : laws_FnExactCountRides.f k a0_0 l0_1 a0_2 = some r) :
  Calls Try.prog 6 #[.agg #[.int .i64 a0_0, .slice A0_1 l0_1.length c0_1, .int .i64 a0_2]] w fun e w' => e = .returned (.bool r) ∧ Below w.heap.size w w' := by
 have hu49 := Try.underlying49
 have hu52 := Try.underlying52
 have HR0_1 := ak_ hr0_1
 have HC0_1 := ak_ hc0_1
 clear hr0_1 hc0_1
 have HB := ak_ (Below.refl w.heap.size w)
 have H : ((laws_szKeep.f k a0_0 l0_1 a0_2 1048576).bind fun t503 => (if t503 < 0 then (some true) else ((laws_toKeep.f k a0_0 l0_1 a0_2).bind fun bt504 => ((spec_CountRides.f k bt504.1 bt504.2.1 bt504.2.2).bind fun bt509 => ((laws_toKeep.f k a0_0 l0_1 a0_2).bind fun bt511 => ((impl_CountRides.f k bt511.1 bt511.2.1 bt511.2.2).bind fun bt517 => (if bt517.1 = bt509.1 then (laws_FnExactCountRides.j0 k (bt517.2 != bt509.2) a0_0 l0_1 a0_2 bt511.1 bt511.2.1 bt511.2.2) else (laws_FnExactCountRides.j0 k true a0_0 l0_1 a0_2 bt511.1 bt511.2.1 bt511.2.2)))))))) = some r := h
 clear h
 replace H := Option.bind_eq_some_iff.mp H
 obtain ⟨t503, A20, H⟩ := H
 replace H : (if t503 < 0 then (some true) else ((laws_toKeep.f k a0_0 l0_1 a0_2).bind fun bt504 => ((spec_CountRides.f k bt504.1 bt504.2.1 bt504.2.2).bind fun bt509 => ((laws_toKeep.f k a0_0 l0_1 a0_2).bind fun bt511 => ((impl_CountRides.f k bt511.1 bt511.2.1 bt511.2.2).bind fun bt517 => (if bt517.1 = bt509.1 then (laws_FnExactCountRides.j0 k (bt517.2 != bt509.2) a0_0 l0_1 a0_2 bt511.1 bt511.2.1 bt511.2.2) else (laws_FnExactCountRides.j0 k true a0_0 l0_1 a0_2 bt511.1 bt511.2.1 bt511.2.2))))))) = some r := H
 have A2 := ak_ A20
 clear A20
 by_cases c3 : t503 < 0
 ·
  rw [if_pos c3] at H
  have c3b0 : decide (t503 < 0) = true := decide_eq_true c3
  clear c3
  obtain rfl := Option.some.inj H
  go_enter Try.func6, Try.ntmps6
  go_wp2_with (first | ((with_reducible refine gate_dst (N := 1) rfl ?_); refine bx_ 1 #[.int .i64 a0_0, .slice A0_1 l0_1.length c0_1, .int .i64 a0_2] 49 ?_; intro gb502 hg w4 hbox hb; have n0_ := ak_ (bs_ (bb_ HB.out) hb); have n1_ := ak_ (hbox); have n2_ := ak_ ((by rw [hg]; exact (bz_ (bb_ HB.out)) : w.heap.size ≤ gb502)); have n3_ := n2_; clear HB; have HB := n0_; have BK502 := n1_; have GW502 := n2_; have GE502 := n3_; clear n0_ n1_ n2_ n3_; clear hb hbox hg; have hcz5_0 : w4.cell? ⟨gb502, 0, none⟩ = some (.int .i64 a0_0) := (blk_cell BK502.out 0).trans rfl; have hcz5_1 : w4.cell? ⟨gb502, 1, none⟩ = some (.slice A0_1 l0_1.length c0_1) := (blk_cell BK502.out 1).trans rfl; have hcz5_2 : w4.cell? ⟨gb502, 2, none⟩ = some (.int .i64 a0_2) := (blk_cell BK502.out 2).trans rfl; have hfz5_0 := blk_frozen BK502.out 0; have hfz5_1 := blk_frozen BK502.out 1; have hfz5_2 := blk_frozen BK502.out 2) | ((with_reducible refine gate_callee (f := 23) rfl ?_); refine goesL_ (some 11) rfl rfl Try.func23 (by kernel_rfl) rfl #[.agg #[.int .i64 a0_0, .slice A0_1 l0_1.length c0_1, .int .i64 a0_2], .int .i64 1048576] rfl (by first | rfl | (simp only [map_toArray, map_cons, map_nil]; try rfl)) ?_; (with_reducible refine (laws_szKeep.calls k a0_0 _ _ l0_1 a0_2 1048576 t503 _ ?side1 ?side2 A2.out).mono ?_); (case side1 => repeat (first | exact (Kd.C_below HR0_1.out HB.out) | (with_reducible refine Kd.C_alloc ?_ _) | (with_reducible refine Kd.C_drewN ?_ _) | (with_reducible refine Kd.C_drew ?_))); (case side2 => exact HC0_1.out); rintro e w6 ⟨rfl, hb⟩; refine ⟨_, rfl, ?_⟩; have n0_ := ak_ (blk_below (pk BK502.out) hb); have n1_ := ak_ (bs_ bl_ hb); clear BK502; clear HB; have BK502 := n0_; have HB := n1_; clear n0_ n1_; (try clear hb); (try clear hb2); (try clear hk); (try clear hi)))
  go_ret
  exact ⟨rx_, by repeat (first | exact HB.out | apply ba_ | apply bN_ | apply b1_ | refine below_set ?_ GE502.out)⟩
 ·
  rw [if_neg c3] at H
  have c3b0 : decide (t503 < 0) = false := decide_eq_false c3
  clear c3
  replace H := Option.bind_eq_some_iff.mp H
  obtain ⟨⟨t504, t505, t508⟩, A70, H⟩ := H
  replace H : ((spec_CountRides.f k t504 t505 t508).bind fun bt509 => ((laws_toKeep.f k a0_0 l0_1 a0_2).bind fun bt511 => ((impl_CountRides.f k bt511.1 bt511.2.1 bt511.2.2).bind fun bt517 => (if bt517.1 = bt509.1 then (laws_FnExactCountRides.j0 k (bt517.2 != bt509.2) a0_0 l0_1 a0_2 bt511.1 bt511.2.1 bt511.2.2) else (laws_FnExactCountRides.j0 k true a0_0 l0_1 a0_2 bt511.1 bt511.2.1 bt511.2.2))))) = some r := H
  have A7 := ak_ A70
  clear A70
  replace H := Option.bind_eq_some_iff.mp H
  obtain ⟨⟨t509, t510⟩, A80, H⟩ := H
  replace H : ((laws_toKeep.f k a0_0 l0_1 a0_2).bind fun bt511 => ((impl_CountRides.f k bt511.1 bt511.2.1 bt511.2.2).bind fun bt517 => (if bt517.1 = t509 then (laws_FnExactCountRides.j0 k (bt517.2 != t510) a0_0 l0_1 a0_2 bt511.1 bt511.2.1 bt511.2.2) else (laws_FnExactCountRides.j0 k true a0_0 l0_1 a0_2 bt511.1 bt511.2.1 bt511.2.2)))) = some r := H
  have A8 := ak_ A80
  clear A80
  replace H := Option.bind_eq_some_iff.mp H
  obtain ⟨⟨t511, t512, t515⟩, A90, H⟩ := H
  replace H : ((impl_CountRides.f k t511 t512 t515).bind fun bt517 => (if bt517.1 = t509 then (laws_FnExactCountRides.j0 k (bt517.2 != t510) a0_0 l0_1 a0_2 t511 t512 t515) else (laws_FnExactCountRides.j0 k true a0_0 l0_1 a0_2 t511 t512 t515))) = some r := H
  have A9 := ak_ A90
  clear A90
  replace H := Option.bind_eq_some_iff.mp H
  obtain ⟨⟨t517, t518⟩, A100, H⟩ := H
  replace H : (if t517 = t509 then (laws_FnExactCountRides.j0 k (t518 != t510) a0_0 l0_1 a0_2 t511 t512 t515) else (laws_FnExactCountRides.j0 k true a0_0 l0_1 a0_2 t511 t512 t515)) = some r := H
  have A10 := ak_ A100
  clear A100
  have HC11 := ak_ H
  clear H
  go_enter Try.func6, Try.ntmps6
  go_upto_region 8 with (first | ((with_reducible refine gate_dst (N := 1) rfl ?_); refine bx_ 1 #[.int .i64 a0_0, .slice A0_1 l0_1.length c0_1, .int .i64 a0_2] 49 ?_; intro gb502 hg w12 hbox hb; have n0_ := ak_ (bs_ (bb_ HB.out) hb); have n1_ := ak_ (hbox); have n2_ := ak_ ((by rw [hg]; exact (bz_ (bb_ HB.out)) : w.heap.size ≤ gb502)); have n3_ := n2_; clear HB; have HB := n0_; have BK502 := n1_; have GW502 := n2_; have GE502 := n3_; clear n0_ n1_ n2_ n3_; clear hb hbox hg; have hcz13_0 : w12.cell? ⟨gb502, 0, none⟩ = some (.int .i64 a0_0) := (blk_cell BK502.out 0).trans rfl; have hcz13_1 : w12.cell? ⟨gb502, 1, none⟩ = some (.slice A0_1 l0_1.length c0_1) := (blk_cell BK502.out 1).trans rfl; have hcz13_2 : w12.cell? ⟨gb502, 2, none⟩ = some (.int .i64 a0_2) := (blk_cell BK502.out 2).trans rfl; have hfz13_0 := blk_frozen BK502.out 0; have hfz13_1 := blk_frozen BK502.out 1; have hfz13_2 := blk_frozen BK502.out 2) | ((with_reducible refine gate_callee (f := 23) rfl ?_); refine goesL_ (some 11) rfl rfl Try.func23 (by kernel_rfl) rfl #[.agg #[.int .i64 a0_0, .slice A0_1 l0_1.length c0_1, .int .i64 a0_2], .int .i64 1048576] rfl (by first | rfl | (simp only [map_toArray, map_cons, map_nil]; try rfl)) ?_; (with_reducible refine (laws_szKeep.calls k a0_0 _ _ l0_1 a0_2 1048576 t503 _ ?side1 ?side2 A2.out).mono ?_); (case side1 => repeat (first | exact (Kd.C_below HR0_1.out HB.out) | (with_reducible refine Kd.C_alloc ?_ _) | (with_reducible refine Kd.C_drewN ?_ _) | (with_reducible refine Kd.C_drew ?_))); (case side2 => exact HC0_1.out); rintro e w14 ⟨rfl, hb⟩; refine ⟨_, rfl, ?_⟩; have n0_ := ak_ (blk_below (pk BK502.out) hb); have n1_ := ak_ (bs_ bl_ hb); clear BK502; clear HB; have BK502 := n0_; have HB := n1_; clear n0_ n1_; (try clear hb); (try clear hb2); (try clear hk); (try clear hi); have hcz15_0 : w14.cell? ⟨gb502, 0, none⟩ = some (.int .i64 a0_0) := (blk_cell BK502.out 0).trans rfl; have hcz15_1 : w14.cell? ⟨gb502, 1, none⟩ = some (.slice A0_1 l0_1.length c0_1) := (blk_cell BK502.out 1).trans rfl; have hcz15_2 : w14.cell? ⟨gb502, 2, none⟩ = some (.int .i64 a0_2) := (blk_cell BK502.out 2).trans rfl; have hfz15_0 := blk_frozen BK502.out 0; have hfz15_1 := blk_frozen BK502.out 1; have hfz15_2 := blk_frozen BK502.out 2) | ((with_reducible refine gate_callee (f := 25) rfl ?_); refine goesL_ (some 16) rfl rfl Try.func25 (by kernel_rfl) rfl #[.agg #[.int .i64 a0_0, .slice A0_1 l0_1.length c0_1, .int .i64 a0_2]] rfl (by first | rfl | (simp only [map_toArray, map_cons, map_nil]; try rfl)) ?_; (with_reducible refine (laws_toKeep.calls k a0_0 _ _ l0_1 a0_2 t504 t505 t508 _ ?side1 ?side2 A7.out).mono ?_); (case side1 => repeat (first | exact (Kd.C_below HR0_1.out HB.out) | (with_reducible refine Kd.C_alloc ?_ _) | (with_reducible refine Kd.C_drewN ?_ _) | (with_reducible refine Kd.C_drew ?_))); (case side2 => exact HC0_1.out); rintro e w16 ⟨v506, rfl, ho0, hb⟩; refine ⟨_, rfl, ?_⟩; have n0_ := ak_ (Kd.S_lower ho0 (bz_ bl_)); have n1_ := ak_ (blk_below (pk BK502.out) hb); have n2_ := ak_ (bs_ bl_ hb); clear BK502; clear HB; have HO507 := n0_; have BK502 := n1_; have HB := n2_; clear n0_ n1_ n2_; (try clear hb); (try clear hb2); (try clear hk); (try clear hi); (try clear ho0); obtain ⟨Ao17, co17, eo17⟩ := Kd.S_slice HO507.out; subst eo17) | ((with_reducible refine gate_callee (f := 24) rfl ?_); refine goesL_ (some 17) rfl rfl Try.func24 (by kernel_rfl) rfl #[.agg #[.int .i64 t504, .slice Ao17 t505.length co17, .int .i64 t508]] rfl (by first | rfl | (simp only [map_toArray, map_cons, map_nil]; try rfl)) ?_; (with_reducible refine (spec_CountRides.calls k t504 _ _ t505 t508 t509 t510 _ ?side1 ?side2 A8.out).mono ?_); (case side1 => repeat (first | exact (Kd.S_reads' HO507.out).2.2 | (with_reducible refine Kd.C_alloc ?_ _) | (with_reducible refine Kd.C_drewN ?_ _) | (with_reducible refine Kd.C_drew ?_))); (case side2 => exact (Kd.S_reads' HO507.out).2.1); rintro e w18 ⟨rfl, hb⟩; refine ⟨_, rfl, ?_⟩; have n0_ := ak_ (Kd.S_below (Kd.pS HO507.out) hb); have n1_ := ak_ (blk_below (pk BK502.out) hb); have n2_ := ak_ (bs_ bl_ hb); clear HO507; clear BK502; clear HB; have HO507 := n0_; have BK502 := n1_; have HB := n2_; clear n0_ n1_ n2_; (try clear hb); (try clear hb2); (try clear hk); (try clear hi); have hcz19_0 : w18.cell? ⟨gb502, 0, none⟩ = some (.int .i64 a0_0) := (blk_cell BK502.out 0).trans rfl; have hcz19_1 : w18.cell? ⟨gb502, 1, none⟩ = some (.slice A0_1 l0_1.length c0_1) := (blk_cell BK502.out 1).trans rfl; have hcz19_2 : w18.cell? ⟨gb502, 2, none⟩ = some (.int .i64 a0_2) := (blk_cell BK502.out 2).trans rfl; have hfz19_0 := blk_frozen BK502.out 0; have hfz19_1 := blk_frozen BK502.out 1; have hfz19_2 := blk_frozen BK502.out 2) | ((with_reducible refine gate_callee (f := 25) rfl ?_); refine goesL_ (some 21) rfl rfl Try.func25 (by kernel_rfl) rfl #[.agg #[.int .i64 a0_0, .slice A0_1 l0_1.length c0_1, .int .i64 a0_2]] rfl (by first | rfl | (simp only [map_toArray, map_cons, map_nil]; try rfl)) ?_; (with_reducible refine (laws_toKeep.calls k a0_0 _ _ l0_1 a0_2 t511 t512 t515 _ ?side1 ?side2 A9.out).mono ?_); (case side1 => repeat (first | exact (Kd.C_below HR0_1.out HB.out) | (with_reducible refine Kd.C_alloc ?_ _) | (with_reducible refine Kd.C_drewN ?_ _) | (with_reducible refine Kd.C_drew ?_))); (case side2 => exact HC0_1.out); rintro e w20 ⟨v513, rfl, ho0, hb⟩; refine ⟨_, rfl, ?_⟩; have n0_ := ak_ (Kd.S_elder' (Kd.pS HO507.out) (Kd.S_base ho0) hb); have n1_ := ak_ (Kd.S_lower (Kd.S_new' ho0 (Kd.S_lt (Kd.pS HO507.out))) (bz_ bl_)); have n2_ := ak_ (blk_below (pk BK502.out) hb); have n3_ := ak_ (bs_ bl_ hb); clear HO507; clear BK502; clear HB; have HO507 := n0_; have HO514 := n1_; have BK502 := n2_; have HB := n3_; clear n0_ n1_ n2_ n3_; (try clear hb); (try clear hb2); (try clear hk); (try clear hi); (try clear ho0)) | ((with_reducible refine gate_dst (N := 6) rfl ?_); refine bx_ 6 #[.int .i64 0, .slice none 0 0, .int .i64 0] 52 ?_; intro gb516 hg w21 hbox hb; have n0_ := ak_ (Kd.S_below (Kd.pS HO507.out) hb); have n1_ := ak_ (Kd.S_below (Kd.pS HO514.out) hb); have n2_ := ak_ (blk_below (pk BK502.out) hb); have n3_ := ak_ (bs_ bl_ hb); have n4_ := ak_ (hbox); have n5_ := ak_ ((by rw [hg]; exact (bz_ bl_) : w.heap.size ≤ gb516)); have n6_ := n5_; have n7_ := ak_ ((by rw [hg]; exact Nat.ne_of_lt (blk_lt (pk BK502.out)) : gb502 ≠ gb516)); have n8_ := ak_ n7_.out.symm; clear HO507; clear HO514; clear BK502; clear HB; have HO507 := n0_; have HO514 := n1_; have BK502 := n2_; have HB := n3_; have BK516 := n4_; have GW516 := n5_; have GE516 := n6_; have NB502_516 := n7_; have NB516_502 := n8_; clear n0_ n1_ n2_ n3_ n4_ n5_ n6_ n7_ n8_; clear hb hbox hg; have hnb22 := NB516_502.out; have hnc22 := NB502_516.out; have hcz23_0 : w21.cell? ⟨gb516, 0, none⟩ = some (.int .i64 0) := (blk_cell BK516.out 0).trans rfl; have hcz23_1 : w21.cell? ⟨gb516, 1, none⟩ = some (.slice none 0 0) := (blk_cell BK516.out 1).trans rfl; have hcz23_2 : w21.cell? ⟨gb516, 2, none⟩ = some (.int .i64 0) := (blk_cell BK516.out 2).trans rfl; have hfz23_0 := blk_frozen BK516.out 0; have hfz23_1 := blk_frozen BK516.out 1; have hfz23_2 := blk_frozen BK516.out 2; obtain ⟨Ao24, co24, eo24⟩ := Kd.S_slice HO514.out; subst eo24) | ((with_reducible refine gate_callee (f := 26) rfl ?_); refine goesL_ (some 24) rfl rfl Try.func26 (by kernel_rfl) rfl #[.agg #[.int .i64 t511, .slice Ao24 t512.length co24, .int .i64 t515]] rfl (by first | rfl | (simp only [map_toArray, map_cons, map_nil]; try rfl)) ?_; (with_reducible refine (impl_CountRides.calls k t511 _ _ t512 t515 t517 t518 _ ?side1 ?side2 A10.out).mono ?_); (case side1 => refine (Kd.S_reads' (e := 29) (base := w.heap.size) (ok := fun k_ => (True ∧ some k_ ≠ (.slice Ao17 t505.length co17 : Value).ownBlock)) (n := t512.length) (c := co24) ?_).2.2; exact (by (with_reducible repeat (first | apply Kd.S_alloc | apply Kd.S_drewN | apply Kd.S_drew)); exact (Kd.S_mono (Kd.S_far (p := ⟨gb516, 2, none⟩) (Kd.S_far (p := ⟨gb516, 1, none⟩) (Kd.S_far (p := ⟨gb516, 0, none⟩) (Kd.S_types HO514.out BK516.out (by decide)) (fun _ hk => hk.2) (.int .i64 t511)) (fun _ hk => hk.2) (.slice Ao24 t512.length co24)) (fun _ hk => hk.2) (.int .i64 t515)) (fun _ h_ => h_.1)))); (case side2 => exact (Kd.S_reads' HO514.out).2.1); rintro e w25 ⟨rfl, hb⟩; refine ⟨_, rfl, ?_⟩; have n0_ := ak_ (Kd.S_below (by (with_reducible repeat (first | apply Kd.S_alloc | apply Kd.S_drewN | apply Kd.S_drew)); exact (Kd.S_mono (Kd.S_far (p := ⟨gb516, 2, none⟩) (Kd.S_far (p := ⟨gb516, 1, none⟩) (Kd.S_far (p := ⟨gb516, 0, none⟩) (Kd.S_types HO507.out BK516.out (by decide)) (fun _ hk => hk.2) (.int .i64 t511)) (fun _ hk => hk.2) (.slice Ao24 t512.length co24)) (fun _ hk => hk.2) (.int .i64 t515)) (fun _ h_ => h_.1))) hb); have n1_ := ak_ (Kd.S_below (by (with_reducible repeat (first | apply Kd.S_alloc | apply Kd.S_drewN | apply Kd.S_drew)); exact (Kd.S_mono (Kd.S_far (p := ⟨gb516, 2, none⟩) (Kd.S_far (p := ⟨gb516, 1, none⟩) (Kd.S_far (p := ⟨gb516, 0, none⟩) (Kd.S_types HO514.out BK516.out (by decide)) (fun _ hk => hk.2) (.int .i64 t511)) (fun _ hk => hk.2) (.slice Ao24 t512.length co24)) (fun _ hk => hk.2) (.int .i64 t515)) (fun _ h_ => h_.1))) hb); have n2_ := ak_ (blk_below (g := gb502) (o := .cells #[.int .i64 a0_0, .slice A0_1 l0_1.length c0_1, .int .i64 a0_2] 49 (0, 0)) (by (with_reducible repeat (first | refine kN_ ?_ _ | refine k1_ ?_ | refine ka_ ?_ _)); refine blk_far ?_ NB502_516.out _; (with_reducible repeat (first | refine kN_ ?_ _ | refine k1_ ?_ | refine ka_ ?_ _)); refine blk_far ?_ NB502_516.out _; (with_reducible repeat (first | refine kN_ ?_ _ | refine k1_ ?_ | refine ka_ ?_ _)); refine blk_far ?_ NB502_516.out _; exact pk BK502.out) hb); have n3_ := ak_ (blk_below (g := gb516) (o := .cells #[.int .i64 t511, .slice Ao24 t512.length co24, .int .i64 t515] 52 (0, 0)) (by (with_reducible repeat (first | refine kN_ ?_ _ | refine k1_ ?_ | refine ka_ ?_ _)); refine blk_put (cs := #[.int .i64 t511, .slice Ao24 t512.length co24, .int .i64 0]) ?_ 2 _ rfl; (with_reducible repeat (first | refine kN_ ?_ _ | refine k1_ ?_ | refine ka_ ?_ _)); refine blk_put (cs := #[.int .i64 t511, .slice none 0 0, .int .i64 0]) ?_ 1 _ rfl; (with_reducible repeat (first | refine kN_ ?_ _ | refine k1_ ?_ | refine ka_ ?_ _)); refine blk_put (cs := #[.int .i64 0, .slice none 0 0, .int .i64 0]) ?_ 0 _ rfl; exact pk BK516.out) hb); have n4_ := ak_ (bs_ bl_ hb); clear HO507; clear HO514; clear BK502; clear BK516; clear HB; have HO507 := n0_; have HO514 := n1_; have BK502 := n2_; have BK516 := n3_; have HB := n4_; clear n0_ n1_ n2_ n3_ n4_; (try clear hb); (try clear hb2); (try clear hk); (try clear hi)))
  (try simp only [Act.put, setIfInBounds_toArray, set_cons_zero, set_cons_succ])
  go_cut [34] (fun v34 wc => ∃ (kq : Nat) (x34_10 : Bool), v34 = .bool x34_10 ∧ Aside0 (laws_FnExactCountRides.j0 kq x34_10 a0_0 l0_1 a0_2 t511 t512 t515 = some r) ∧ Aside0 (kq ≤ k) ∧ Aside0 (Kd.S (Kd.slice 3 (Kd.int .i64)) 29 wc w.heap.size (fun _ => True) (.slice Ao24 t512.length co24) t512) ∧ Aside0 (wc.heap[gb502]? = some (.cells #[.int .i64 a0_0, (.slice A0_1 l0_1.length c0_1), .int .i64 a0_2] 49 (0, 0))) ∧ Aside0 (wc.heap[gb516]? = some (.cells #[.int .i64 t511, (.slice Ao24 t512.length co24), .int .i64 t515] 52 (0, 0))) ∧ Aside0 (Below w.heap.size w wc))
  case first =>
   have H := HC11.out
   clear HC11
   by_cases c26 : t517 = t509
   ·
    rw [if_pos c26] at H
    have c26b0 : (t517 == t509) = true := beq_iff_eq.mpr c26
    have c26b1 : (t517 != t509) = false := bne_eq_false_iff_eq.mpr c26
    clear c26
    (first | rw [c26b0] | (simp only [i64_w, i32_w]; rw [c26b0]) | rw [c26b1] | skip)
    have H' := ak_ H
    clear H
    go_wp2
    go_meet
    case rel => exact ⟨_, ((t518 != t510)), (ry_), H', ⟨by first | omega | exact Nat.le_refl _⟩, ⟨by (with_reducible repeat (first | apply Kd.S_alloc | apply Kd.S_drewN | apply Kd.S_drew)); exact Kd.S_mono HO514.out (fun _ hk => trivial)⟩, ⟨pk BK502.out⟩, ⟨pk BK516.out⟩, ⟨by repeat (first | exact HB.out | apply ba_ | apply bN_ | apply b1_ | refine below_set ?_ (Aside0.out (by assumption)))⟩⟩
   ·
    rw [if_neg c26] at H
    have c26b0 : (t517 == t509) = false := beq_eq_false_iff_ne.mpr c26
    have c26b1 : (t517 != t509) = true := bne_iff_ne.mpr c26
    (first | rw [c26b0] | (simp only [i64_w, i32_w]; rw [c26b0]) | rw [c26b1] | skip)
    have H' := ak_ H
    clear H
    go_wp2
    go_meet
    case rel => exact ⟨_, (true), (ry_), H', ⟨by first | omega | exact Nat.le_refl _⟩, ⟨by (with_reducible repeat (first | apply Kd.S_alloc | apply Kd.S_drewN | apply Kd.S_drew)); exact Kd.S_mono HO514.out (fun _ hk => trivial)⟩, ⟨pk BK502.out⟩, ⟨pk BK516.out⟩, ⟨by repeat (first | exact HB.out | apply ba_ | apply bN_ | apply b1_ | refine below_set ?_ (Aside0.out (by assumption)))⟩⟩
  case rest =>
   clear HC11
   try clear c2
   try clear p2
   try clear c3
   try clear c3b0
   try clear c6
   try clear c22
   try clear c23
   try clear c24
   try clear c25
   try clear c26
   try clear c26b0
   try clear c26b1
   try clear hcz13_0
   try clear hcz13_1
   try clear hcz13_2
   try clear hcz15_0
   try clear hcz15_1
   try clear hcz15_2
   try clear hcz19_0
   try clear hcz19_1
   try clear hcz19_2
   try clear hcz23_0
   try clear hcz23_1
   try clear hcz23_2
   try clear hcz5_0
   try clear hcz5_1
   try clear hcz5_2
   try clear hfz13_0
   try clear hfz13_1
   try clear hfz13_2
   try clear hfz15_0
   try clear hfz15_1
   try clear hfz15_2
   try clear hfz19_0
   try clear hfz19_1
   try clear hfz19_2
   try clear hfz23_0
   try clear hfz23_1
   try clear hfz23_2
   try clear hfz5_0
   try clear hfz5_1
   try clear hfz5_2
   obtain ⟨kq, x34_10, rfl, HA, HJ10, HO_517001, BK502, BK516, HB⟩ := hcut
   cases kq with
   | zero => exact absurd HA.out (by simp [laws_FnExactCountRides.j0])
   | succ kj10 =>
    have H := HA.out
    clear HA
    simp only [laws_FnExactCountRides.j0] at H
    by_cases c27 : x34_10 = true
    ·
     subst c27
     have H1 : (none) = some r := by rw [if_pos rfl] at H; exact H
     clear H
     have H := H1
     clear H1
     exact absurd H (by simp)
    ·
     replace c27 := Bool.eq_false_iff.mpr c27
     subst c27
     have H1 : ((laws_toKeep.f kj10 a0_0 l0_1 a0_2).bind fun bt519 => ((laws_eqKeep.f kj10 t511 t512 t515 bt519.1 bt519.2.1 bt519.2.2).bind fun t524 => (if t524 = true then (some true) else (none)))) = some r := by rw [if_neg (show ¬ (false = true) by decide)] at H; exact H
     clear H
     have H := H1
     clear H1
     replace H := Option.bind_eq_some_iff.mp H
     obtain ⟨⟨t519, t520, t523⟩, A280, H⟩ := H
     replace H : ((laws_eqKeep.f kj10 t511 t512 t515 t519 t520 t523).bind fun t524 => (if t524 = true then (some true) else (none))) = some r := H
     have A28 := ak_ A280
     clear A280
     replace H := Option.bind_eq_some_iff.mp H
     obtain ⟨t524, A290, H⟩ := H
     replace H : (if t524 = true then (some true) else (none)) = some r := H
     have A29 := ak_ A290
     clear A290
     by_cases c30 : t524 = true
     ·
      subst c30
      have H1 : (some true) = some r := by rw [if_pos rfl] at H; exact H
      clear H
      have H := H1
      clear H1
      obtain rfl := Option.some.inj H
      try go_wp2
      have n0_ := ak_ (Kd.S_drew HO_517001.out)
      have n1_ := ak_ (k1_ BK502.out)
      have n2_ := ak_ (k1_ BK516.out)
      have n3_ := ak_ (b1_ HB.out)
      clear HO_517001 BK502 BK516 HB
      have HO_517001 := n0_; have BK502 := n1_; have BK516 := n2_; have HB := n3_
      clear n0_ n1_ n2_ n3_
      refine start_ (n := 5) (S := fun w' => w'.cell? ⟨gb516, 0, none⟩ = some (.int .i64 t511) ∧ w'.cell? ⟨gb516, 1, none⟩ = some (.slice Ao24 t512.length co24) ∧ w'.cell? ⟨gb516, 2, none⟩ = some (.int .i64 t515) ∧ w'.cell? ⟨gb502, 0, none⟩ = some (.int .i64 a0_0) ∧ w'.cell? ⟨gb502, 1, none⟩ = some (.slice A0_1 l0_1.length c0_1) ∧ w'.cell? ⟨gb502, 2, none⟩ = some (.int .i64 a0_2)) (ds := []) #[false, false, false, false, false] (by kernel_rfl) rfl rfl ⟨(blk_cell BK516.out 0).trans rfl, (blk_cell BK516.out 1).trans rfl, (blk_cell BK516.out 2).trans rfl, (blk_cell BK502.out 0).trans rfl, (blk_cell BK502.out 1).trans rfl, (blk_cell BK502.out 2).trans rfl⟩ (fun hHeld => ?_)
      generalize wc.drew = w31 at HO_517001 BK502 BK516 HB hHeld ⊢
      refine take_ (i := 0) (N := some 35) (v := ?_) (a' := ?_) #[true, false, false, false, false] rfl rfl (by kernel_rfl) (fun _ _ _ h => h) (Or.inl ⟨by rfl, ?_⟩) hHeld ?_ ?_
      rotate_left
      ·
       rintro w' ⟨s0, s1, s2, s3, s4, s5⟩
       go_simp
       with_reducible rfl
      rotate_left
      ·
       simp only [Act.put, setIfInBounds_toArray, set_cons_zero, set_cons_succ, i64_w, i32_w]
       rfl
      refine take_ (i := 1) (N := some 36) (v := ?_) (a' := ?_) #[true, true, false, false, false] rfl rfl (by kernel_rfl) (fun _ _ _ h => h) (Or.inl ⟨by rfl, ?_⟩) hHeld ?_ ?_
      rotate_left
      ·
       rintro w' ⟨s0, s1, s2, s3, s4, s5⟩
       go_simp
       with_reducible rfl
      rotate_left
      ·
       simp only [Act.put, setIfInBounds_toArray, set_cons_zero, set_cons_succ, i64_w, i32_w]
       rfl
      refine one_ (i := 2) (N := some 37) #[true, true, true, false, false] rfl rfl (by kernel_rfl) (by decide) (fun K hK => ?_)
      refine goes_ Try.func25 (by kernel_rfl) rfl #[.agg #[.int .i64 a0_0, .slice A0_1 l0_1.length c0_1, .int .i64 a0_2]] (by rfl) rfl rfl (by first | rfl | (simp only [map_toArray, map_cons, map_nil]; try rfl)) ?_
      with_reducible refine (laws_toKeep.calls kj10 a0_0 _ _ l0_1 a0_2 t519 t520 t523 _ ?side1 ?side2 A28.out).mono ?_
      (case side1 => repeat (first | exact (Kd.C_below HR0_1.out HB.out) | (with_reducible refine Kd.C_alloc ?_ _) | (with_reducible refine Kd.C_drewN ?_ _) | (with_reducible refine Kd.C_drew ?_)))
      (case side2 => exact HC0_1.out)
      rintro e w32 ⟨v521, rfl, ho0, hb⟩
      refine ⟨_, rfl, ?_⟩
      have n0_ := ak_ (Kd.S_elder' (Kd.pS HO_517001.out) (Kd.S_base ho0) hb)
      have n1_ := ak_ (Kd.S_lower (Kd.S_new' ho0 (Kd.S_lt (Kd.pS HO_517001.out))) (bz_ bl_))
      have n2_ := ak_ (blk_below (pk BK502.out) hb)
      have n3_ := ak_ (blk_below (pk BK516.out) hb)
      have n4_ := ak_ (bs_ bl_ hb)
      clear HO_517001 BK502 BK516 HB
      have HO_517001 := n0_; have HO522 := n1_; have BK502 := n2_; have BK516 := n3_; have HB := n4_
      clear n0_ n1_ n2_ n3_ n4_
      (try clear hb)
      (try clear hb2)
      (try clear hk)
      (try clear hi)
      (try clear ho0)
      obtain ⟨Ao33, co33, eo33⟩ := Kd.S_slice HO522.out
      (first | subst eo33 | (injection eo33 with f1_ f2_ f3_; have f4_ := f1_.symm; have f5_ := f3_.symm; clear f1_ f2_ f3_; subst f4_; subst f5_))
      refine hK.out _ _ ⟨(blk_cell BK516.out 0).trans rfl, (blk_cell BK516.out 1).trans rfl, (blk_cell BK516.out 2).trans rfl, (blk_cell BK502.out 0).trans rfl, (blk_cell BK502.out 1).trans rfl, (blk_cell BK502.out 2).trans rfl⟩ (fun hHeld => ?_)
      clear hK K
      refine nm_ ?_
      refine one_ (i := 3) (N := some 38) #[true, true, true, true, false] rfl rfl (by kernel_rfl) (by decide) (fun K hK => ?_)
      refine goes_ Try.func27 (by kernel_rfl) rfl #[.agg #[.int .i64 t511, .slice Ao24 t512.length co24, .int .i64 t515], .agg #[.int .i64 t519, .slice Ao33 t520.length co33, .int .i64 t523]] (by rfl) rfl rfl (by first | rfl | (simp only [map_toArray, map_cons, map_nil]; try rfl)) ?_
      with_reducible refine (laws_eqKeep.calls kj10 t511 _ _ t512 t515 t519 _ _ t520 t523 true _ ?side1 ?side2 ?side3 ?side4 A29.out).mono ?_
      (case side1 => repeat (first | exact (Kd.S_reads' HO_517001.out).2.2 | (with_reducible refine Kd.C_alloc ?_ _) | (with_reducible refine Kd.C_drewN ?_ _) | (with_reducible refine Kd.C_drew ?_)))
      (case side2 => exact (Kd.S_reads' HO_517001.out).2.1)
      (case side3 => repeat (first | exact (Kd.S_reads' HO522.out).2.2 | (with_reducible refine Kd.C_alloc ?_ _) | (with_reducible refine Kd.C_drewN ?_ _) | (with_reducible refine Kd.C_drew ?_)))
      (case side4 => exact (Kd.S_reads' HO522.out).2.1)
      rintro e w34 ⟨rfl, hb⟩
      refine ⟨_, rfl, ?_⟩
      have n0_ := ak_ (Kd.S_below (Kd.pS HO_517001.out) hb)
      have n1_ := ak_ (Kd.S_below (Kd.pS HO522.out) hb)
      have n2_ := ak_ (blk_below (pk BK502.out) hb)
      have n3_ := ak_ (blk_below (pk BK516.out) hb)
      have n4_ := ak_ (bs_ bl_ hb)
      clear HO_517001 HO522 BK502 BK516 HB
      have HO_517001 := n0_; have HO522 := n1_; have BK502 := n2_; have BK516 := n3_; have HB := n4_
      clear n0_ n1_ n2_ n3_ n4_
      (try clear hb)
      (try clear hb2)
      (try clear hk)
      (try clear hi)
      refine hK.out _ _ ⟨(blk_cell BK516.out 0).trans rfl, (blk_cell BK516.out 1).trans rfl, (blk_cell BK516.out 2).trans rfl, (blk_cell BK502.out 0).trans rfl, (blk_cell BK502.out 1).trans rfl, (blk_cell BK502.out 2).trans rfl⟩ (fun hHeld => ?_)
      clear hK K
      refine nm_ ?_
      refine pure_ (i := 4) (N := some 39) (v := ?_) (a' := ?_) #[true, true, true, true, true] rfl rfl (by kernel_rfl) (fun _ _ _ h => h) (Or.inl ⟨by rfl, ?_⟩) ?_ ?_
      rotate_left
      ·
       intro w'
       go_simp
       with_reducible rfl
      rotate_left
      ·
       simp only [Act.put, setIfInBounds_toArray, set_cons_zero, set_cons_succ, i64_w, i32_w]
       rfl
      refine done_ (by kernel_rfl) ?_
      try go_wp2
      go_ret
      exact ⟨rx_, by repeat (first | exact HB.out | apply ba_ | apply bN_ | apply b1_ | refine below_set ?_ (Aside0.out (by assumption)))⟩
     ·
      replace c30 := Bool.eq_false_iff.mpr c30
      subst c30
      have H1 : (none) = some r := by rw [if_neg (show ¬ (false = true) by decide)] at H; exact H
      clear H
      have H := H1
      clear H1
      exact absurd H (by simp)
end Go.Proofs.Ythkchdfkeieabaa.QGr
