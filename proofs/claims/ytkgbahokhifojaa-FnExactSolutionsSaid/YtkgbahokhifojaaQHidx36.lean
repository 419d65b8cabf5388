/- Contracts of functions of the given program, walked: each call returns what its Lean function says. Conditions: those that stand at each theorem. (Written by a program of this session.) -/
import Derived.Test.YtkgbahokhifojaaQHidx0
import Derived.Test.YtkgbahokhifojaaQHidx2
import Derived.Test.YtkgbahokhifojaaQHidx13
import Derived.Test.YtkgbahokhifojaaQHidx14
import Derived.Test.YtkgbahokhifojaaQHidx18
import Derived.Test.YtkgbahokhifojaaQHidx21
import Derived.Test.YtkgbahokhifojaaQHidx23
import Derived.Test.YtkgbahokhifojaaQHidx29
namespace Go.Proofs.Ytkgbahokhifojaa.QHid
open Go.RowKit Go.Proofs.YtkgbahokhifojaaW.PrintWords Go.Proofs.YtkgbahokhifojaaW.PrintLast Go.Proofs.YtkgbahokhifojaaW.PrintMore
attribute [local go_sem] max2_int min2_int max_two min_two max_three min_three max_four min_four   -- for this text's walks alone
set_option linter.unusedVariables false
set_option linter.unusedSimpArgs false

/-! ### spec_Solutions: function 41 -/
def spec_Solutions.f (k : Nat) (a0_0 : Int) (l0_1 : List (S45)) : Option ((List (List Int)) × Bool) := (spec_pzGood.f k a0_0 l0_1).bind fun t1021 => (if t1021 = true then ((spec_pzAll.f k a0_0 l0_1).bind fun t1022 => (some (t1022, true))) else (some (([] : List (List Int)), false)))
theorem spec_Solutions.mono : ∀ a0 a1 k, LeO (spec_Solutions.f k a0 a1) (spec_Solutions.f (k + 1) a0 a1) := by
  intro a0 a1 k
  unfold spec_Solutions.f
  repeat' first
      | (with_reducible exact spec_pzAll.mono _ _ _)
      | (with_reducible exact spec_pzGood.mono _ _ _)
      | (with_reducible exact LeO.refl _)
      | (with_reducible exact LeO.none _)
      | (with_reducible refine LeO.ite ?_ ?_)
      | (with_reducible refine LeO.bind ?_ (fun _ => ?_))
      | exact spec_pzAll.mono _ _ _
      | exact spec_pzGood.mono _ _ _
      | exact LeO.none _
      | refine LeO.ite ?_ ?_
      | refine LeO.bind ?_ (fun _ => ?_)
set_option maxHeartbeats 8000000 in
set_option maxRecDepth 100000 in
theorem spec_Solutions.calls (k : Nat) (a0_0 : Int) (A0_1 : Option Addr) (c0_1 : Nat) (l0_1 : List (S45)) (r1 : List (List Int)) (r2 : Bool) (w : World) (hr0_1 : Kd.C k45 w A0_1 l0_1.length l0_1) (hc0_1 : l0_1.length ≤ c0_1) (h : spec_Solutions.f k a0_0 l0_1 = some (r1, r2)) :
    Calls Try.prog 41 #[.agg #[.int .i64 a0_0, .slice A0_1 l0_1.length c0_1]] w fun e w' => ∃ v0_ : Value, e = .returned (.tuple #[v0_, .bool r2]) ∧ Kd.S (Kd.slice 3 (Kd.int .i64)) 26 w' w.heap.size (fun _ => True) v0_ r1 ∧ Below w.heap.size w w' := by
  have hu31 := Try.underlying31
  have HR0_1 := Aside0.mk hr0_1
  have HC0_1 := Aside0.mk hc0_1
  clear hr0_1 hc0_1
  have HB := Aside0.mk (Below.refl w.heap.size w)
  have H : ((spec_pzGood.f k a0_0 l0_1).bind fun t1021 => (if t1021 = true then ((spec_pzAll.f k a0_0 l0_1).bind fun t1022 => (some (t1022, true))) else (some (([] : List (List Int)), false)))) = some (r1, r2) := h
  clear h
  replace H := Option.bind_eq_some_iff.mp H
  obtain ⟨t1021, A20, H⟩ := H
  replace H : (if t1021 = true then ((spec_pzAll.f k a0_0 l0_1).bind fun t1022 => (some (t1022, true))) else (some (([] : List (List Int)), false))) = some (r1, r2) := H
  have A2 := Aside0.mk A20
  clear A20
  by_cases c3 : t1021 = true
  · subst c3
    have H1 : ((spec_pzAll.f k a0_0 l0_1).bind fun t1022 => (some (t1022, true))) = some (r1, r2) := by rw [if_pos rfl] at H; exact H
    clear H
    have H := H1
    clear H1
    replace H := Option.bind_eq_some_iff.mp H
    obtain ⟨t1022, A40, H⟩ := H
    replace H : (some (t1022, true)) = some (r1, r2) := H
    have A4 := Aside0.mk A40
    clear A40
    simp only [Option.some.injEq, Prod.mk.injEq] at H
    obtain ⟨rfl, rfl⟩ := H
    go_enter Try.func41, Try.ntmps41
    go_wp2_with (first | ((with_reducible refine gate_dst (N := 1) rfl ?_); refine box_event ?hg (N := 1) ?hd (cs := #[.int .i64 a0_0, .slice A0_1 l0_1.length c0_1]) (t := 31) ?hr ?_; (case hd => rfl); (case hg => rfl); (case hr => first | (go_simp; done) | (go_simp; rfl)); intro gb1020 hg w5 hbox hb; have n0_ := Aside0.mk (below_step (by repeat (first | (with_reducible first | exact HB.out | apply below_alloc | apply pw_below_drewN | apply below_drew1) | exact HB.out)) hb); have n1_ := Aside0.mk (hbox); have n2_ := Aside0.mk ((by rw [hg]; exact (below_size (by repeat (first | (with_reducible first | exact HB.out | apply below_alloc | apply pw_below_drewN | apply below_drew1) | exact HB.out))) : w.heap.size ≤ gb1020)); have n3_ := Aside0.mk ((by rw [hg]; exact (below_size (by repeat (first | (with_reducible first | exact HB.out | apply below_alloc | apply pw_below_drewN | apply below_drew1) | exact HB.out))) : w.heap.size ≤ gb1020)); clear HB; have HB := n0_; have BK1020 := n1_; have GW1020 := n2_; have GE1020 := n3_; clear n0_ n1_ n2_ n3_; clear hb hbox hg; have hcz6_0 : w5.cell? ⟨gb1020, 0, none⟩ = some (.int .i64 a0_0) := (blk_cell BK1020.out 0).trans rfl; have hcz6_1 : w5.cell? ⟨gb1020, 1, none⟩ = some (.slice A0_1 l0_1.length c0_1) := (blk_cell BK1020.out 1).trans rfl; have hfz6_0 := blk_frozen BK1020.out 0; have hfz6_1 := blk_frozen BK1020.out 1) | ((with_reducible refine gate_callee (f := 47) rfl ?_); refine goesL_ (some 5) rfl rfl Try.func47 (by kernel_rfl) rfl #[.agg #[.int .i64 a0_0, .slice A0_1 l0_1.length c0_1]] rfl (by (try simp only [List.map_toArray, List.map_cons, List.map_nil]); first | done | rfl | (simp only [List.length_drop, List.length_take]; rfl)) ?_; (with_reducible refine (spec_pzGood.calls k a0_0 _ _ l0_1 true _ ?side1 ?side2 A2.out).mono ?_); (case side1 => repeat (first | exact (Kd.C_below HR0_1.out HB.out) | (with_reducible refine Kd.C_alloc ?_ _) | (with_reducible refine Kd.C_drewN ?_ _) | (with_reducible refine Kd.C_drew ?_))); (case side2 => exact HC0_1.out); rintro e w7 ⟨rfl, hb⟩; refine ⟨_, rfl, ?_⟩; have n0_ := Aside0.mk (blk_below (g := gb1020) (o := .cells #[.int .i64 a0_0, .slice A0_1 l0_1.length c0_1] 31 (0, 0)) (by (with_reducible repeat (first | refine blk_drewN ?_ _ | refine blk_drew ?_ | refine blk_alloc ?_ _)); exact BK1020.out) hb); have n1_ := Aside0.mk (below_step (by repeat (first | (with_reducible first | exact HB.out | apply below_alloc | apply pw_below_drewN | apply below_drew1 | refine below_set ?_ GE1020.out) | exact HB.out)) hb); clear BK1020; clear HB; have BK1020 := n0_; have HB := n1_; clear n0_ n1_; (try clear hb); (try clear hb2); (try clear hk); (try clear hi); have hcz8_0 : w7.cell? ⟨gb1020, 0, none⟩ = some (.int .i64 a0_0) := (blk_cell BK1020.out 0).trans rfl; have hcz8_1 : w7.cell? ⟨gb1020, 1, none⟩ = some (.slice A0_1 l0_1.length c0_1) := (blk_cell BK1020.out 1).trans rfl; have hfz8_0 := blk_frozen BK1020.out 0; have hfz8_1 := blk_frozen BK1020.out 1) | ((with_reducible refine gate_callee (f := 48) rfl ?_); refine goesL_ (some 11) rfl rfl Try.func48 (by kernel_rfl) rfl #[.int .i64 a0_0, .slice A0_1 l0_1.length c0_1] rfl (by (try simp only [List.map_toArray, List.map_cons, List.map_nil]); first | done | rfl | (simp only [List.length_drop, List.length_take]; rfl)) ?_; (with_reducible refine (spec_pzAll.calls k a0_0 _ _ l0_1 t1022 _ ?side1 ?side2 A4.out).mono ?_); (case side1 => repeat (first | exact (Kd.C_below HR0_1.out HB.out) | (with_reducible refine Kd.C_alloc ?_ _) | (with_reducible refine Kd.C_drewN ?_ _) | (with_reducible refine Kd.C_drew ?_))); (case side2 => exact HC0_1.out); rintro e w9 ⟨v1023, rfl, ho0, hb⟩; refine ⟨_, rfl, ?_⟩; have n0_ := Aside0.mk (Kd.S_lower ho0 (below_size (by repeat (first | (with_reducible first | exact HB.out | apply below_alloc | apply pw_below_drewN | apply below_drew1 | refine below_set ?_ GE1020.out) | exact HB.out)))); have n1_ := Aside0.mk (blk_below (g := gb1020) (o := .cells #[.int .i64 a0_0, .slice A0_1 l0_1.length c0_1] 31 (0, 0)) (by (with_reducible repeat (first | refine blk_drewN ?_ _ | refine blk_drew ?_ | refine blk_alloc ?_ _)); exact BK1020.out) hb); have n2_ := Aside0.mk (below_step (by repeat (first | (with_reducible first | exact HB.out | apply below_alloc | apply pw_below_drewN | apply below_drew1 | refine below_set ?_ GE1020.out) | exact HB.out)) hb); clear BK1020; clear HB; have HO1024 := n0_; have BK1020 := n1_; have HB := n2_; clear n0_ n1_ n2_; (try clear hb); (try clear hb2); (try clear hk); (try clear hi); (try clear ho0)))
    go_ret2
    exact ⟨_, by first | rfl | (simp [errW_none, errW_some] <;> rfl) | (simp [*, errW_none, errW_some] <;> rfl), by (with_reducible repeat (first | apply Kd.S_alloc | apply Kd.S_drewN | apply Kd.S_drew)); exact HO1024.out, by repeat (first | (with_reducible first | exact HB.out | apply below_alloc | apply pw_below_drewN | apply below_drew1 | refine below_set ?_ GE1020.out) | exact HB.out)⟩
  · replace c3 := Bool.eq_false_iff.mpr c3
    subst c3
    have H1 : (some (([] : List (List Int)), false)) = some (r1, r2) := by rw [if_neg (show ¬ (false = true) by decide)] at H; exact H
    clear H
    have H := H1
    clear H1
    simp only [Option.some.injEq, Prod.mk.injEq] at H
    obtain ⟨rfl, rfl⟩ := H
    go_enter Try.func41, Try.ntmps41
    go_wp2_with (first | ((with_reducible refine gate_dst (N := 1) rfl ?_); refine box_event ?hg (N := 1) ?hd (cs := #[.int .i64 a0_0, .slice A0_1 l0_1.length c0_1]) (t := 31) ?hr ?_; (case hd => rfl); (case hg => rfl); (case hr => first | (go_simp; done) | (go_simp; rfl)); intro gb1020 hg w10 hbox hb; have n0_ := Aside0.mk (below_step (by repeat (first | (with_reducible first | exact HB.out | apply below_alloc | apply pw_below_drewN | apply below_drew1) | exact HB.out)) hb); have n1_ := Aside0.mk (hbox); have n2_ := Aside0.mk ((by rw [hg]; exact (below_size (by repeat (first | (with_reducible first | exact HB.out | apply below_alloc | apply pw_below_drewN | apply below_drew1) | exact HB.out))) : w.heap.size ≤ gb1020)); have n3_ := Aside0.mk ((by rw [hg]; exact (below_size (by repeat (first | (with_reducible first | exact HB.out | apply below_alloc | apply pw_below_drewN | apply below_drew1) | exact HB.out))) : w.heap.size ≤ gb1020)); clear HB; have HB := n0_; have BK1020 := n1_; have GW1020 := n2_; have GE1020 := n3_; clear n0_ n1_ n2_ n3_; clear hb hbox hg; have hcz11_0 : w10.cell? ⟨gb1020, 0, none⟩ = some (.int .i64 a0_0) := (blk_cell BK1020.out 0).trans rfl; have hcz11_1 : w10.cell? ⟨gb1020, 1, none⟩ = some (.slice A0_1 l0_1.length c0_1) := (blk_cell BK1020.out 1).trans rfl; have hfz11_0 := blk_frozen BK1020.out 0; have hfz11_1 := blk_frozen BK1020.out 1) | ((with_reducible refine gate_callee (f := 47) rfl ?_); refine goesL_ (some 5) rfl rfl Try.func47 (by kernel_rfl) rfl #[.agg #[.int .i64 a0_0, .slice A0_1 l0_1.length c0_1]] rfl (by (try simp only [List.map_toArray, List.map_cons, List.map_nil]); first | done | rfl | (simp only [List.length_drop, List.length_take]; rfl)) ?_; (with_reducible refine (spec_pzGood.calls k a0_0 _ _ l0_1 false _ ?side1 ?side2 A2.out).mono ?_); (case side1 => repeat (first | exact (Kd.C_below HR0_1.out HB.out) | (with_reducible refine Kd.C_alloc ?_ _) | (with_reducible refine Kd.C_drewN ?_ _) | (with_reducible refine Kd.C_drew ?_))); (case side2 => exact HC0_1.out); rintro e w12 ⟨rfl, hb⟩; refine ⟨_, rfl, ?_⟩; have n0_ := Aside0.mk (blk_below (g := gb1020) (o := .cells #[.int .i64 a0_0, .slice A0_1 l0_1.length c0_1] 31 (0, 0)) (by (with_reducible repeat (first | refine blk_drewN ?_ _ | refine blk_drew ?_ | refine blk_alloc ?_ _)); exact BK1020.out) hb); have n1_ := Aside0.mk (below_step (by repeat (first | (with_reducible first | exact HB.out | apply below_alloc | apply pw_below_drewN | apply below_drew1 | refine below_set ?_ GE1020.out) | exact HB.out)) hb); clear BK1020; clear HB; have BK1020 := n0_; have HB := n1_; clear n0_ n1_; (try clear hb); (try clear hb2); (try clear hk); (try clear hi)))
    go_ret2
    exact ⟨_, by first | rfl | (simp [errW_none, errW_some] <;> rfl) | (simp [*, errW_none, errW_some] <;> rfl), by first | exact Kd.S_nil _ _ _ _ _ | exact Kd.N_nil _ _ _ _ _ | exact Kd.V_nil _ _ _ _ _ | exact Kd.Q_nil _ _ _ _ _ | exact Kd.R_nil _ _ _ _ _, by repeat (first | (with_reducible first | exact HB.out | apply below_alloc | apply pw_below_drewN | apply below_drew1 | refine below_set ?_ GE1020.out) | exact HB.out)⟩

/-! ### laws_eqIntSS: function 43 -/
def laws_eqIntSS.l0 : Nat → List (List Int) → List (List Int) → Int → Option (Bool)
  | 0, _, _, _ => none
  | k + 1, x0, x1, x5 => if x5 < (x0.length : Int) then (if 0 ≤ x5 then (if x5 < (x1.length : Int) then ((laws_eqIntS.f k (rd_L1 x0 x5) (rd_L1 x1 x5)).bind fun t1027 => (if t1027 = true then (laws_eqIntSS.l0 k x0 x1 (wrap64 (x5 + 1))) else (some false))) else (none)) else (none)) else (some true)
def laws_eqIntSS.f (k : Nat) (l0 : List (List Int)) (l1 : List (List Int)) : Option (Bool) := if (l0.length : Int) = (l1.length : Int) then (laws_eqIntSS.l0 k l0 l1 0) else (some false)
theorem laws_eqIntSS.mono_l : ∀ k, (∀ y0 y1 y2, LeO (laws_eqIntSS.l0 k y0 y1 y2) (laws_eqIntSS.l0 (k + 1) y0 y1 y2))
  | 0 => fun _ _ _ r h => by simp [laws_eqIntSS.l0] at h
  | k + 1 => by
    have ih0 := laws_eqIntSS.mono_l k
    · intro y0 y1 y2
      unfold laws_eqIntSS.l0
      repeat' first
      | (with_reducible exact ih0 _ _ _)
      | (with_reducible exact laws_eqIntS.mono _ _ _)
      | (with_reducible exact LeO.refl _)
      | (with_reducible exact LeO.none _)
      | (with_reducible refine LeO.ite ?_ ?_)
      | (with_reducible refine LeO.bind ?_ (fun _ => ?_))
      | exact ih0 _ _ _
      | exact laws_eqIntS.mono _ _ _
      | exact LeO.none _
      | refine LeO.ite ?_ ?_
      | refine LeO.bind ?_ (fun _ => ?_)
theorem laws_eqIntSS.mono : ∀ a0 a1 k, LeO (laws_eqIntSS.f k a0 a1) (laws_eqIntSS.f (k + 1) a0 a1) := by
  intro a0 a1 k
  have ih0 := laws_eqIntSS.mono_l k
  unfold laws_eqIntSS.f
  repeat' first
      | (with_reducible exact ih0 _ _ _)
      | (with_reducible exact laws_eqIntS.mono _ _ _)
      | (with_reducible exact LeO.refl _)
      | (with_reducible exact LeO.none _)
      | (with_reducible refine LeO.ite ?_ ?_)
      | (with_reducible refine LeO.bind ?_ (fun _ => ?_))
      | exact ih0 _ _ _
      | exact laws_eqIntS.mono _ _ _
      | exact LeO.none _
      | refine LeO.ite ?_ ?_
      | refine LeO.bind ?_ (fun _ => ?_)
set_option maxHeartbeats 8000000 in
set_option maxRecDepth 100000 in
theorem laws_eqIntSS.calls (k : Nat) (A0 : Option Addr) (c0 : Nat) (l0 : List (List Int)) (A1 : Option Addr) (c1 : Nat) (l1 : List (List Int)) (r : Bool) (w : World) (hr0 : Kd.C (Kd.slice 3 (Kd.int .i64)) w A0 l0.length l0) (hc0 : l0.length ≤ c0) (hr1 : Kd.C (Kd.slice 3 (Kd.int .i64)) w A1 l1.length l1) (hc1 : l1.length ≤ c1) (h : laws_eqIntSS.f k l0 l1 = some r) :
    Calls Try.prog 43 #[.slice A0 l0.length c0, .slice A1 l1.length c1] w fun e w' => e = .returned (.bool r) ∧ Drawn0 w w' := by
  have HR0 := Aside0.mk hr0
  have HC0 := Aside0.mk hc0
  clear hr0 hc0
  have HR1 := Aside0.mk hr1
  have HC1 := Aside0.mk hc1
  clear hr1 hc1
  have H : (if (l0.length : Int) = (l1.length : Int) then (laws_eqIntSS.l0 k l0 l1 0) else (some false)) = some r := h
  clear h
  by_cases c3 : (l0.length : Int) = (l1.length : Int)
  · rw [if_pos c3] at H
    have c3b0 : ((l0.length : Int) == (l1.length : Int)) = true := beq_iff_eq.mpr c3
    have c3b1 : ((l0.length : Int) != (l1.length : Int)) = false := bne_eq_false_iff_eq.mpr c3
    have c3b2 : (l0.length == l1.length) = true := by first | simpa using c3 | (simp at c3 ⊢; omega)
    clear c3
    have H' := Aside0.mk H
    clear H
    go_enter Try.func43, Try.ntmps43
    go_wp2
    repeat (go_quiet (fail); try go_wp2)
    go_loopg [5] k (fun kq v5 w' => ∃ (x5_1 : Int), v5 = .int .i64 x5_1 ∧ Aside0 (laws_eqIntSS.l0 kq l0 l1 x5_1 = some r) ∧ Aside0 (kq ≤ k) ∧ Drawn0 w w')
    case atStart => exact ⟨(0), (by first | rfl | (simp; done) | (simp [*]; done)), H', ⟨Nat.le_refl _⟩, by repeat (first | exact Drawn0.refl _ | apply Drawn0.step)⟩
    case round =>
      clear H'
      try clear c1
      try clear p2
      try clear c3
      try clear c3b0
      try clear c3b1
      try clear c3b2
      obtain ⟨x5_1, rfl, HA, HK1, ⟨m1, rfl⟩⟩ := hrel
      cases gk with
      | zero => exact absurd HA.out (by simp [laws_eqIntSS.l0])
      | succ k1 =>
        have H := HA.out
        clear HA
        simp only [laws_eqIntSS.l0] at H
        by_cases c4 : x5_1 < (l0.length : Int)
        · rw [if_pos c4] at H
          have c4b0 : decide (x5_1 < (l0.length : Int)) = true := decide_eq_true c4
          clear c4
          by_cases c5 : 0 ≤ x5_1
          · rw [if_pos c5] at H
            have c5b0 : decide (0 ≤ x5_1) = true := decide_eq_true c5
            clear c5
            by_cases c6 : x5_1 < (l1.length : Int)
            · rw [if_pos c6] at H
              have c6b0 : decide (x5_1 < (l1.length : Int)) = true := decide_eq_true c6
              clear c6
              replace H := Option.bind_eq_some_iff.mp H
              obtain ⟨t1027, A70, H⟩ := H
              replace H : (if t1027 = true then (laws_eqIntSS.l0 k1 l0 l1 (wrap64 (x5_1 + 1))) else (some false)) = some r := H
              have A7 := Aside0.mk A70
              clear A70
              by_cases c8 : t1027 = true
              · subst c8
                have H1 : (laws_eqIntSS.l0 k1 l0 l1 (wrap64 (x5_1 + 1))) = some r := by rw [if_pos rfl] at H; exact H
                clear H
                have H := H1
                clear H1
                have H' := Aside0.mk H
                clear H
                have p1025 : 0 ≤ (x5_1 : Int) := of_decide_eq_true (by first | (with_reducible assumption) | assumption)
                have q1025 : x5_1 < (l0.length : Int) := of_decide_eq_true (by first | (with_reducible assumption) | assumption)
                obtain ⟨ad1025, A1025_0, c1025_0, e1025, hx1025_0, hl1025_0, hi1025_0⟩ := at_L1 HR0.out x5_1 p1025 q1025
                cases e1025
                have HR1025_0 := Aside0.mk hi1025_0
                have HC1025_0 := Aside0.mk hl1025_0
                clear hi1025_0 hl1025_0
                replace p1025 := eq_true p1025
                replace q1025 := eq_true q1025
                have p1026 : 0 ≤ (x5_1 : Int) := of_decide_eq_true (by first | (with_reducible assumption) | assumption)
                have q1026 : x5_1 < (l1.length : Int) := of_decide_eq_true (by first | (with_reducible assumption) | assumption)
                obtain ⟨ad1026, A1026_0, c1026_0, e1026, hx1026_0, hl1026_0, hi1026_0⟩ := at_L1 HR1.out x5_1 p1026 q1026
                cases e1026
                have HR1026_0 := Aside0.mk hi1026_0
                have HC1026_0 := Aside0.mk hl1026_0
                clear hi1026_0 hl1026_0
                replace p1026 := eq_true p1026
                replace q1026 := eq_true q1026
                go_wp2_with (first | (go_at_call 17; (with_reducible refine (laws_eqIntS.calls k1 _ _ (rd_L1 l0 x5_1) _ _ (rd_L1 l1 x5_1) true _ ?side1 ?side2 ?side3 ?side4 A7.out).mono ?_); (case side1 => repeat (first | exact HR1025_0.out | (with_reducible refine Kd.C_alloc ?_ _) | (with_reducible refine Kd.C_drewN ?_ _) | (with_reducible refine Kd.C_drew ?_))); (case side2 => exact HC1025_0.out); (case side3 => repeat (first | exact HR1026_0.out | (with_reducible refine Kd.C_alloc ?_ _) | (with_reducible refine Kd.C_drewN ?_ _) | (with_reducible refine Kd.C_drew ?_))); (case side4 => exact HC1026_0.out); rintro e w' ⟨rfl, ⟨nd, rfl⟩⟩; (try first | exact ⟨rfl, _, World.drewN_drewN _ _ _⟩ | exact ⟨rfl, _, Eq.trans (World.drewN_drewN _ _ _) (congrArg (World.drewN _) (Nat.add_assoc _ _ _))⟩)))
                repeat (go_quiet (first | (go_at_call 17; (with_reducible refine (laws_eqIntS.calls k1 _ _ (rd_L1 l0 x5_1) _ _ (rd_L1 l1 x5_1) true _ ?side1 ?side2 ?side3 ?side4 A7.out).mono ?_); (case side1 => repeat (first | exact HR1025_0.out | (with_reducible refine Kd.C_alloc ?_ _) | (with_reducible refine Kd.C_drewN ?_ _) | (with_reducible refine Kd.C_drew ?_))); (case side2 => exact HC1025_0.out); (case side3 => repeat (first | exact HR1026_0.out | (with_reducible refine Kd.C_alloc ?_ _) | (with_reducible refine Kd.C_drewN ?_ _) | (with_reducible refine Kd.C_drew ?_))); (case side4 => exact HC1026_0.out); rintro e w' ⟨rfl, ⟨nd, rfl⟩⟩; (try first | exact ⟨rfl, _, World.drewN_drewN _ _ _⟩ | exact ⟨rfl, _, Eq.trans (World.drewN_drewN _ _ _) (congrArg (World.drewN _) (Nat.add_assoc _ _ _))⟩))); try go_wp2_with (first | (go_at_call 17; (with_reducible refine (laws_eqIntS.calls k1 _ _ (rd_L1 l0 x5_1) _ _ (rd_L1 l1 x5_1) true _ ?side1 ?side2 ?side3 ?side4 A7.out).mono ?_); (case side1 => repeat (first | exact HR1025_0.out | (with_reducible refine Kd.C_alloc ?_ _) | (with_reducible refine Kd.C_drewN ?_ _) | (with_reducible refine Kd.C_drew ?_))); (case side2 => exact HC1025_0.out); (case side3 => repeat (first | exact HR1026_0.out | (with_reducible refine Kd.C_alloc ?_ _) | (with_reducible refine Kd.C_drewN ?_ _) | (with_reducible refine Kd.C_drew ?_))); (case side4 => exact HC1026_0.out); rintro e w' ⟨rfl, ⟨nd, rfl⟩⟩; (try first | exact ⟨rfl, _, World.drewN_drewN _ _ _⟩ | exact ⟨rfl, _, Eq.trans (World.drewN_drewN _ _ _) (congrArg (World.drewN _) (Nat.add_assoc _ _ _))⟩))))
                go_roundg k1
                case measure => have := HK1.out; omega
                case rel => exact ⟨(wrap64 (x5_1 + 1)), (by first | rfl | (simp; done) | (simp [*]; done)), H', ⟨by have := HK1.out; omega⟩, by repeat (first | exact Drawn0.refl _ | apply Drawn0.step)⟩
              · replace c8 := Bool.eq_false_iff.mpr c8
                subst c8
                have H1 : (some false) = some r := by rw [if_neg (show ¬ (false = true) by decide)] at H; exact H
                clear H
                have H := H1
                clear H1
                obtain rfl := Option.some.inj H
                have p1025 : 0 ≤ (x5_1 : Int) := of_decide_eq_true (by first | (with_reducible assumption) | assumption)
                have q1025 : x5_1 < (l0.length : Int) := of_decide_eq_true (by first | (with_reducible assumption) | assumption)
                obtain ⟨ad1025, A1025_0, c1025_0, e1025, hx1025_0, hl1025_0, hi1025_0⟩ := at_L1 HR0.out x5_1 p1025 q1025
                cases e1025
                have HR1025_0 := Aside0.mk hi1025_0
                have HC1025_0 := Aside0.mk hl1025_0
                clear hi1025_0 hl1025_0
                replace p1025 := eq_true p1025
                replace q1025 := eq_true q1025
                have p1026 : 0 ≤ (x5_1 : Int) := of_decide_eq_true (by first | (with_reducible assumption) | assumption)
                have q1026 : x5_1 < (l1.length : Int) := of_decide_eq_true (by first | (with_reducible assumption) | assumption)
                obtain ⟨ad1026, A1026_0, c1026_0, e1026, hx1026_0, hl1026_0, hi1026_0⟩ := at_L1 HR1.out x5_1 p1026 q1026
                cases e1026
                have HR1026_0 := Aside0.mk hi1026_0
                have HC1026_0 := Aside0.mk hl1026_0
                clear hi1026_0 hl1026_0
                replace p1026 := eq_true p1026
                replace q1026 := eq_true q1026
                go_wp2_with (first | (go_at_call 17; (with_reducible refine (laws_eqIntS.calls k1 _ _ (rd_L1 l0 x5_1) _ _ (rd_L1 l1 x5_1) false _ ?side1 ?side2 ?side3 ?side4 A7.out).mono ?_); (case side1 => repeat (first | exact HR1025_0.out | (with_reducible refine Kd.C_alloc ?_ _) | (with_reducible refine Kd.C_drewN ?_ _) | (with_reducible refine Kd.C_drew ?_))); (case side2 => exact HC1025_0.out); (case side3 => repeat (first | exact HR1026_0.out | (with_reducible refine Kd.C_alloc ?_ _) | (with_reducible refine Kd.C_drewN ?_ _) | (with_reducible refine Kd.C_drew ?_))); (case side4 => exact HC1026_0.out); rintro e w' ⟨rfl, ⟨nd, rfl⟩⟩; (try first | exact ⟨rfl, _, World.drewN_drewN _ _ _⟩ | exact ⟨rfl, _, Eq.trans (World.drewN_drewN _ _ _) (congrArg (World.drewN _) (Nat.add_assoc _ _ _))⟩)))
                repeat (go_quiet (first | (go_at_call 17; (with_reducible refine (laws_eqIntS.calls k1 _ _ (rd_L1 l0 x5_1) _ _ (rd_L1 l1 x5_1) false _ ?side1 ?side2 ?side3 ?side4 A7.out).mono ?_); (case side1 => repeat (first | exact HR1025_0.out | (with_reducible refine Kd.C_alloc ?_ _) | (with_reducible refine Kd.C_drewN ?_ _) | (with_reducible refine Kd.C_drew ?_))); (case side2 => exact HC1025_0.out); (case side3 => repeat (first | exact HR1026_0.out | (with_reducible refine Kd.C_alloc ?_ _) | (with_reducible refine Kd.C_drewN ?_ _) | (with_reducible refine Kd.C_drew ?_))); (case side4 => exact HC1026_0.out); rintro e w' ⟨rfl, ⟨nd, rfl⟩⟩; (try first | exact ⟨rfl, _, World.drewN_drewN _ _ _⟩ | exact ⟨rfl, _, Eq.trans (World.drewN_drewN _ _ _) (congrArg (World.drewN _) (Nat.add_assoc _ _ _))⟩))); try go_wp2_with (first | (go_at_call 17; (with_reducible refine (laws_eqIntS.calls k1 _ _ (rd_L1 l0 x5_1) _ _ (rd_L1 l1 x5_1) false _ ?side1 ?side2 ?side3 ?side4 A7.out).mono ?_); (case side1 => repeat (first | exact HR1025_0.out | (with_reducible refine Kd.C_alloc ?_ _) | (with_reducible refine Kd.C_drewN ?_ _) | (with_reducible refine Kd.C_drew ?_))); (case side2 => exact HC1025_0.out); (case side3 => repeat (first | exact HR1026_0.out | (with_reducible refine Kd.C_alloc ?_ _) | (with_reducible refine Kd.C_drewN ?_ _) | (with_reducible refine Kd.C_drew ?_))); (case side4 => exact HC1026_0.out); rintro e w' ⟨rfl, ⟨nd, rfl⟩⟩; (try first | exact ⟨rfl, _, World.drewN_drewN _ _ _⟩ | exact ⟨rfl, _, Eq.trans (World.drewN_drewN _ _ _) (congrArg (World.drewN _) (Nat.add_assoc _ _ _))⟩))))
                go_ret
                exact ⟨by first | rfl | (simp; done) | (simp [*]; done), by repeat (first | exact Drawn0.refl _ | apply Drawn0.step)⟩
            · rw [if_neg c6] at H
              exact absurd H (by simp)
          · rw [if_neg c5] at H
            exact absurd H (by simp)
        · rw [if_neg c4] at H
          have c4b0 : decide (x5_1 < (l0.length : Int)) = false := decide_eq_false c4
          clear c4
          obtain rfl := Option.some.inj H
          go_wp2
          repeat (go_quiet (fail); try go_wp2)
          go_ret
          exact ⟨by first | rfl | (simp; done) | (simp [*]; done), by repeat (first | exact Drawn0.refl _ | apply Drawn0.step)⟩
  · rw [if_neg c3] at H
    have c3b0 : ((l0.length : Int) == (l1.length : Int)) = false := beq_eq_false_iff_ne.mpr c3
    have c3b1 : ((l0.length : Int) != (l1.length : Int)) = true := bne_iff_ne.mpr c3
    have c3b2 : (l0.length == l1.length) = false := by first | simpa using c3 | (simp at c3 ⊢; omega)
    obtain rfl := Option.some.inj H
    go_enter Try.func43, Try.ntmps43
    go_wp2
    repeat (go_quiet (fail); try go_wp2)
    go_ret
    exact ⟨by first | rfl | (simp; done) | (simp [*]; done), by repeat (first | exact Drawn0.refl _ | apply Drawn0.step)⟩

/-! ### laws_markIntSS: function 44 -/
/-- A row of rows that lie apart: its row i is lent, written, and given back. -/
theorem lend_row {g base n cap : Nat} {ok : Nat → Prop} {W : World} {xs : List (List Int)} (h : Kd.S (Kd.slice 3 (Kd.int .i64)) 26 W base ok (.slice (some ⟨g, 0, none⟩) n cap) xs) (i : Int) (h0 : 0 ≤ i) (h1 : i < n) :
    ∃ (vi : Value) (oki : Nat → Prop), W.cell? ⟨g, i.toNat, none⟩ = some vi ∧ Kd.R (Kd.int .i64) 3 W base oki vi (xs.getD i.toNat []) ∧ (∀ k, oki k → ok k) ∧
      ∀ (W1 : World) (x' : List Int) (okp : Nat → Prop), Kd.R (Kd.int .i64) 3 W1 base okp vi x' → Kept W W1 oki → Kd.S (Kd.slice 3 (Kd.int .i64)) 26 W1 base ok (.slice (some ⟨g, 0, none⟩) n cap) (xs.set i.toNat x') := by
  obtain ⟨oki, c, hc, hM, hcell, hok, hH⟩ := Kd.S_lend h [] i h0 h1
  obtain ⟨vi, rfl, hR⟩ := hM
  refine ⟨vi, oki, ?_, hR, fun k hk => (hok k hk).1, fun W1 x' okp hR1 hK => ?_⟩
  · have := hcell 0 vi rfl
    simpa [Kd.slice] using this
  · refine Kd.H_back (okp := fun k => some k = vi.ownBlock) (Kd.H_step hH (fun k _ hn hlt => hK.2 k hlt hn)) ⟨vi, rfl, Kd.R_tight rfl hR1⟩ (fun k hk => hR.1 k hk.symm)
def laws_markIntSS.l0 : Nat → List (List Int) → Int → Int → Option (Int × List (List Int))
  | 0, _, _, _ => none
  | k + 1, x0, x1, x5 => if x5 < (x0.length : Int) then (if 0 ≤ x5 then ((laws_markIntS.f k (x0.getD x5.toNat []) x1).bind fun bt => (laws_markIntSS.l0 k (x0.set x5.toNat bt.2) bt.1 (wrap64 (x5 + 1)))) else none) else (some (x1, x0))
def laws_markIntSS.f (k : Nat) (l0 : List (List Int)) (a1 : Int) : Option (Int × List (List Int)) := laws_markIntSS.l0 k l0 a1 0
set_option maxHeartbeats 8000000 in
set_option maxRecDepth 100000 in
theorem laws_markIntSS.calls (k : Nat) (P0_ : Nat → Prop) (u : Value) (l0 : List (List Int)) (a1 : Int) (r1 : Int) (r2 : List (List Int)) (w0 w : World) (hB : Below w0.heap.size w0 w) (ho0 : Kd.S (Kd.slice 3 (Kd.int .i64)) 26 w w0.heap.size P0_ u l0) (h : laws_markIntSS.f k l0 a1 = some (r1, r2)) :
    Calls Try.prog 44 #[u, .int .i64 a1] w fun e w' => e = .returned (.int .i64 r1) ∧ Kd.S (Kd.slice 3 (Kd.int .i64)) 26 w' w0.heap.size P0_ u r2 ∧ Below w0.heap.size w0 w' ∧ Kept w w' P0_ := by
  obtain ⟨A, co, rfl⟩ := Kd.S_slice ho0
  have HO := Aside0.mk ho0
  have HK := Aside0.mk (Kept.refl w P0_)
  have HB := Aside0.mk hB
  clear hB ho0
  have H' := Aside0.mk (show (laws_markIntSS.l0 k l0 a1 0) = some (r1, r2) from h)
  clear h
  generalize hn : l0.length = n at HO ⊢
  clear hn
  go_enter Try.func44, Try.ntmps44
  go_wp2
  go_loopg [1, 5] k (fun kq v1 v5 w' => ∃ (x0_1 : List (List Int)) (x1_1 : Int) (x5_1 : Int), v1 = .int .i64 x1_1 ∧ v5 = .int .i64 x5_1 ∧ Aside0 (laws_markIntSS.l0 kq x0_1 x1_1 x5_1 = some (r1, r2)) ∧ Aside0 (kq ≤ k) ∧ Aside0 (Kd.S (Kd.slice 3 (Kd.int .i64)) 26 w' w0.heap.size P0_ (.slice A n co) x0_1) ∧ Aside0 (Kept w w' P0_) ∧ Aside0 (Below w0.heap.size w0 w'))
  case atStart => exact ⟨l0, a1, 0, rfl, rfl, H', ⟨Nat.le_refl _⟩, HO, HK, HB⟩
  case round =>
    clear H' HO HK HB
    obtain ⟨x0_1, x1_1, x5_1, rfl, rfl, HA, HK1, HO, HK, HB⟩ := hrel
    cases gk with
    | zero => exact absurd HA.out (by simp [laws_markIntSS.l0])
    | succ k1 =>
      have H := HA.out
      clear HA
      have hlen := (Kd.S_reads' HO.out).1
      simp only [laws_markIntSS.l0] at H
      by_cases c3 : x5_1 < (x0_1.length : Int)
      · rw [if_pos c3] at H
        have c3b0 : decide (x5_1 < (n : Int)) = true := decide_eq_true (by omega)
        by_cases c4 : 0 ≤ x5_1
        · rw [if_pos c4] at H
          obtain ⟨⟨m, x'⟩, A0, H⟩ := Option.bind_eq_some_iff.mp H
          replace H : laws_markIntSS.l0 k1 (x0_1.set x5_1.toNat x') m (wrap64 (x5_1 + 1)) = some (r1, r2) := H
          have H' := Aside0.mk H
          clear H
          obtain ⟨g, cap, ev, -, -, -⟩ := Kd.S_form HO.out (by omega)
          injection ev with eA en ec
          subst eA
          have h1 : x5_1 < n := by omega
          obtain ⟨vi, oki, hcell, hRi, hok, hback⟩ := lend_row HO.out x5_1 c4 h1
          have hcall := Aside0.mk (laws_markIntS.calls k1 oki vi _ x1_1 m x' w0 wr HB.out hRi A0)
          obtain ⟨Ai, ci, rfl⟩ := Kd.R_slice hRi
          have HBK := Aside0.mk hback
          have HOK := Aside0.mk hok
          clear hback hok hRi A0 hlen HO HB en ec
          have c4b : decide (0 ≤ x5_1) = true := decide_eq_true c4
          have p5 := eq_true c4
          have q5 := eq_true h1
          clear c3 c4 h1
          go_wp2_with (go_at_call 20; refine hcall.out.mono ?_; rintro e w1 ⟨rfl, hR1, hB1, hK1⟩; have HR1 := Aside0.mk hR1; have HB1 := Aside0.mk hB1; have HK2 := Aside0.mk hK1; clear hR1 hB1 hK1)
          go_roundg k1
          case measure => have := HK1.out; omega
          case rel => exact ⟨x0_1.set x5_1.toNat x', m, wrap64 (x5_1 + 1), rfl, (by first | rfl | (simp; done)), H', ⟨by have := HK1.out; omega⟩, ⟨HBK.out _ x' _ HR1.out HK2.out⟩, ⟨HK.out.then_ HK2.out (fun k hk => .inl (HOK.out k hk))⟩, HB1⟩
        · rw [if_neg c4] at H
          exact absurd H (by simp)
      · rw [if_neg c3] at H
        have c3b0 : decide (x5_1 < (n : Int)) = false := decide_eq_false (by omega)
        clear c3 hlen
        simp only [Option.some.injEq, Prod.mk.injEq] at H
        obtain ⟨rfl, rfl⟩ := H
        go_wp2
        go_ret
        exact ⟨rfl, HO.out, HB.out, HK.out⟩

/-! ### laws_heldIntSS: function 45 -/
def laws_heldIntSS.l0 : Nat → List (List Int) → Int → Int → Option (Int)
  | 0, _, _, _ => none
  | k + 1, x0, x1, x5 => if x5 < (x0.length : Int) then (if 0 ≤ x5 then ((laws_heldIntS.f k (rd_L1 x0 x5) x1).bind fun t1029 => (if t1029 < 0 then (some (-1)) else (laws_heldIntSS.l0 k x0 t1029 (wrap64 (x5 + 1))))) else (none)) else (some x1)
def laws_heldIntSS.f (k : Nat) (l0 : List (List Int)) (a1 : Int) : Option (Int) := laws_heldIntSS.l0 k l0 a1 0
theorem laws_heldIntSS.mono_l : ∀ k, (∀ y0 y1 y2, LeO (laws_heldIntSS.l0 k y0 y1 y2) (laws_heldIntSS.l0 (k + 1) y0 y1 y2))
  | 0 => fun _ _ _ r h => by simp [laws_heldIntSS.l0] at h
  | k + 1 => by
    have ih0 := laws_heldIntSS.mono_l k
    · intro y0 y1 y2
      unfold laws_heldIntSS.l0
      repeat' first
      | (with_reducible exact ih0 _ _ _)
      | (with_reducible exact laws_heldIntS.mono _ _ _)
      | (with_reducible exact LeO.refl _)
      | (with_reducible exact LeO.none _)
      | (with_reducible refine LeO.ite ?_ ?_)
      | (with_reducible refine LeO.bind ?_ (fun _ => ?_))
      | exact ih0 _ _ _
      | exact laws_heldIntS.mono _ _ _
      | exact LeO.none _
      | refine LeO.ite ?_ ?_
      | refine LeO.bind ?_ (fun _ => ?_)
theorem laws_heldIntSS.mono : ∀ a0 a1 k, LeO (laws_heldIntSS.f k a0 a1) (laws_heldIntSS.f (k + 1) a0 a1) := by
  intro a0 a1 k
  have ih0 := laws_heldIntSS.mono_l k
  unfold laws_heldIntSS.f
  repeat' first
      | (with_reducible exact ih0 _ _ _)
      | (with_reducible exact laws_heldIntS.mono _ _ _)
      | (with_reducible exact LeO.refl _)
      | (with_reducible exact LeO.none _)
      | (with_reducible refine LeO.ite ?_ ?_)
      | (with_reducible refine LeO.bind ?_ (fun _ => ?_))
      | exact ih0 _ _ _
      | exact laws_heldIntS.mono _ _ _
      | exact LeO.none _
      | refine LeO.ite ?_ ?_
      | refine LeO.bind ?_ (fun _ => ?_)
set_option maxHeartbeats 8000000 in
set_option maxRecDepth 100000 in
theorem laws_heldIntSS.calls (k : Nat) (A0 : Option Addr) (c0 : Nat) (l0 : List (List Int)) (a1 : Int) (r : Int) (w : World) (hr0 : Kd.C (Kd.slice 3 (Kd.int .i64)) w A0 l0.length l0) (hc0 : l0.length ≤ c0) (h : laws_heldIntSS.f k l0 a1 = some r) :
    Calls Try.prog 45 #[.slice A0 l0.length c0, .int .i64 a1] w fun e w' => e = .returned (.int .i64 r) ∧ Drawn0 w w' := by
  have HR0 := Aside0.mk hr0
  have HC0 := Aside0.mk hc0
  clear hr0 hc0
  have H : (laws_heldIntSS.l0 k l0 a1 0) = some r := h
  clear h
  have H' := Aside0.mk H
  clear H
  go_enter Try.func45, Try.ntmps45
  go_wp2
  go_loopg [1, 5] k (fun kq v1 v5 w' => ∃ (x1_1 : Int) (x5_1 : Int), v1 = .int .i64 x1_1 ∧ v5 = .int .i64 x5_1 ∧ Aside0 (laws_heldIntSS.l0 kq l0 x1_1 x5_1 = some r) ∧ Aside0 (kq ≤ k) ∧ Drawn0 w w')
  case atStart => exact ⟨(a1), (0), (by first | rfl | (simp; done) | (simp [*]; done)), (by first | rfl | (simp; done) | (simp [*]; done)), H', ⟨Nat.le_refl _⟩, by repeat (first | exact Drawn0.refl _ | apply Drawn0.step)⟩
  case round =>
    clear H'
    try clear p2
    obtain ⟨x1_1, x5_1, rfl, rfl, HA, HK1, ⟨m1, rfl⟩⟩ := hrel
    cases gk with
    | zero => exact absurd HA.out (by simp [laws_heldIntSS.l0])
    | succ k1 =>
      have H := HA.out
      clear HA
      simp only [laws_heldIntSS.l0] at H
      by_cases c3 : x5_1 < (l0.length : Int)
      · rw [if_pos c3] at H
        have c3b0 : decide (x5_1 < (l0.length : Int)) = true := decide_eq_true c3
        clear c3
        by_cases c4 : 0 ≤ x5_1
        · rw [if_pos c4] at H
          have c4b0 : decide (0 ≤ x5_1) = true := decide_eq_true c4
          clear c4
          replace H := Option.bind_eq_some_iff.mp H
          obtain ⟨t1029, A50, H⟩ := H
          replace H : (if t1029 < 0 then (some (-1)) else (laws_heldIntSS.l0 k1 l0 t1029 (wrap64 (x5_1 + 1)))) = some r := H
          have A5 := Aside0.mk A50
          clear A50
          by_cases c6 : t1029 < 0
          · rw [if_pos c6] at H
            have c6b0 : decide (t1029 < 0) = true := decide_eq_true c6
            clear c6
            obtain rfl := Option.some.inj H
            have p1028 : 0 ≤ (x5_1 : Int) := of_decide_eq_true (by first | (with_reducible assumption) | assumption)
            have q1028 : x5_1 < (l0.length : Int) := of_decide_eq_true (by first | (with_reducible assumption) | assumption)
            obtain ⟨ad1028, A1028_0, c1028_0, e1028, hx1028_0, hl1028_0, hi1028_0⟩ := at_L1 HR0.out x5_1 p1028 q1028
            cases e1028
            have HR1028_0 := Aside0.mk hi1028_0
            have HC1028_0 := Aside0.mk hl1028_0
            clear hi1028_0 hl1028_0
            replace p1028 := eq_true p1028
            replace q1028 := eq_true q1028
            go_wp2_with (first | ((with_reducible refine gate_callee (f := 21) rfl ?_); refine goesL_ (some 17) rfl rfl Try.func21 (by kernel_rfl) rfl #[.slice A1028_0 (rd_L1 l0 x5_1).length c1028_0, .int .i64 x1_1] rfl (by (try simp only [List.map_toArray, List.map_cons, List.map_nil]); first | done | rfl | (simp only [List.length_drop, List.length_take]; rfl)) ?_; (with_reducible refine (laws_heldIntS.calls k1 _ _ (rd_L1 l0 x5_1) x1_1 t1029 _ ?side1 ?side2 A5.out).mono ?_); (case side1 => repeat (first | exact HR1028_0.out | (with_reducible refine Kd.C_alloc ?_ _) | (with_reducible refine Kd.C_drewN ?_ _) | (with_reducible refine Kd.C_drew ?_))); (case side2 => exact HC1028_0.out); rintro e w' ⟨rfl, ⟨nd, rfl⟩⟩; refine ⟨_, rfl, ?_⟩))
            go_ret
            exact ⟨by first | rfl | (simp; done) | (simp [*]; done), by repeat (first | exact Drawn0.refl _ | apply Drawn0.step)⟩
          · rw [if_neg c6] at H
            have c6b0 : decide (t1029 < 0) = false := decide_eq_false c6
            clear c6
            have H' := Aside0.mk H
            clear H
            have p1028 : 0 ≤ (x5_1 : Int) := of_decide_eq_true (by first | (with_reducible assumption) | assumption)
            have q1028 : x5_1 < (l0.length : Int) := of_decide_eq_true (by first | (with_reducible assumption) | assumption)
            obtain ⟨ad1028, A1028_0, c1028_0, e1028, hx1028_0, hl1028_0, hi1028_0⟩ := at_L1 HR0.out x5_1 p1028 q1028
            cases e1028
            have HR1028_0 := Aside0.mk hi1028_0
            have HC1028_0 := Aside0.mk hl1028_0
            clear hi1028_0 hl1028_0
            replace p1028 := eq_true p1028
            replace q1028 := eq_true q1028
            go_wp2_with (first | ((with_reducible refine gate_callee (f := 21) rfl ?_); refine goesL_ (some 17) rfl rfl Try.func21 (by kernel_rfl) rfl #[.slice A1028_0 (rd_L1 l0 x5_1).length c1028_0, .int .i64 x1_1] rfl (by (try simp only [List.map_toArray, List.map_cons, List.map_nil]); first | done | rfl | (simp only [List.length_drop, List.length_take]; rfl)) ?_; (with_reducible refine (laws_heldIntS.calls k1 _ _ (rd_L1 l0 x5_1) x1_1 t1029 _ ?side1 ?side2 A5.out).mono ?_); (case side1 => repeat (first | exact HR1028_0.out | (with_reducible refine Kd.C_alloc ?_ _) | (with_reducible refine Kd.C_drewN ?_ _) | (with_reducible refine Kd.C_drew ?_))); (case side2 => exact HC1028_0.out); rintro e w' ⟨rfl, ⟨nd, rfl⟩⟩; refine ⟨_, rfl, ?_⟩))
            go_roundg k1
            case measure => have := HK1.out; omega
            case rel => exact ⟨(t1029), (wrap64 (x5_1 + 1)), (by first | rfl | (simp; done) | (simp [*]; done)), (by first | rfl | (simp; done) | (simp [*]; done)), H', ⟨by have := HK1.out; omega⟩, by repeat (first | exact Drawn0.refl _ | apply Drawn0.step)⟩
        · rw [if_neg c4] at H
          exact absurd H (by simp)
      · rw [if_neg c3] at H
        have c3b0 : decide (x5_1 < (l0.length : Int)) = false := decide_eq_false c3
        clear c3
        obtain rfl := Option.some.inj H
        go_wp2
        go_ret
        exact ⟨by first | rfl | (simp; done) | (simp [*]; done), by repeat (first | exact Drawn0.refl _ | apply Drawn0.step)⟩

/-! ### laws_FnExactSolutions: function 12 -/
def laws_FnExactSolutions.f (k : Nat) (a0_0 : Int) (l0_1 : List (S42)) : Option Bool := (laws_szPuzzle.f a0_0 l0_1 1048576).bind fun t => if t < 0 then some true else
  ((laws_toPuzzle.f k a0_0 l0_1).bind fun p => (spec_Solutions.f k p.1 p.2).bind fun s => (impl_Solutions.f k p.1 p.2).bind fun g => if g = s then ((laws_eqIntSS.f k s.1 s.1).bind fun t1 => if t1 = true then ((laws_eqPuzzle.f k p.1 p.2 p.1 p.2).bind fun t2 => if t2 = true then
    ((laws_markPuzzle.f k p.1 p.2 1).bind fun mp => if mp.1 < 0 then none else ((laws_markIntSS.f k s.1 1).bind fun m => (laws_heldIntSS.f k m.2 1).bind fun q => if q < 0 then none else if q = m.1 then some true else none)) else none) else none) else none)
theorem KeptS {d : Kd (List Int)} {e base : Nat} {ok S : Nat → Prop} {w w1 : World} {v : Value} {xs : List (List Int)} (h : Kd.S d e w base ok v xs) (hk : Kept w w1 S) (hne : ∀ k, ok k → ¬ S k) : Kd.S d e w1 base ok v xs := Kd.S_step h (fun k ho hlt => hk.2 k hlt (hne k ho))
theorem solStored {W : World} {g : Nat} {x0 x1 : Value} {t : TypeId} (h : W.heap[g]? = some (.cells #[x0, x1] t (0, 0))) (a b : Value) :
    ((W.setCell ⟨g, 0, none⟩ a).setCell ⟨g, 1, none⟩ b).heap[g]? = some (.cells #[a, b] t (0, 0)) ∧ (∀ k, k ≠ g → ((W.setCell ⟨g, 0, none⟩ a).setCell ⟨g, 1, none⟩ b).heap[k]? = W.heap[k]?) ∧ (∀ w : World, Below w.heap.size w W → w.heap.size ≤ g → Below w.heap.size w ((W.setCell ⟨g, 0, none⟩ a).setCell ⟨g, 1, none⟩ b)) ∧ ((W.setCell ⟨g, 0, none⟩ a).setCell ⟨g, 1, none⟩ b).heap.size = W.heap.size := by
  refine ⟨blk_put (cs := #[a, x1]) (blk_put h 0 a rfl) 1 b rfl, fun k hk => ?_, fun w hb hg => below_set (below_set hb hg) hg, by simp⟩
  rw [Below.heap_setCell _ ⟨g, 1, none⟩ b k hk, Below.heap_setCell _ ⟨g, 0, none⟩ a k hk]
set_option maxHeartbeats 8000000 in
set_option maxRecDepth 100000 in
theorem laws_FnExactSolutions.calls (k : Nat) (a0_0 : Int) (A0_1 : Option Addr) (c0_1 : Nat) (l0_1 : List (S42)) (r : Bool) (w : World) (hr0_1 : Kd.C k42 w A0_1 l0_1.length l0_1) (hc0_1 : l0_1.length ≤ c0_1) (h : laws_FnExactSolutions.f k a0_0 l0_1 = some r) :
    Calls Try.prog 12 #[.agg #[.int .i64 a0_0, .slice A0_1 l0_1.length c0_1]] w fun e w' => e = .returned (.bool r) ∧ Below w.heap.size w w' := by
  have hu1 := Try.underlying24
  have hu2 := Try.underlying31
  unfold laws_FnExactSolutions.f at h
  obtain ⟨t, A20, h⟩ := Option.bind_eq_some_iff.mp h
  have A2 := Aside0.mk fun (W : World) (hb : Below w.heap.size w W) => laws_szPuzzle.calls a0_0 A0_1 c0_1 l0_1 1048576 t W (Kd.C_below hr0_1 hb) hc0_1 A20
  have HB := Aside0.mk (Below.refl w.heap.size w)
  by_cases c3 : t < 0
  · rw [if_pos c3] at h
    have c3b0 : decide (t < 0) = true := decide_eq_true c3
    obtain rfl := Option.some.inj h
    clear c3 h hr0_1 hc0_1 A20
    go_enter Try.func12, Try.ntmps12
    go_wp2_with (first | ((with_reducible refine gate_dst (N := 1) rfl ?_); refine box_event ?hg (N := 1) ?hd (cs := #[.int .i64 a0_0, .slice A0_1 l0_1.length c0_1]) (t := 24) ?hr ?_; (case hd => rfl); (case hg => rfl); (case hr => first | (go_simp; done) | (go_simp; rfl)); intro gb1 hg w1 hbox hb; have nb_ := Aside0.mk (below_step (by repeat (first | (with_reducible first | exact HB.out | apply below_alloc | apply pw_below_drewN | apply below_drew1) | exact HB.out)) hb); have nc_ := Aside0.mk hbox; have nd_ := Aside0.mk ((by rw [hg]; exact (below_size (by repeat (first | (with_reducible first | exact HB.out | apply below_alloc | apply pw_below_drewN | apply below_drew1) | exact HB.out))) : w.heap.size ≤ gb1)); clear HB hb hbox hg; have HB := nb_; have BK1 := nc_; have GE1 := nd_; clear nb_ nc_ nd_; have hz1_0 := (blk_cell BK1.out 0); have hf1_0 := (blk_frozen BK1.out 0); simp at hz1_0; have hz1_1 := (blk_cell BK1.out 1); have hf1_1 := (blk_frozen BK1.out 1); simp at hz1_1; skip) | (go_at_call 13; refine (A2.out _ (by repeat (first | (with_reducible first | exact HB.out | apply below_alloc | apply pw_below_drewN | apply below_drew1) | exact HB.out))).mono ?_; rintro e w20 ⟨rfl, hb⟩; have n0_ := Aside0.mk (blk_below (pk BK1.out) hb); have nb_ := Aside0.mk (below_step (by repeat (first | (with_reducible first | exact HB.out | apply below_alloc | apply pw_below_drewN | apply below_drew1) | exact HB.out)) hb); clear BK1 HB hb; have BK1 := n0_; have HB := nb_; clear nb_ n0_; have hq1_0 := (blk_cell BK1.out 0); simp at hq1_0; have hq1_1 := (blk_cell BK1.out 1); simp at hq1_1))
    go_ret
    exact ⟨rfl, (by repeat (first | (with_reducible first | exact HB.out | apply below_alloc | apply pw_below_drewN | apply below_drew1) | exact HB.out))⟩
  rw [if_neg c3] at h
  have c3b0 : decide (t < 0) = false := decide_eq_false c3
  clear c3
  obtain ⟨⟨p1, p2⟩, A70, h⟩ := Option.bind_eq_some_iff.mp h
  obtain ⟨⟨s1, s2⟩, A80, h⟩ := Option.bind_eq_some_iff.mp h
  obtain ⟨g, A100, h⟩ := Option.bind_eq_some_iff.mp h
  dsimp only at A80 A100 h
  by_cases hg : g = (s1, s2)
  rotate_left
  · rw [if_neg hg] at h; exact absurd h (by simp)
  rw [if_pos hg] at h
  subst hg
  obtain ⟨t1, A260, h⟩ := Option.bind_eq_some_iff.mp h
  by_cases ht : t1 = true
  rotate_left
  · rw [if_neg ht] at h; exact absurd h (by simp)
  rw [if_pos ht] at h
  subst ht
  obtain ⟨t2, A340, h⟩ := Option.bind_eq_some_iff.mp h
  by_cases ht : t2 = true
  rotate_left
  · rw [if_neg ht] at h; exact absurd h (by simp)
  rw [if_pos ht] at h
  subst ht
  obtain ⟨⟨m1, m2⟩, A360, h⟩ := Option.bind_eq_some_iff.mp h
  dsimp only at h
  by_cases c5 : m1 < 0
  · rw [if_pos c5] at h; exact absurd h (by simp)
  rw [if_neg c5] at h
  have c5b0 : decide (m1 < 0) = false := decide_eq_false c5
  clear c5
  obtain ⟨⟨m, l'⟩, A60, h⟩ := Option.bind_eq_some_iff.mp h
  obtain ⟨q, A90, h⟩ := Option.bind_eq_some_iff.mp h
  dsimp only at A90 h
  by_cases c6 : q < 0
  · rw [if_pos c6] at h; exact absurd h (by simp)
  rw [if_neg c6] at h
  have c6b0 : decide (q < 0) = false := decide_eq_false c6
  clear c6
  by_cases hm : q = m
  rotate_left
  · rw [if_neg hm] at h; exact absurd h (by simp)
  rw [if_pos hm] at h
  obtain rfl := Option.some.inj h
  have hm0 : (q == m) = true := beq_iff_eq.mpr hm
  have hm1 : (q != m) = false := bne_eq_false_iff_eq.mpr hm
  clear hm h
  have hok1 : (s2 != s2) = false := by simp
  have hok0 : (s2 == s2) = true := by simp
  have A7 := Aside0.mk fun (W : World) (hb : Below w.heap.size w W) => laws_toPuzzle.calls k a0_0 A0_1 c0_1 l0_1 p1 p2 W (Kd.C_below hr0_1 hb) hc0_1 A70
  have A8 := Aside0.mk fun W A c h1 h2 => spec_Solutions.calls k p1 A c p2 s1 s2 W h1 h2 A80
  have A10 := Aside0.mk fun W A c h1 h2 => impl_Solutions.calls k p1 A c p2 s1 s2 W h1 h2 A100
  have A26 := Aside0.mk fun W A c A' c' h1 h2 h3 h4 => laws_eqIntSS.calls k A c s1 A' c' s1 true W h1 h2 h3 h4 A260
  have A34 := Aside0.mk fun W A c A' c' h1 h2 h3 h4 => laws_eqPuzzle.calls k p1 A c p2 p1 A' c' p2 true W h1 h2 h3 h4 A340
  have A36 := Aside0.mk fun P_ u w0 W h1 h2 => laws_markPuzzle.calls k p1 P_ u p2 1 m1 m2 w0 W h1 h2 A360
  have A6 := Aside0.mk fun P_ u w0 W h1 h2 => laws_markIntSS.calls k P_ u s1 1 m l' w0 W h1 h2 A60
  have A9 := Aside0.mk fun W A c h1 h2 => laws_heldIntSS.calls k A c l' 1 q W h1 h2 A90
  clear A20 A70 A80 A100 A260 A340 A360 A60 A90 hr0_1 hc0_1
  go_enter Try.func12, Try.ntmps12
  go_upto_region 6 with (first | ((with_reducible refine gate_dst (N := 1) rfl ?_); refine box_event ?hg (N := 1) ?hd (cs := #[.int .i64 a0_0, .slice A0_1 l0_1.length c0_1]) (t := 24) ?hr ?_; (case hd => rfl); (case hg => rfl); (case hr => first | (go_simp; done) | (go_simp; rfl)); intro gb1 hg w1 hbox hb; have nb_ := Aside0.mk (below_step (by repeat (first | (with_reducible first | exact HB.out | apply below_alloc | apply pw_below_drewN | apply below_drew1) | exact HB.out)) hb); have nc_ := Aside0.mk hbox; have nd_ := Aside0.mk ((by rw [hg]; exact (below_size (by repeat (first | (with_reducible first | exact HB.out | apply below_alloc | apply pw_below_drewN | apply below_drew1) | exact HB.out))) : w.heap.size ≤ gb1)); clear HB hb hbox hg; have HB := nb_; have BK1 := nc_; have GE1 := nd_; clear nb_ nc_ nd_; have hz1_0 := (blk_cell BK1.out 0); have hf1_0 := (blk_frozen BK1.out 0); simp at hz1_0; have hz1_1 := (blk_cell BK1.out 1); have hf1_1 := (blk_frozen BK1.out 1); simp at hz1_1; skip) | (go_at_call 13; refine (A2.out _ (by repeat (first | (with_reducible first | exact HB.out | apply below_alloc | apply pw_below_drewN | apply below_drew1) | exact HB.out))).mono ?_; rintro e w20 ⟨rfl, hb⟩; have n0_ := Aside0.mk (blk_below (pk BK1.out) hb); have nb_ := Aside0.mk (below_step (by repeat (first | (with_reducible first | exact HB.out | apply below_alloc | apply pw_below_drewN | apply below_drew1) | exact HB.out)) hb); clear BK1 HB hb; have BK1 := n0_; have HB := nb_; clear nb_ n0_; have hq1_0 := (blk_cell BK1.out 0); simp at hq1_0; have hq1_1 := (blk_cell BK1.out 1); simp at hq1_1) | (go_at_call 15; refine (A7.out _ (by repeat (first | (with_reducible first | exact HB.out | apply below_alloc | apply pw_below_drewN | apply below_drew1) | exact HB.out))).mono ?_; rintro e w21 ⟨v1, rfl, ho, hb⟩; obtain ⟨At, ct, rfl⟩ := Kd.R_slice ho; have HT := Aside0.mk ho; clear ho; have n0_ := Aside0.mk (blk_below (pk BK1.out) hb); have nb_ := Aside0.mk (below_step (by repeat (first | (with_reducible first | exact HB.out | apply below_alloc | apply pw_below_drewN | apply below_drew1) | exact HB.out)) hb); clear BK1 HB hb; have BK1 := n0_; have HB := nb_; clear nb_ n0_; have hq1_0 := (blk_cell BK1.out 0); simp at hq1_0; have hq1_1 := (blk_cell BK1.out 1); simp at hq1_1) | (go_at_call 41; refine (A8.out _ At ct (Kd.R_reads' (Kd.pR HT.out)).2.2 (Kd.R_reads' HT.out).2.1).mono ?_; rintro e w22 ⟨v2, rfl, ho, hb⟩; obtain ⟨As, cs, rfl⟩ := Kd.S_slice ho; have HS := Aside0.mk (Kd.S_mono (ok' := fun k => k < w22.heap.size) (Kd.S_bound (Kd.S_lower ho (below_size (by repeat (first | (with_reducible first | exact HB.out | apply below_alloc | apply pw_below_drewN | apply below_drew1) | exact HB.out))))) (fun k hk => hk.2.2.1)); clear ho HT; have n0_ := Aside0.mk (blk_below (pk BK1.out) hb); have nb_ := Aside0.mk (below_step (by repeat (first | (with_reducible first | exact HB.out | apply below_alloc | apply pw_below_drewN | apply below_drew1) | exact HB.out)) hb); clear BK1 HB hb; have BK1 := n0_; have HB := nb_; clear nb_ n0_; have hq1_0 := (blk_cell BK1.out 0); simp at hq1_0; have hq1_1 := (blk_cell BK1.out 1); simp at hq1_1))
  have LT1 := Aside0.mk (blk_lt BK1.out)
  go_upto_region 7 with (first | (go_at_call 15; refine (A7.out _ (by repeat (first | (with_reducible first | exact HB.out | apply below_alloc | apply pw_below_drewN | apply below_drew1) | exact HB.out))).mono ?_; rintro e w23 ⟨v3, rfl, ho, hb⟩; obtain ⟨Ax, cx, rfl⟩ := Kd.R_slice ho; have HX := Aside0.mk (Kd.R_mono (ok' := fun k => w22.heap.size ≤ k ∧ k < w23.heap.size) (Kd.R_lower (Kd.R_bound ho) (below_size (by repeat (first | (with_reducible first | exact HB.out | apply below_alloc | apply pw_below_drewN | apply below_drew1) | exact HB.out)))) (fun k hk => ⟨Nat.le_trans (below_size (by repeat (first | exact Below.refl _ _ | apply pw_below_drewN | apply below_drew1 | apply below_alloc))) hk.2.1, hk.2.2.1⟩)); have SZ := Aside0.mk (Nat.le_trans (below_size (by repeat (first | exact Below.refl _ _ | apply pw_below_drewN | apply below_drew1 | apply below_alloc))) hb.size : w22.heap.size ≤ w23.heap.size); clear ho; have n0_ := Aside0.mk (blk_below (pk BK1.out) hb); have n1_ := Aside0.mk (Kd.S_below (Kd.pS HS.out) hb); have nb_ := Aside0.mk (below_step (by repeat (first | (with_reducible first | exact HB.out | apply below_alloc | apply pw_below_drewN | apply below_drew1) | exact HB.out)) hb); clear BK1 HS HB hb; have BK1 := n0_; have HS := n1_; have HB := nb_; clear nb_ n0_ n1_; have hq1_0 := (blk_cell BK1.out 0); simp at hq1_0; have hq1_1 := (blk_cell BK1.out 1); simp at hq1_1) | ((with_reducible refine gate_dst (N := 6) rfl ?_); refine box_event ?hg (N := 6) ?hd (cs := #[.int .i64 0, .slice none 0 0]) (t := 31) ?hr ?_; (case hd => rfl); (case hg => rfl); (case hr => first | (go_simp; done) | (go_simp; rfl)); intro gb6 hg w6 hbox hb; have n0_ := Aside0.mk (blk_below (pk BK1.out) hb); have m0_ := Aside0.mk ((by rw [hg]; exact Nat.ne_of_lt (blk_lt (pk BK1.out)) : gb1 ≠ gb6)); have nb_ := Aside0.mk (below_step (by repeat (first | (with_reducible first | exact HB.out | apply below_alloc | apply pw_below_drewN | apply below_drew1) | exact HB.out)) hb); have nc_ := Aside0.mk hbox; have nd_ := Aside0.mk ((by rw [hg]; exact (below_size (by repeat (first | (with_reducible first | exact HB.out | apply below_alloc | apply pw_below_drewN | apply below_drew1) | exact HB.out))) : w.heap.size ≤ gb6)); have p0_ := Aside0.mk (Kd.R_below (Kd.pR HX.out) hb); have p1_ := Aside0.mk (Kd.S_below (Kd.pS HS.out) hb); have GX6 := Aside0.mk ((by rw [hg]; exact (below_size (by repeat (first | exact Below.refl _ _ | apply pw_below_drewN | apply below_drew1 | apply below_alloc)))) : w23.heap.size ≤ gb6); have SZ6 := Aside0.mk (Nat.le_trans (below_size (by repeat (first | exact Below.refl _ _ | apply pw_below_drewN | apply below_drew1 | apply below_alloc))) hb.size : w23.heap.size ≤ w6.heap.size); clear HX HS; have HX := p0_; have HS := p1_; clear p0_ p1_; clear HB hb hbox hg; clear BK1; have BK1 := n0_; have NE1_6 := m0_; have HB := nb_; have BK6 := nc_; have GE6 := nd_; clear nb_ nc_ nd_ n0_ m0_; have hz6_0 := (blk_cell BK6.out 0); have hf6_0 := (blk_frozen BK6.out 0); simp at hz6_0; have hz6_1 := (blk_cell BK6.out 1); have hf6_1 := (blk_frozen BK6.out 1); simp at hz6_1; skip))
  have hs6 := solStored BK6.out (.int .i64 p1) (.slice Ax p2.length cx)
  have n0_ := Aside0.mk (hs6.2.2.1 w HB.out GE6.out)
  have n1_ := Aside0.mk hs6.1
  have n2_ := Aside0.mk ((hs6.2.1 gb1 NE1_6.out).trans BK1.out)
  have n3_ := Aside0.mk (Kd.R_step HX.out (fun k hk _ => hs6.2.1 k (fun e => by have := GX6.out; have := hk.2; omega)))
  have n4_ := Aside0.mk (Kd.S_step HS.out (fun k hk _ => hs6.2.1 k (fun e => by have := GX6.out; have := SZ.out; have h_ : k < w22.heap.size := hk; omega)))
  have n5_ := Aside0.mk (show w23.heap.size ≤ ((w6.setCell ⟨gb6, 0, none⟩ (.int .i64 p1)).setCell ⟨gb6, 1, none⟩ (.slice Ax p2.length cx)).heap.size by rw [hs6.2.2.2]; exact SZ6.out)
  clear HB BK6 BK1 HX HS SZ6 hz6_0 hz6_1 hf6_0 hf6_1 hs6
  have HB := n0_; have BK6 := n1_; have BK1 := n2_; have HX := n3_; have HS := n4_; have SZ6 := n5_
  clear n0_ n1_ n2_ n3_ n4_ n5_
  generalize hW6 : (w6.setCell ⟨gb6, 0, none⟩ (.int .i64 p1)).setCell ⟨gb6, 1, none⟩ (.slice Ax p2.length cx) = W6 at HB BK6 BK1 HX HS SZ6 ⊢
  clear hW6
  have hq1_0 := (blk_cell BK1.out 0)
  simp at hq1_0
  have hq1_1 := (blk_cell BK1.out 1)
  simp at hq1_1
  have hq6_0 := (blk_cell BK6.out 0)
  simp at hq6_0
  have hq6_1 := (blk_cell BK6.out 1)
  simp at hq6_1
  go_upto_region 8 with ((go_at_call 42; refine (A10.out _ Ax cx (Kd.R_reads' (Kd.pR HX.out)).2.2 (Kd.R_reads' HX.out).2.1).mono ?_; rintro e w24 ⟨v4, rfl, ho, hb⟩; obtain ⟨Ag, cg, rfl⟩ := Kd.S_slice ho; have HG := Aside0.mk (Kd.S_mono (ok' := fun k => W6.heap.size ≤ k ∧ k < w24.heap.size) (Kd.S_lower (Kd.S_bound ho) (below_size (by repeat (first | (with_reducible first | exact HB.out | apply below_alloc | apply pw_below_drewN | apply below_drew1) | exact HB.out)))) (fun k hk => ⟨Nat.le_trans (below_size (by repeat (first | exact Below.refl _ _ | apply pw_below_drewN | apply below_drew1 | apply below_alloc))) hk.2.1, hk.2.2.1⟩)); clear ho; have n0_ := Aside0.mk (blk_below (pk BK1.out) hb); have n1_ := Aside0.mk (blk_below (pk BK6.out) hb); have n2_ := Aside0.mk (Kd.S_below (Kd.pS HS.out) hb); have n3_ := Aside0.mk (Kd.R_below (Kd.pR HX.out) hb); have nb_ := Aside0.mk (below_step (by repeat (first | (with_reducible first | exact HB.out | apply below_alloc | apply pw_below_drewN | apply below_drew1) | exact HB.out)) hb); clear BK1 BK6 HS HX HB hb; have BK1 := n0_; have BK6 := n1_; have HS := n2_; have HX := n3_; have HB := nb_; clear nb_ n0_ n1_ n2_ n3_; have hq1_0 := (blk_cell BK1.out 0); simp at hq1_0; have hq1_1 := (blk_cell BK1.out 1); simp at hq1_1; have hq6_0 := (blk_cell BK6.out 0); simp at hq6_0; have hq6_1 := (blk_cell BK6.out 1); simp at hq6_1))
  go_upto_region 10 with ((go_at_call 43; refine (A26.out _ Ag cg As cs (Kd.S_reads' (Kd.pS HG.out)).2.2 (Kd.S_reads' HG.out).2.1 (Kd.S_reads' (Kd.pS HS.out)).2.2 (Kd.S_reads' HS.out).2.1).mono ?_; rintro e w25 ⟨rfl, hd⟩; have hb := hd.below; clear hd; have n0_ := Aside0.mk (blk_below (pk BK1.out) hb); have n1_ := Aside0.mk (blk_below (pk BK6.out) hb); have n2_ := Aside0.mk (Kd.S_below (Kd.pS HS.out) hb); have n3_ := Aside0.mk (Kd.R_below (Kd.pR HX.out) hb); have n4_ := Aside0.mk (Kd.S_below (Kd.pS HG.out) hb); have nb_ := Aside0.mk (below_step (by repeat (first | (with_reducible first | exact HB.out | apply below_alloc | apply pw_below_drewN | apply below_drew1) | exact HB.out)) hb); clear BK1 BK6 HS HX HG HB hb; have BK1 := n0_; have BK6 := n1_; have HS := n2_; have HX := n3_; have HG := n4_; have HB := nb_; clear nb_ n0_ n1_ n2_ n3_ n4_; have hq1_0 := (blk_cell BK1.out 0); simp at hq1_0; have hq1_1 := (blk_cell BK1.out 1); simp at hq1_1; have hq6_0 := (blk_cell BK6.out 0); simp at hq6_0; have hq6_1 := (blk_cell BK6.out 1); simp at hq6_1))
  try go_wp2
  have n0_ := Aside0.mk (Kd.S_drew HS.out)
  have n1_ := Aside0.mk (Kd.S_drew HG.out)
  have n2_ := Aside0.mk (Kd.R_drew HX.out)
  have n3_ := Aside0.mk (blk_drew BK1.out)
  have n4_ := Aside0.mk (blk_drew BK6.out)
  have n5_ := Aside0.mk (below_drew1 HB.out)
  clear HS HG HX BK1 BK6 HB
  have HS := n0_; have HG := n1_; have HX := n2_; have BK1 := n3_; have BK6 := n4_; have HB := n5_
  clear n0_ n1_ n2_ n3_ n4_ n5_
  refine start_ (n := 5) (S := fun w' => w'.cell? ⟨gb6, 0, none⟩ = some (.int .i64 p1) ∧ w'.cell? ⟨gb6, 1, none⟩ = some (.slice Ax p2.length cx) ∧ w'.cell? ⟨gb1, 0, none⟩ = some (.int .i64 a0_0) ∧ w'.cell? ⟨gb1, 1, none⟩ = some (.slice A0_1 l0_1.length c0_1)) (ds := []) #[false, false, false, false, false] (by kernel_rfl) rfl rfl ⟨(blk_cell BK6.out 0).trans rfl, (blk_cell BK6.out 1).trans rfl, (blk_cell BK1.out 0).trans rfl, (blk_cell BK1.out 1).trans rfl⟩ (fun hHeld => ?_)
  generalize w25.drew = w26 at HS HG HX BK1 BK6 HB hHeld ⊢
  refine take_ (i := 0) (N := some 41) (v := ?_) (a' := ?_) #[true, false, false, false, false] rfl rfl (by kernel_rfl) (fun _ _ _ h => h) (Or.inl ⟨by rfl, ?_⟩) hHeld ?_ ?_
  rotate_left
  · rintro w' ⟨s0, s1, s2, s3⟩
    go_simp
    with_reducible rfl
  rotate_left
  · simp only [Act.put, List.setIfInBounds_toArray, List.set_cons_zero, List.set_cons_succ, i64_w, i32_w]
    rfl
  refine take_ (i := 1) (N := some 42) (v := ?_) (a' := ?_) #[true, true, false, false, false] rfl rfl (by kernel_rfl) (fun _ _ _ h => h) (Or.inl ⟨by rfl, ?_⟩) hHeld ?_ ?_
  rotate_left
  · rintro w' ⟨s0, s1, s2, s3⟩
    go_simp
    with_reducible rfl
  rotate_left
  · simp only [Act.put, List.setIfInBounds_toArray, List.set_cons_zero, List.set_cons_succ, i64_w, i32_w]
    rfl
  refine one_ (i := 2) (N := some 43) #[true, true, true, false, false] rfl rfl (by kernel_rfl) (by decide) (fun K hK => ?_)
  refine goes_ Try.func15 (by kernel_rfl) rfl #[.agg #[.int .i64 a0_0, .slice A0_1 l0_1.length c0_1]] (by rfl) rfl rfl (by (try simp only [List.map_toArray, List.map_cons, List.map_nil]); first | done | rfl | (simp only [List.length_drop, List.length_take]; rfl)) ?_
  refine (A7.out _ (by repeat (first | (with_reducible first | exact HB.out | apply below_alloc | apply pw_below_drewN | apply below_drew1) | exact HB.out))).mono ?_
  rintro e w27 ⟨v27, rfl, ho, hb⟩
  obtain ⟨Ay, cy, rfl⟩ := Kd.R_slice ho
  refine ⟨_, rfl, ?_⟩
  have HY := Aside0.mk ho
  clear ho
  have n0_ := Aside0.mk (Kd.S_below (Kd.pS HS.out) hb); have n1_ := Aside0.mk (Kd.S_below (Kd.pS HG.out) hb); have n2_ := Aside0.mk (Kd.R_below (Kd.pR HX.out) hb); have n3_ := Aside0.mk (blk_below (pk BK1.out) hb); have n4_ := Aside0.mk (blk_below (pk BK6.out) hb); have nb_ := Aside0.mk (below_step (by repeat (first | (with_reducible first | exact HB.out | apply below_alloc | apply pw_below_drewN | apply below_drew1) | exact HB.out)) hb); clear HS HG HX BK1 BK6 HB hb; have HS := n0_; have HG := n1_; have HX := n2_; have BK1 := n3_; have BK6 := n4_; have HB := nb_; clear nb_ n0_ n1_ n2_ n3_ n4_
  refine hK.out _ _ ⟨(blk_cell BK6.out 0).trans rfl, (blk_cell BK6.out 1).trans rfl, (blk_cell BK1.out 0).trans rfl, (blk_cell BK1.out 1).trans rfl⟩ (fun hHeld => ?_)
  clear hK K
  refine norm_ (a' := ?_) ?_ ?_
  rotate_left
  · show Act.put _ (some 43) _ = _
    simp only [Act.put, List.setIfInBounds_toArray, List.set_cons_zero, List.set_cons_succ, i64_w, i32_w]
    rfl
  refine one_ (i := 3) (N := some 44) #[true, true, true, true, false] rfl rfl (by kernel_rfl) (by decide) (fun K hK => ?_)
  refine goes_ Try.func18 (by kernel_rfl) rfl #[.agg #[.int .i64 p1, .slice Ax p2.length cx], .agg #[.int .i64 p1, .slice Ay p2.length cy]] (by rfl) rfl rfl (by (try simp only [List.map_toArray, List.map_cons, List.map_nil]); first | done | rfl | (simp only [List.length_drop, List.length_take]; rfl)) ?_
  refine (A34.out _ Ax cx Ay cy (Kd.R_reads' HX.out).2.2 (Kd.R_reads' HX.out).2.1 (Kd.R_reads' HY.out).2.2 (Kd.R_reads' HY.out).2.1).mono ?_
  rintro e w28 ⟨rfl, hb⟩
  refine ⟨_, rfl, ?_⟩
  clear HY
  have n0_ := Aside0.mk (Kd.S_below (Kd.pS HS.out) hb); have n1_ := Aside0.mk (Kd.S_below (Kd.pS HG.out) hb); have n2_ := Aside0.mk (Kd.R_below (Kd.pR HX.out) hb); have n3_ := Aside0.mk (blk_below (pk BK1.out) hb); have n4_ := Aside0.mk (blk_below (pk BK6.out) hb); have nb_ := Aside0.mk (below_step (by repeat (first | (with_reducible first | exact HB.out | apply below_alloc | apply pw_below_drewN | apply below_drew1) | exact HB.out)) hb); clear HS HG HX BK1 BK6 HB hb; have HS := n0_; have HG := n1_; have HX := n2_; have BK1 := n3_; have BK6 := n4_; have HB := nb_; clear nb_ n0_ n1_ n2_ n3_ n4_
  refine hK.out _ _ ⟨(blk_cell BK6.out 0).trans rfl, (blk_cell BK6.out 1).trans rfl, (blk_cell BK1.out 0).trans rfl, (blk_cell BK1.out 1).trans rfl⟩ (fun hHeld => ?_)
  clear hK K
  refine norm_ (a' := ?_) ?_ ?_
  rotate_left
  · show Act.put _ (some 44) _ = _
    simp only [Act.put, List.setIfInBounds_toArray, List.set_cons_zero, List.set_cons_succ, i64_w, i32_w]
    rfl
  refine pure_ (i := 4) (N := some 45) (v := ?_) (a' := ?_) #[true, true, true, true, true] rfl rfl (by kernel_rfl) (fun _ _ _ h => h) (Or.inl ⟨by rfl, ?_⟩) ?_ ?_
  rotate_left
  · intro w'
    go_simp
    with_reducible rfl
  rotate_left
  · simp only [Act.put, List.setIfInBounds_toArray, List.set_cons_zero, List.set_cons_succ, i64_w, i32_w]
    rfl
  refine done_ (by kernel_rfl) ?_
  have hq6_0 := (blk_cell BK6.out 0)
  simp at hq6_0
  have hq6_1 := (blk_cell BK6.out 1)
  simp at hq6_1
  go_upto_region 14 with (go_at_call 19; refine (A36.out (fun k => w22.heap.size ≤ k ∧ k < w23.heap.size) (.slice Ax p2.length cx) w _ (by repeat (first | (with_reducible first | exact HB.out | apply below_alloc | apply pw_below_drewN | apply below_drew1) | exact HB.out)) (Kd.pR HX.out)).mono ?_; rintro e w29 ⟨rfl, -, hb, hkp⟩; have n0_ := Aside0.mk ((hkp.2 gb1 (blk_lt (pk BK1.out)) (fun h => by have := LT1.out; omega)).trans (pk BK1.out)); have n1_ := Aside0.mk (KeptS (Kd.pS HS.out) hkp (fun k (hk : k < w22.heap.size) h => by omega)); have n2_ := Aside0.mk (KeptS (Kd.pS HG.out) hkp (fun k hk h => by have := SZ6.out; omega)); have n3_ := Aside0.mk hb; clear BK1 BK6 HS HG HX HB hb hkp; have BK1 := n0_; have HS := n1_; have HG := n2_; have HB := n3_; clear n0_ n1_ n2_ n3_)
  go_upto_region 16 with ((go_at_call 43; refine (A26.out _ Ag cg As cs (Kd.S_reads' (Kd.pS HG.out)).2.2 (Kd.S_reads' HG.out).2.1 (Kd.S_reads' (Kd.pS HS.out)).2.2 (Kd.S_reads' HS.out).2.1).mono ?_; rintro e w30 ⟨rfl, hd⟩; have hb := hd.below; clear hd; have n0_ := Aside0.mk (blk_below (pk BK1.out) hb); have n1_ := Aside0.mk (Kd.S_below (Kd.pS HS.out) hb); have n2_ := Aside0.mk (Kd.S_below (Kd.pS HG.out) hb); have nb_ := Aside0.mk (below_step (by repeat (first | (with_reducible first | exact HB.out | apply below_alloc | apply pw_below_drewN | apply below_drew1) | exact HB.out)) hb); clear BK1 HS HG HB hb; have BK1 := n0_; have HS := n1_; have HG := n2_; have HB := nb_; clear nb_ n0_ n1_ n2_; have hq1_0 := (blk_cell BK1.out 0); simp at hq1_0; have hq1_1 := (blk_cell BK1.out 1); simp at hq1_1))
  go_upto_region 18 with (go_at_call 44; refine (A6.out (fun k => W6.heap.size ≤ k ∧ k < w24.heap.size) (.slice Ag s1.length cg) w _ (by repeat (first | (with_reducible first | exact HB.out | apply below_alloc | apply pw_below_drewN | apply below_drew1) | exact HB.out)) (Kd.pS HG.out)).mono ?_; rintro e w31 ⟨rfl, hS, hb, hkp⟩; have n0_ := Aside0.mk ((hkp.2 gb1 (blk_lt (pk BK1.out)) (fun h => by have := LT1.out; have := SZ.out; have := SZ6.out; omega)).trans (pk BK1.out)); have n1_ := Aside0.mk (KeptS (Kd.pS HS.out) hkp (fun k (hk : k < w22.heap.size) h => by have := SZ.out; have := SZ6.out; omega)); have n2_ := Aside0.mk hS; have n3_ := Aside0.mk hb; clear BK1 HS HG HB hS hb hkp; have BK1 := n0_; have HS := n1_; have HG := n2_; have HB := n3_; clear n0_ n1_ n2_ n3_)
  have hlen := (Kd.S_reads' HG.out).1
  have HH := Aside0.mk fun (W : World) (hS : Kd.S (Kd.slice 3 (Kd.int .i64)) 26 W w.heap.size (fun k => W6.heap.size ≤ k ∧ k < w24.heap.size) (.slice Ag s1.length cg) l') => (show Calls Try.prog 45 #[.slice Ag s1.length cg, .int .i64 1] W fun e w' => e = .returned (.int .i64 q) ∧ Drawn0 W w' by rw [hlen]; exact A9.out W Ag cg (Kd.S_reads' hS).2.2 (by rw [← hlen]; exact (Kd.S_reads' hS).2.1))
  clear hlen
  go_upto_region 24 with ((go_at_call 45; refine (HH.out _ (Kd.pS HG.out)).mono ?_; rintro e w32 ⟨rfl, hd⟩; have hb := hd.below; clear hd; have n0_ := Aside0.mk (blk_below (pk BK1.out) hb); have n1_ := Aside0.mk (Kd.S_below (Kd.pS HS.out) hb); have n2_ := Aside0.mk (Kd.S_below (Kd.pS HG.out) hb); have nb_ := Aside0.mk (below_step (by repeat (first | (with_reducible first | exact HB.out | apply below_alloc | apply pw_below_drewN | apply below_drew1) | exact HB.out)) hb); clear BK1 HS HG HB hb; have BK1 := n0_; have HS := n1_; have HG := n2_; have HB := nb_; clear nb_ n0_ n1_ n2_; have hq1_0 := (blk_cell BK1.out 0); simp at hq1_0; have hq1_1 := (blk_cell BK1.out 1); simp at hq1_1))
  go_upto_region 25 with (first | (go_at_call 15; refine (A7.out _ (by repeat (first | (with_reducible first | exact HB.out | apply below_alloc | apply pw_below_drewN | apply below_drew1) | exact HB.out))).mono ?_; rintro e w33 ⟨v5, rfl, ho, hb⟩; obtain ⟨Az, cz, rfl⟩ := Kd.R_slice ho; have HZ := Aside0.mk ho; clear ho; have n0_ := Aside0.mk (blk_below (pk BK1.out) hb); have n1_ := Aside0.mk (Kd.S_below (Kd.pS HS.out) hb); have n2_ := Aside0.mk (Kd.S_below (Kd.pS HG.out) hb); have nb_ := Aside0.mk (below_step (by repeat (first | (with_reducible first | exact HB.out | apply below_alloc | apply pw_below_drewN | apply below_drew1) | exact HB.out)) hb); clear BK1 HS HG HB hb; have BK1 := n0_; have HS := n1_; have HG := n2_; have HB := nb_; clear nb_ n0_ n1_ n2_; have hq1_0 := (blk_cell BK1.out 0); simp at hq1_0; have hq1_1 := (blk_cell BK1.out 1); simp at hq1_1) | (go_at_call 42; refine (A10.out _ Az cz (Kd.R_reads' (Kd.pR HZ.out)).2.2 (Kd.R_reads' HZ.out).2.1).mono ?_; rintro e w34 ⟨v6, rfl, ho, hb⟩; obtain ⟨Ah, ch, rfl⟩ := Kd.S_slice ho; have HI := Aside0.mk ho; clear ho HZ; have n0_ := Aside0.mk (Kd.S_below (Kd.pS HS.out) hb); have n1_ := Aside0.mk (Kd.S_below (Kd.pS HG.out) hb); have nb_ := Aside0.mk (below_step (by repeat (first | (with_reducible first | exact HB.out | apply below_alloc | apply pw_below_drewN | apply below_drew1) | exact HB.out)) hb); clear HS HG HB hb; have HS := n0_; have HG := n1_; have HB := nb_; clear nb_ n0_ n1_))
  go_upto_region 27 with ((go_at_call 43; refine (A26.out _ Ah ch As cs (Kd.S_reads' (Kd.pS HI.out)).2.2 (Kd.S_reads' HI.out).2.1 (Kd.S_reads' (Kd.pS HS.out)).2.2 (Kd.S_reads' HS.out).2.1).mono ?_; rintro e w35 ⟨rfl, hd⟩; have hb := hd.below; clear hd; have n0_ := Aside0.mk (Kd.S_below (Kd.pS HS.out) hb); have n1_ := Aside0.mk (Kd.S_below (Kd.pS HG.out) hb); have nb_ := Aside0.mk (below_step (by repeat (first | (with_reducible first | exact HB.out | apply below_alloc | apply pw_below_drewN | apply below_drew1) | exact HB.out)) hb); clear HS HG HB hb; have HS := n0_; have HG := n1_; have HB := nb_; clear nb_ n0_ n1_))
  go_wp2_with ((go_at_call 45; refine (HH.out _ (Kd.pS HG.out)).mono ?_; rintro e w36 ⟨rfl, hd⟩; have hb := hd.below; clear hd; have n0_ := Aside0.mk (Kd.S_below (Kd.pS HG.out) hb); have nb_ := Aside0.mk (below_step (by repeat (first | (with_reducible first | exact HB.out | apply below_alloc | apply pw_below_drewN | apply below_drew1) | exact HB.out)) hb); clear HG HB hb; have HG := n0_; have HB := nb_; clear nb_ n0_))
  go_ret
  exact ⟨rfl, (by repeat (first | (with_reducible first | exact HB.out | apply below_alloc | apply pw_below_drewN | apply below_drew1) | exact HB.out))⟩

end Go.Proofs.Ytkgbahokhifojaa.QHid
