/- Contracts of functions of the given program, walked: each call returns what its Lean function says. Conditions: those that stand at each theorem. (Written by a program of this session.) -/
import Derived.Test.YthkchdfkeieabaaQGrx0
import Derived.Test.YthkchdfkeieabaaQGrx6
import Derived.Test.YthkchdfkeieabaaQGrx7
import Derived.Test.YthkchdfkeieabaaQGrx11
import Derived.Test.YthkchdfkeieabaaQGrx12
namespace Go.Proofs.Ythkchdfkeieabaa.QGr
open Go.RowKit Go.Proofs.YthkchdfkeieabaaW.PrintWords Go.Proofs.YthkchdfkeieabaaW.PrintLast Go.Proofs.YthkchdfkeieabaaW.PrintMore
attribute [local go_sem] max2_int min2_int max_two min_two max_three min_three max_four min_four   -- for this text's walks alone
set_option linter.unusedVariables false
set_option linter.unusedSimpArgs false

/-! ### impl_CountRows: function 12 -/
attribute [local go_sem] run_store_fn_
def impl_CountRows.f (k : Nat) (co se : Int) : Option (Int × Bool) := (impl_IsCompany.f co se).bind fun b => if b = true then (impl_Company_costs.f k (2 * co.toNat) se).bind fun p => if p.2 = true then (coG (cmG k (2 * co.toNat) se) (grN (2 * co.toNat)) 0 p.1).bind fun r => some (r, true) else some (0, true) else some (0, false)
theorem impl_CountRows.mono : ∀ co se k, LeO (impl_CountRows.f k co se) (impl_CountRows.f (k + 1) co se) := fun co se k => LeO.bind (LeO.refl _) (fun _ => LeO.ite (LeO.bind (impl_Company_costs.mono (2 * co.toNat) se k) (fun _ => LeO.ite (LeO.bind (coG_mono (fun s => cmG_mono k (2 * co.toNat) se s) _ _ _) (fun _ => LeO.refl _)) (LeO.refl _))) (LeO.refl _))
set_option maxHeartbeats 8000000 in
set_option maxRecDepth 100000 in
theorem impl_CountRows.calls (k : Nat) (co se : Int) (r1 : Int) (r2 : Bool) (w : World)  (h : impl_CountRows.f k co se = some (r1, r2)) :
    Calls Try.prog 12 #[.agg #[.int .i64 co, .int .i64 se]] w fun e w' => e = .returned (.tuple #[.int .i64 r1, .bool r2]) ∧ Below w.heap.size w w' := by
  have hu := Try.underlying26
  have hu2 := Try.underlying68
  unfold impl_CountRows.f at h
  obtain ⟨b1, h1, h⟩ := Option.bind_eq_some_iff.mp h
  have A1 := Aside0.mk fun (W : World) (hb : Below w.heap.size w W) => impl_IsCompany.calls co se b1 W h1
  have HB := Aside0.mk (Below.refl w.heap.size w)
  cases b1
  · rw [if_neg (by simp)] at h
    obtain ⟨rfl, rfl⟩ : (0 : Int) = r1 ∧ false = r2 := by simpa using h
    clear h h1 
    go_enter Try.func12, Try.ntmps12
    go_upto_region 1 with (first | ((with_reducible refine gate_dst (N := 1) rfl ?_); refine box_event ?hg (N := 1) ?hd (cs := #[.int .i64 co, .int .i64 se]) (t := 26) ?hr ?_; (case hd => rfl); (case hg => rfl); (case hr => first | (go_simp; done) | (go_simp; rfl)); intro gb1 hg w1 hbox hb; have nb_ := Aside0.mk (below_step (by repeat (first | (with_reducible first | exact HB.out | apply below_alloc | apply pw_below_drewN | apply below_drew1) | exact HB.out)) hb); have nc_ := Aside0.mk hbox; have nd_ := Aside0.mk ((by rw [hg]; exact (below_size (by repeat (first | (with_reducible first | exact HB.out | apply below_alloc | apply pw_below_drewN | apply below_drew1) | exact HB.out))) : w.heap.size ≤ gb1)); clear HB hb hbox hg; have HB := nb_; have BK1 := nc_; have GE1 := nd_; clear nb_ nc_ nd_; have hz1_0 := (blk_cell BK1.out 0); have hf1_0 := (blk_frozen BK1.out 0); simp at hz1_0; have hz1_1 := (blk_cell BK1.out 1); have hf1_1 := (blk_frozen BK1.out 1); simp at hz1_1; skip))
    have hq0 := blk_cell BK1.out 0
    have hq1 := blk_cell BK1.out 1
    simp at hq0
    simp at hq1
    go_wp2_with (go_at_call 41; refine (A1.out _ (by repeat (first | (with_reducible first | exact HB.out | apply below_alloc | apply pw_below_drewN | apply below_drew1) | exact HB.out))).mono ?_; rintro e w8 ⟨rfl, hb⟩; clear hq0 hq1 A1; have n0_ := Aside0.mk (blk_below (pk BK1.out) hb); have n1_ := Aside0.mk (below_step (by repeat (first | (with_reducible first | exact HB.out | apply below_alloc | apply pw_below_drewN | apply below_drew1) | exact HB.out)) hb); clear BK1 HB hb; have BK1 := n0_; have HB := n1_; clear n0_ n1_)
    first | go_ret2 | go_ret
    exact ⟨rfl, (by repeat (first | (with_reducible first | exact HB.out | apply below_alloc | apply pw_below_drewN | apply below_drew1) | exact HB.out))⟩
  · rw [if_pos rfl] at h
    have hco : 0 ≤ co ∧ co ≤ 4 := by
      simp only [impl_IsCompany.f, impl_in.f] at h1
      split at h1
      · obtain ⟨t, h1, h2⟩ := Option.bind_eq_some_iff.mp h1
        obtain rfl := Option.some.inj h1
        split at h2
        · next h => exact ⟨by omega, of_decide_eq_true h⟩
        · simp at h2
      · simp at h1
    obtain ⟨⟨dist, b2⟩, h2, h⟩ := Option.bind_eq_some_iff.mp h
    have A2 := Aside0.mk fun (W : World) (hb : Below w.heap.size w W) => impl_Company_costs.calls k co (2 * co.toNat) se dist b2 W hco rfl h2
    have H := Aside0.mk h
    have HN := Aside0.mk h1
    clear h h1 h2 
    go_enter Try.func12, Try.ntmps12
    go_upto_region 1 with (first | ((with_reducible refine gate_dst (N := 1) rfl ?_); refine box_event ?hg (N := 1) ?hd (cs := #[.int .i64 co, .int .i64 se]) (t := 26) ?hr ?_; (case hd => rfl); (case hg => rfl); (case hr => first | (go_simp; done) | (go_simp; rfl)); intro gb1 hg w1 hbox hb; have nb_ := Aside0.mk (below_step (by repeat (first | (with_reducible first | exact HB.out | apply below_alloc | apply pw_below_drewN | apply below_drew1) | exact HB.out)) hb); have nc_ := Aside0.mk hbox; have nd_ := Aside0.mk ((by rw [hg]; exact (below_size (by repeat (first | (with_reducible first | exact HB.out | apply below_alloc | apply pw_below_drewN | apply below_drew1) | exact HB.out))) : w.heap.size ≤ gb1)); clear HB hb hbox hg; have HB := nb_; have BK1 := nc_; have GE1 := nd_; clear nb_ nc_ nd_; have hz1_0 := (blk_cell BK1.out 0); have hf1_0 := (blk_frozen BK1.out 0); simp at hz1_0; have hz1_1 := (blk_cell BK1.out 1); have hf1_1 := (blk_frozen BK1.out 1); simp at hz1_1; skip))
    have hq0 := blk_cell BK1.out 0
    have hq1 := blk_cell BK1.out 1
    simp at hq0
    simp at hq1
    go_upto_region 3 with (go_at_call 41; refine (A1.out _ (by repeat (first | (with_reducible first | exact HB.out | apply below_alloc | apply pw_below_drewN | apply below_drew1) | exact HB.out))).mono ?_; rintro e w8 ⟨rfl, hb⟩; clear hq0 hq1 A1; have n0_ := Aside0.mk (blk_below (pk BK1.out) hb); have n1_ := Aside0.mk (below_step (by repeat (first | (with_reducible first | exact HB.out | apply below_alloc | apply pw_below_drewN | apply below_drew1) | exact HB.out)) hb); clear BK1 HB hb; have BK1 := n0_; have HB := n1_; clear n0_ n1_)
    have hq0 := blk_cell BK1.out 0
    have hq1 := blk_cell BK1.out 1
    simp at hq0
    simp at hq1
    go_upto_region 4 with (first | (go_at_call 42; refine (A2.out _ (by repeat (first | (with_reducible first | exact HB.out | apply below_alloc | apply pw_below_drewN | apply below_drew1) | exact HB.out))).mono ?_; rintro e w12 ⟨fo, cb, gd, cd, rfl, hen, hga, hgo, hdi, hb⟩; have HEN := Aside0.mk hen; have HGA := Aside0.mk hga; have HGO := Aside0.mk hgo; have HD := Aside0.mk hdi; have HB12 := Aside0.mk (Below.refl w12.heap.size w12); clear hq0 hq1 A2; have n0_ := Aside0.mk (blk_below (pk BK1.out) hb); have n1_ := Aside0.mk (below_step (by repeat (first | (with_reducible first | exact HB.out | apply below_alloc | apply pw_below_drewN | apply below_drew1) | exact HB.out)) hb); clear BK1 HB hb hen hga hgo hdi; have BK1 := n0_; have HB := n1_; clear n0_ n1_) | ((with_reducible refine gate_dst (N := 4) rfl ?_); refine box_event ?hg (N := 4) ?hd (cs := #[.int .i64 0, .nilFunc]) (t := 68) ?hr ?_; (case hd => rfl); (case hg => rfl); (case hr => first | (go_simp; done) | (go_simp; rfl)); intro gb4 hg w4 hbox hb; have n0_ := Aside0.mk (blk_below (pk BK1.out) hb); have m0_ := Aside0.mk ((by rw [hg]; exact Nat.ne_of_lt (blk_lt (pk BK1.out)) : gb1 ≠ gb4)); have nb_ := Aside0.mk (below_step (by repeat (first | (with_reducible first | exact HB.out | apply below_alloc | apply pw_below_drewN | apply below_drew1) | exact HB.out)) hb); have nc_ := Aside0.mk hbox; have nd_ := Aside0.mk ((by rw [hg]; exact (below_size (by repeat (first | (with_reducible first | exact HB.out | apply below_alloc | apply pw_below_drewN | apply below_drew1) | exact HB.out))) : w.heap.size ≤ gb4)); have n12_ := Aside0.mk hb; have HG12 := Aside0.mk (by rw [hg]; exact Nat.le_refl _ : w12.heap.size ≤ gb4); clear HB HB12 hb hbox hg; have HB12 := n12_; clear n12_; clear BK1; have BK1 := n0_; have NE1_4 := m0_; have HB := nb_; have BK4 := nc_; have GE4 := nd_; clear nb_ nc_ nd_ n0_ m0_; have hz4_0 := (blk_cell BK4.out 0); have hf4_0 := (blk_frozen BK4.out 0); simp at hz4_0; have hz4_1 := (blk_cell BK4.out 1); have hf4_1 := (blk_frozen BK4.out 1); simp at hz4_1; skip))
    have B41 := Aside0.mk (blk_put (cs' := #[.int .i64 (grN (2 * co.toNat)), .func (.func fo) #[] cb]) (blk_put (cs' := #[.int .i64 (grN (2 * co.toNat)), .nilFunc]) BK4.out 0 (.int .i64 (grN (2 * co.toNat))) rfl) 1 (.func (.func fo) #[] cb) rfl)
    have HB1 := Aside0.mk (below_set (v := (.func (.func fo) #[] cb)) (j := 1) (below_set (v := (.int .i64 (grN (2 * co.toNat)))) (j := 0) HB.out GE4.out) GE4.out)
    have HB2 := Aside0.mk (below_set (v := (.func (.func fo) #[] cb)) (j := 1) (below_set (v := (.int .i64 (grN (2 * co.toNat)))) (j := 0) HB12.out HG12.out) HG12.out)
    generalize (w4.setCell ⟨gb4, 0, none⟩ (.int .i64 (grN (2 * co.toNat)))).setCell ⟨gb4, 1, none⟩ (.func (.func fo) #[] cb) = w5 at B41 HB1 HB2 ⊢
    clear BK4 HB HB12 hz4_0 hz4_1 hf4_0 hf4_1
    have HB := HB1; clear HB1
    have h := H.out
    cases b2
    · rw [if_neg (by simp)] at h
      obtain ⟨rfl, rfl⟩ : (0 : Int) = r1 ∧ true = r2 := by simpa using h
      clear h H
      go_wp2
      first | go_ret2 | go_ret
      exact ⟨rfl, (by repeat (first | (with_reducible first | exact HB.out | apply below_alloc | apply pw_below_drewN | apply below_drew1) | exact HB.out))⟩
    · rw [if_pos rfl] at h
      obtain ⟨r, h3, h⟩ := Option.bind_eq_some_iff.mp h
      obtain ⟨rfl, rfl⟩ : r = r1 ∧ true = r2 := by simpa using h
      unfold coG at h3
      rw [if_pos HGA.out] at h3
      have A3 := Aside0.mk fun (W : World) (hb : Below w12.heap.size w12 W) => impl_graph_int_count.calls fo cb (grN (2 * co.toNat)) (grE (cmG k (2 * co.toNat) se)) w12 W HEN.out HGO.out hb 0 (some ⟨gd, 0, none⟩) cd dist r (Kd.C_below (Kd.R_reads' HD.out).2.2 hb) h3
      have hz0 := blk_cell B41.out 0
      have hz1 := blk_cell B41.out 1
      simp at hz0
      simp at hz1
      clear h h3 H
      go_wp2_with (go_at_call 43; refine (A3.out _ (by repeat (first | (with_reducible first | exact HB2.out | apply below_alloc | apply pw_below_drewN | apply below_drew1) | exact HB2.out))).mono ?_; rintro e w20 ⟨rfl, hb⟩; have n0_ := Aside0.mk (below_step (by repeat (first | (with_reducible first | exact HB.out | apply below_alloc | apply pw_below_drewN | apply below_drew1) | exact HB.out)) hb); clear HB HB2 hb; have HB := n0_; clear n0_)
      first | go_ret2 | go_ret
      exact ⟨rfl, (by repeat (first | (with_reducible first | exact HB.out | apply below_alloc | apply pw_below_drewN | apply below_drew1) | exact HB.out))⟩

/-! ### laws_FnExactCountRows: function 3 -/
def laws_FnExactCountRows.f (k : Nat) (a0_0 : Int) (a0_1 : Int) : Option (Bool) := (laws_toCompany.f a0_0 a0_1).bind fun bt371 => ((spec_CountRows.f k bt371.1 bt371.2).bind fun bt373 => ((laws_toCompany.f a0_0 a0_1).bind fun bt375 => ((impl_CountRows.f k bt375.1 bt375.2).bind fun bt377 => (if bt377.1 = bt373.1 then (if (bt377.2 != bt373.2) = true then (none) else (some true)) else (none)))))
theorem laws_FnExactCountRows.mono : ∀ a0 a1 k, LeO (laws_FnExactCountRows.f k a0 a1) (laws_FnExactCountRows.f (k + 1) a0 a1) := by
  intro a0 a1 k
  unfold laws_FnExactCountRows.f
  repeat' first
      | (with_reducible exact impl_CountRows.mono _ _ _)
      | (with_reducible exact spec_CountRows.mono _ _ _)
      | (with_reducible exact LeO.refl _)
      | (with_reducible exact LeO.none _)
      | (with_reducible refine LeO.ite ?_ ?_)
      | (with_reducible refine LeO.bind ?_ (fun _ => ?_))
      | exact impl_CountRows.mono _ _ _
      | exact spec_CountRows.mono _ _ _
      | exact LeO.none _
      | refine LeO.ite ?_ ?_
      | refine LeO.bind ?_ (fun _ => ?_)
set_option maxHeartbeats 8000000 in
set_option maxRecDepth 100000 in
theorem laws_FnExactCountRows.calls (k : Nat) (a0_0 : Int) (a0_1 : Int) (r : Bool) (w : World) (h : laws_FnExactCountRows.f k a0_0 a0_1 = some r) :
    Calls Try.prog 3 #[.agg #[.int .i64 a0_0, .int .i64 a0_1]] w fun e w' => e = .returned (.bool r) ∧ Below w.heap.size w w' := by
  have hu23 := Try.underlying23
  have HB := Aside0.mk (Below.refl w.heap.size w)
  have H : ((laws_toCompany.f a0_0 a0_1).bind fun bt371 => ((spec_CountRows.f k bt371.1 bt371.2).bind fun bt373 => ((laws_toCompany.f a0_0 a0_1).bind fun bt375 => ((impl_CountRows.f k bt375.1 bt375.2).bind fun bt377 => (if bt377.1 = bt373.1 then (if (bt377.2 != bt373.2) = true then (none) else (some true)) else (none)))))) = some r := h
  clear h
  replace H := Option.bind_eq_some_iff.mp H
  obtain ⟨⟨t371, t372⟩, A20, H⟩ := H
  replace H : ((spec_CountRows.f k t371 t372).bind fun bt373 => ((laws_toCompany.f a0_0 a0_1).bind fun bt375 => ((impl_CountRows.f k bt375.1 bt375.2).bind fun bt377 => (if bt377.1 = bt373.1 then (if (bt377.2 != bt373.2) = true then (none) else (some true)) else (none))))) = some r := H
  have A2 := Aside0.mk A20
  clear A20
  replace H := Option.bind_eq_some_iff.mp H
  obtain ⟨⟨t373, t374⟩, A30, H⟩ := H
  replace H : ((laws_toCompany.f a0_0 a0_1).bind fun bt375 => ((impl_CountRows.f k bt375.1 bt375.2).bind fun bt377 => (if bt377.1 = t373 then (if (bt377.2 != t374) = true then (none) else (some true)) else (none)))) = some r := H
  have A3 := Aside0.mk A30
  clear A30
  replace H := Option.bind_eq_some_iff.mp H
  obtain ⟨⟨t375, t376⟩, A40, H⟩ := H
  replace H : ((impl_CountRows.f k t375 t376).bind fun bt377 => (if bt377.1 = t373 then (if (bt377.2 != t374) = true then (none) else (some true)) else (none))) = some r := H
  have A4 := Aside0.mk A40
  clear A40
  replace H := Option.bind_eq_some_iff.mp H
  obtain ⟨⟨t377, t378⟩, A50, H⟩ := H
  replace H : (if t377 = t373 then (if (t378 != t374) = true then (none) else (some true)) else (none)) = some r := H
  have A5 := Aside0.mk A50
  clear A50
  by_cases c6 : t377 = t373
  · rw [if_pos c6] at H
    have c6b0 : (t377 == t373) = true := beq_iff_eq.mpr c6
    have c6b1 : (t377 != t373) = false := bne_eq_false_iff_eq.mpr c6
    clear c6
    by_cases c7 : (t378 != t374) = true
    · rw [if_pos c7] at H
      exact absurd H (by simp)
    · rw [if_neg c7] at H
      have c7b0 : (t378 != t374) = false := by simpa using c7
      (try (have c7b1 : decide (t378 = t374) = true := by simpa using c7))
      (try (have c7b2 : (t378 == t374) = true := by simpa using c7))
      clear c7
      obtain rfl := Option.some.inj H
      go_enter Try.func3, Try.ntmps3
      go_wp2_with (first | ((with_reducible refine gate_dst (N := 1) rfl ?_); refine box_event ?hg (N := 1) ?hd (cs := #[.int .i64 a0_0, .int .i64 a0_1]) (t := 23) ?hr ?_; (case hd => rfl); (case hg => rfl); (case hr => first | (go_simp; done) | (go_simp; rfl)); intro gb370 hg w8 hbox hb; have n0_ := Aside0.mk (below_step (by repeat (first | (with_reducible first | exact HB.out | apply below_alloc | apply pw_below_drewN | apply below_drew1) | exact HB.out)) hb); have n1_ := Aside0.mk (hbox); have n2_ := Aside0.mk ((by rw [hg]; exact (below_size (by repeat (first | (with_reducible first | exact HB.out | apply below_alloc | apply pw_below_drewN | apply below_drew1) | exact HB.out))) : w.heap.size ≤ gb370)); have n3_ := Aside0.mk ((by rw [hg]; exact (below_size (by repeat (first | (with_reducible first | exact HB.out | apply below_alloc | apply pw_below_drewN | apply below_drew1) | exact HB.out))) : w.heap.size ≤ gb370)); clear HB; have HB := n0_; have BK370 := n1_; have GW370 := n2_; have GE370 := n3_; clear n0_ n1_ n2_ n3_; clear hb hbox hg; have hcz9_0 : w8.cell? ⟨gb370, 0, none⟩ = some (.int .i64 a0_0) := (blk_cell BK370.out 0).trans rfl; have hcz9_1 : w8.cell? ⟨gb370, 1, none⟩ = some (.int .i64 a0_1) := (blk_cell BK370.out 1).trans rfl; have hfz9_0 := blk_frozen BK370.out 0; have hfz9_1 := blk_frozen BK370.out 1) | ((with_reducible refine gate_callee (f := 11) rfl ?_); refine goesL_ (some 9) rfl rfl Try.func11 (by kernel_rfl) rfl #[.agg #[.int .i64 a0_0, .int .i64 a0_1]] rfl (by (try simp only [List.map_toArray, List.map_cons, List.map_nil]); first | done | rfl | (simp only [List.length_drop, List.length_take]; rfl)) ?_; (with_reducible refine (laws_toCompany.calls a0_0 a0_1 t371 t372 _ A2.out).mono ?_); rintro e w10 ⟨rfl, hb⟩; refine ⟨_, rfl, ?_⟩; have n0_ := Aside0.mk (blk_below (g := gb370) (o := .cells #[.int .i64 a0_0, .int .i64 a0_1] 23 (0, 0)) (by (with_reducible repeat (first | refine blk_drewN ?_ _ | refine blk_drew ?_ | refine blk_alloc ?_ _)); exact BK370.out) hb); have n1_ := Aside0.mk (below_step (by repeat (first | (with_reducible first | exact HB.out | apply below_alloc | apply pw_below_drewN | apply below_drew1 | refine below_set ?_ GE370.out) | exact HB.out)) hb); clear BK370; clear HB; have BK370 := n0_; have HB := n1_; clear n0_ n1_; (try clear hb); (try clear hb2); (try clear hk); (try clear hi)) | ((with_reducible refine gate_callee (f := 10) rfl ?_); refine goesL_ (some 10) rfl rfl Try.func10 (by kernel_rfl) rfl #[.agg #[.int .i64 t371, .int .i64 t372]] rfl (by (try simp only [List.map_toArray, List.map_cons, List.map_nil]); first | done | rfl | (simp only [List.length_drop, List.length_take]; rfl)) ?_; (with_reducible refine (spec_CountRows.calls k t371 t372 t373 t374 _ A3.out).mono ?_); rintro e w11 ⟨rfl, hb⟩; refine ⟨_, rfl, ?_⟩; have n0_ := Aside0.mk (blk_below (g := gb370) (o := .cells #[.int .i64 a0_0, .int .i64 a0_1] 23 (0, 0)) (by (with_reducible repeat (first | refine blk_drewN ?_ _ | refine blk_drew ?_ | refine blk_alloc ?_ _)); exact BK370.out) hb); have n1_ := Aside0.mk (below_step (by repeat (first | (with_reducible first | exact HB.out | apply below_alloc | apply pw_below_drewN | apply below_drew1 | refine below_set ?_ GE370.out) | exact HB.out)) hb); clear BK370; clear HB; have BK370 := n0_; have HB := n1_; clear n0_ n1_; (try clear hb); (try clear hb2); (try clear hk); (try clear hi); have hcz12_0 : w11.cell? ⟨gb370, 0, none⟩ = some (.int .i64 a0_0) := (blk_cell BK370.out 0).trans rfl; have hcz12_1 : w11.cell? ⟨gb370, 1, none⟩ = some (.int .i64 a0_1) := (blk_cell BK370.out 1).trans rfl; have hfz12_0 := blk_frozen BK370.out 0; have hfz12_1 := blk_frozen BK370.out 1) | ((with_reducible refine gate_callee (f := 11) rfl ?_); refine goesL_ (some 15) rfl rfl Try.func11 (by kernel_rfl) rfl #[.agg #[.int .i64 a0_0, .int .i64 a0_1]] rfl (by (try simp only [List.map_toArray, List.map_cons, List.map_nil]); first | done | rfl | (simp only [List.length_drop, List.length_take]; rfl)) ?_; (with_reducible refine (laws_toCompany.calls a0_0 a0_1 t375 t376 _ A4.out).mono ?_); rintro e w13 ⟨rfl, hb⟩; refine ⟨_, rfl, ?_⟩; have n0_ := Aside0.mk (blk_below (g := gb370) (o := .cells #[.int .i64 a0_0, .int .i64 a0_1] 23 (0, 0)) (by (with_reducible repeat (first | refine blk_drewN ?_ _ | refine blk_drew ?_ | refine blk_alloc ?_ _)); exact BK370.out) hb); have n1_ := Aside0.mk (below_step (by repeat (first | (with_reducible first | exact HB.out | apply below_alloc | apply pw_below_drewN | apply below_drew1 | refine below_set ?_ GE370.out) | exact HB.out)) hb); clear BK370; clear HB; have BK370 := n0_; have HB := n1_; clear n0_ n1_; (try clear hb); (try clear hb2); (try clear hk); (try clear hi)) | ((with_reducible refine gate_callee (f := 12) rfl ?_); refine goesL_ (some 16) rfl rfl Try.func12 (by kernel_rfl) rfl #[.agg #[.int .i64 t375, .int .i64 t376]] rfl (by (try simp only [List.map_toArray, List.map_cons, List.map_nil]); first | done | rfl | (simp only [List.length_drop, List.length_take]; rfl)) ?_; (with_reducible refine (impl_CountRows.calls k t375 t376 t377 t378 _ A5.out).mono ?_); rintro e w14 ⟨rfl, hb⟩; refine ⟨_, rfl, ?_⟩; have n0_ := Aside0.mk (blk_below (g := gb370) (o := .cells #[.int .i64 a0_0, .int .i64 a0_1] 23 (0, 0)) (by (with_reducible repeat (first | refine blk_drewN ?_ _ | refine blk_drew ?_ | refine blk_alloc ?_ _)); exact BK370.out) hb); have n1_ := Aside0.mk (below_step (by repeat (first | (with_reducible first | exact HB.out | apply below_alloc | apply pw_below_drewN | apply below_drew1 | refine below_set ?_ GE370.out) | exact HB.out)) hb); clear BK370; clear HB; have BK370 := n0_; have HB := n1_; clear n0_ n1_; (try clear hb); (try clear hb2); (try clear hk); (try clear hi)))
      go_ret
      exact ⟨by first | rfl | (simp [errW_none, errW_some] <;> rfl) | (simp [*, errW_none, errW_some] <;> rfl), by repeat (first | (with_reducible first | exact HB.out | apply below_alloc | apply pw_below_drewN | apply below_drew1 | refine below_set ?_ GE370.out) | exact HB.out)⟩
  · rw [if_neg c6] at H
    exact absurd H (by simp)

end Go.Proofs.Ythkchdfkeieabaa.QGr
