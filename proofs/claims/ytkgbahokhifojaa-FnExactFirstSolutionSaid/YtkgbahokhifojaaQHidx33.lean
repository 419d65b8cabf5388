/- Contracts of functions of the given program, walked: each call returns what its Lean function says. Conditions: those that stand at each theorem. (Written by a program of this session.) -/
import Derived.Test.YtkgbahokhifojaaQHidx0
import Derived.Test.YtkgbahokhifojaaQHidx2
import Derived.Test.YtkgbahokhifojaaQHidx13
import Derived.Test.YtkgbahokhifojaaQHidx14
import Derived.Test.YtkgbahokhifojaaQHidx21
import Derived.Test.YtkgbahokhifojaaQHidx29
import Derived.Test.YtkgbahokhifojaaQHidx32
namespace Go.Proofs.Ytkgbahokhifojaa.QHid
open Go.RowKit Go.Proofs.YtkgbahokhifojaaW.PrintWords Go.Proofs.YtkgbahokhifojaaW.PrintLast Go.Proofs.YtkgbahokhifojaaW.PrintMore
attribute [local go_sem] max2_int min2_int max_two min_two max_three min_three max_four min_four   -- for this text's walks alone
set_option linter.unusedVariables false
set_option linter.unusedSimpArgs false

/-! ### laws_FnExactFirstSolution: function 11 -/
mutual
def laws_FnExactFirstSolution.j0 : Nat → List Int → Bool → List Int → Bool → Bool → Int → List (S42) → Int → List (S45) → Option (Bool)
  | 0, _, _, _, _, _, _, _, _, _ => none
  | k + 1, x4, x5, x7, x8, x40, x831000, x831001, x845000, x845001 => if x40 = true then (none) else ((laws_toPuzzle.f k x831000 x831001).bind fun bt850 => ((laws_eqPuzzle.f k x845000 x845001 bt850.1 bt850.2).bind fun t854 => (if t854 = true then ((laws_markPuzzle.f k x845000 x845001 1).bind fun bt855 => (if bt855.1 < 0 then (laws_FnExactFirstSolution.j1 k x4 x5 x7 true x831000 x831001) else ((laws_eqIntS.f k x7 x4).bind fun t857 => (if t857 = true then (laws_FnExactFirstSolution.j1 k x4 x5 x7 (x8 != x5) x831000 x831001) else (laws_FnExactFirstSolution.j1 k x4 x5 x7 true x831000 x831001))))) else (none))))
def laws_FnExactFirstSolution.j1 : Nat → List Int → Bool → List Int → Bool → Int → List (S42) → Option (Bool)
  | 0, _, _, _, _, _, _ => none
  | k + 1, x4, x5, x7, x61, x831000, x831001 => if x61 = true then (none) else ((laws_markIntS.f k x7 1).bind fun bt858 => ((laws_heldIntS.f k bt858.2 1).bind fun t860 => (if t860 < 0 then (none) else (if t860 = bt858.1 then ((laws_toPuzzle.f k x831000 x831001).bind fun bt861 => ((impl_FirstSolution.f k bt861.1 bt861.2).bind fun bt865 => ((laws_eqIntS.f k bt865.1 x4).bind fun t869 => (if t869 = true then (laws_FnExactFirstSolution.j2 k bt858.2 bt858.1 (bt865.2 != x5)) else (laws_FnExactFirstSolution.j2 k bt858.2 bt858.1 true))))) else (none)))))
def laws_FnExactFirstSolution.j2 : Nat → List Int → Int → Bool → Option (Bool)
  | 0, _, _, _ => none
  | k + 1, x7, x10, x87 => if x87 = true then (none) else ((laws_heldIntS.f k x7 1).bind fun t870 => (if t870 < 0 then (none) else (if t870 = x10 then (some true) else (none))))
end
def laws_FnExactFirstSolution.f (k : Nat) (a0_0 : Int) (l0_1 : List (S42)) : Option (Bool) := (laws_szPuzzle.f a0_0 l0_1 1048576).bind fun t831 => (if t831 < 0 then (some true) else ((laws_toPuzzle.f k a0_0 l0_1).bind fun bt832 => ((spec_FirstSolution.f k bt832.1 bt832.2).bind fun bt836 => ((laws_toPuzzle.f k a0_0 l0_1).bind fun bt840 => ((impl_FirstSolution.f k bt840.1 bt840.2).bind fun bt845 => ((laws_eqIntS.f k bt845.1 bt836.1).bind fun t849 => (if t849 = true then (laws_FnExactFirstSolution.j0 k bt836.1 bt836.2 bt845.1 bt845.2 (bt845.2 != bt836.2) a0_0 l0_1 bt840.1 bt840.2) else (laws_FnExactFirstSolution.j0 k bt836.1 bt836.2 bt845.1 bt845.2 true a0_0 l0_1 bt840.1 bt840.2))))))))
theorem laws_FnExactFirstSolution.mono_l : ∀ k, (∀ y0 y1 y2 y3 y4 y5 y6 y7 y8, LeO (laws_FnExactFirstSolution.j0 k y0 y1 y2 y3 y4 y5 y6 y7 y8) (laws_FnExactFirstSolution.j0 (k + 1) y0 y1 y2 y3 y4 y5 y6 y7 y8)) ∧ (∀ y0 y1 y2 y3 y4 y5, LeO (laws_FnExactFirstSolution.j1 k y0 y1 y2 y3 y4 y5) (laws_FnExactFirstSolution.j1 (k + 1) y0 y1 y2 y3 y4 y5)) ∧ (∀ y0 y1 y2, LeO (laws_FnExactFirstSolution.j2 k y0 y1 y2) (laws_FnExactFirstSolution.j2 (k + 1) y0 y1 y2))
  | 0 => ⟨fun _ _ _ _ _ _ _ _ _ r h => by simp [laws_FnExactFirstSolution.j0] at h, fun _ _ _ _ _ _ r h => by simp [laws_FnExactFirstSolution.j1] at h, fun _ _ _ r h => by simp [laws_FnExactFirstSolution.j2] at h⟩
  | k + 1 => by
    obtain ⟨ih0, ih1, ih2⟩ := laws_FnExactFirstSolution.mono_l k
    refine ⟨?_, ?_, ?_⟩
    · intro y0 y1 y2 y3 y4 y5 y6 y7 y8
      unfold laws_FnExactFirstSolution.j0
      repeat' first
      | (with_reducible exact ih0 _ _ _ _ _ _ _ _ _)
      | (with_reducible exact ih1 _ _ _ _ _ _)
      | (with_reducible exact ih2 _ _ _)
      | (with_reducible exact impl_FirstSolution.mono _ _ _)
      | (with_reducible exact laws_eqIntS.mono _ _ _)
      | (with_reducible exact laws_eqPuzzle.mono _ _ _ _ _)
      | (with_reducible exact laws_heldIntS.mono _ _ _)
      | (with_reducible exact laws_markIntS.mono _ _ _)
      | (with_reducible exact laws_markPuzzle.mono _ _ _ _)
      | (with_reducible exact laws_toPuzzle.mono _ _ _)
      | (with_reducible exact spec_FirstSolution.mono _ _ _)
      | (with_reducible exact LeO.refl _)
      | (with_reducible exact LeO.none _)
      | (with_reducible refine LeO.ite ?_ ?_)
      | (with_reducible refine LeO.bind ?_ (fun _ => ?_))
      | exact ih0 _ _ _ _ _ _ _ _ _
      | exact ih1 _ _ _ _ _ _
      | exact ih2 _ _ _
      | exact impl_FirstSolution.mono _ _ _
      | exact laws_eqIntS.mono _ _ _
      | exact laws_eqPuzzle.mono _ _ _ _ _
      | exact laws_heldIntS.mono _ _ _
      | exact laws_markIntS.mono _ _ _
      | exact laws_markPuzzle.mono _ _ _ _
      | exact laws_toPuzzle.mono _ _ _
      | exact spec_FirstSolution.mono _ _ _
      | exact LeO.none _
      | refine LeO.ite ?_ ?_
      | refine LeO.bind ?_ (fun _ => ?_)
    · intro y0 y1 y2 y3 y4 y5
      unfold laws_FnExactFirstSolution.j1
      repeat' first
      | (with_reducible exact ih0 _ _ _ _ _ _ _ _ _)
      | (with_reducible exact ih1 _ _ _ _ _ _)
      | (with_reducible exact ih2 _ _ _)
      | (with_reducible exact impl_FirstSolution.mono _ _ _)
      | (with_reducible exact laws_eqIntS.mono _ _ _)
      | (with_reducible exact laws_eqPuzzle.mono _ _ _ _ _)
      | (with_reducible exact laws_heldIntS.mono _ _ _)
      | (with_reducible exact laws_markIntS.mono _ _ _)
      | (with_reducible exact laws_markPuzzle.mono _ _ _ _)
      | (with_reducible exact laws_toPuzzle.mono _ _ _)
      | (with_reducible exact spec_FirstSolution.mono _ _ _)
      | (with_reducible exact LeO.refl _)
      | (with_reducible exact LeO.none _)
      | (with_reducible refine LeO.ite ?_ ?_)
      | (with_reducible refine LeO.bind ?_ (fun _ => ?_))
      | exact ih0 _ _ _ _ _ _ _ _ _
      | exact ih1 _ _ _ _ _ _
      | exact ih2 _ _ _
      | exact impl_FirstSolution.mono _ _ _
      | exact laws_eqIntS.mono _ _ _
      | exact laws_eqPuzzle.mono _ _ _ _ _
      | exact laws_heldIntS.mono _ _ _
      | exact laws_markIntS.mono _ _ _
      | exact laws_markPuzzle.mono _ _ _ _
      | exact laws_toPuzzle.mono _ _ _
      | exact spec_FirstSolution.mono _ _ _
      | exact LeO.none _
      | refine LeO.ite ?_ ?_
      | refine LeO.bind ?_ (fun _ => ?_)
    · intro y0 y1 y2
      unfold laws_FnExactFirstSolution.j2
      repeat' first
      | (with_reducible exact ih0 _ _ _ _ _ _ _ _ _)
      | (with_reducible exact ih1 _ _ _ _ _ _)
      | (with_reducible exact ih2 _ _ _)
      | (with_reducible exact impl_FirstSolution.mono _ _ _)
      | (with_reducible exact laws_eqIntS.mono _ _ _)
      | (with_reducible exact laws_eqPuzzle.mono _ _ _ _ _)
      | (with_reducible exact laws_heldIntS.mono _ _ _)
      | (with_reducible exact laws_markIntS.mono _ _ _)
      | (with_reducible exact laws_markPuzzle.mono _ _ _ _)
      | (with_reducible exact laws_toPuzzle.mono _ _ _)
      | (with_reducible exact spec_FirstSolution.mono _ _ _)
      | (with_reducible exact LeO.refl _)
      | (with_reducible exact LeO.none _)
      | (with_reducible refine LeO.ite ?_ ?_)
      | (with_reducible refine LeO.bind ?_ (fun _ => ?_))
      | exact ih0 _ _ _ _ _ _ _ _ _
      | exact ih1 _ _ _ _ _ _
      | exact ih2 _ _ _
      | exact impl_FirstSolution.mono _ _ _
      | exact laws_eqIntS.mono _ _ _
      | exact laws_eqPuzzle.mono _ _ _ _ _
      | exact laws_heldIntS.mono _ _ _
      | exact laws_markIntS.mono _ _ _
      | exact laws_markPuzzle.mono _ _ _ _
      | exact laws_toPuzzle.mono _ _ _
      | exact spec_FirstSolution.mono _ _ _
      | exact LeO.none _
      | refine LeO.ite ?_ ?_
      | refine LeO.bind ?_ (fun _ => ?_)
theorem laws_FnExactFirstSolution.mono : ∀ a0 a1 k, LeO (laws_FnExactFirstSolution.f k a0 a1) (laws_FnExactFirstSolution.f (k + 1) a0 a1) := by
  intro a0 a1 k
  obtain ⟨ih0, ih1, ih2⟩ := laws_FnExactFirstSolution.mono_l k
  unfold laws_FnExactFirstSolution.f
  repeat' first
      | (with_reducible exact ih0 _ _ _ _ _ _ _ _ _)
      | (with_reducible exact ih1 _ _ _ _ _ _)
      | (with_reducible exact ih2 _ _ _)
      | (with_reducible exact impl_FirstSolution.mono _ _ _)
      | (with_reducible exact laws_eqIntS.mono _ _ _)
      | (with_reducible exact laws_eqPuzzle.mono _ _ _ _ _)
      | (with_reducible exact laws_heldIntS.mono _ _ _)
      | (with_reducible exact laws_markIntS.mono _ _ _)
      | (with_reducible exact laws_markPuzzle.mono _ _ _ _)
      | (with_reducible exact laws_toPuzzle.mono _ _ _)
      | (with_reducible exact spec_FirstSolution.mono _ _ _)
      | (with_reducible exact LeO.refl _)
      | (with_reducible exact LeO.none _)
      | (with_reducible refine LeO.ite ?_ ?_)
      | (with_reducible refine LeO.bind ?_ (fun _ => ?_))
      | exact ih0 _ _ _ _ _ _ _ _ _
      | exact ih1 _ _ _ _ _ _
      | exact ih2 _ _ _
      | exact impl_FirstSolution.mono _ _ _
      | exact laws_eqIntS.mono _ _ _
      | exact laws_eqPuzzle.mono _ _ _ _ _
      | exact laws_heldIntS.mono _ _ _
      | exact laws_markIntS.mono _ _ _
      | exact laws_markPuzzle.mono _ _ _ _
      | exact laws_toPuzzle.mono _ _ _
      | exact spec_FirstSolution.mono _ _ _
      | exact LeO.none _
      | refine LeO.ite ?_ ?_
      | refine LeO.bind ?_ (fun _ => ?_)
set_option maxHeartbeats 8000000 in
set_option maxRecDepth 100000 in
theorem laws_FnExactFirstSolution.calls (k : Nat) (a0_0 : Int) (A0_1 : Option Addr) (c0_1 : Nat) (l0_1 : List (S42)) (r : Bool) (w : World) (hr0_1 : Kd.C k42 w A0_1 l0_1.length l0_1) (hc0_1 : l0_1.length ≤ c0_1) (h : laws_FnExactFirstSolution.f k a0_0 l0_1 = some r) :
  Calls Try.prog 11 #[.agg #[.int .i64 a0_0, .slice A0_1 l0_1.length c0_1]] w fun e w' => e = .returned (.bool r) ∧ Below w.heap.size w w' := by
 have hu24 := Try.underlying24
 have hu31 := Try.underlying31
 have HR0_1 := Aside0.mk hr0_1
 have HC0_1 := Aside0.mk hc0_1
 clear hr0_1 hc0_1
 have HB := Aside0.mk (Below.refl w.heap.size w)
 have H : ((laws_szPuzzle.f a0_0 l0_1 1048576).bind fun t831 => (if t831 < 0 then (some true) else ((laws_toPuzzle.f k a0_0 l0_1).bind fun bt832 => ((spec_FirstSolution.f k bt832.1 bt832.2).bind fun bt836 => ((laws_toPuzzle.f k a0_0 l0_1).bind fun bt840 => ((impl_FirstSolution.f k bt840.1 bt840.2).bind fun bt845 => ((laws_eqIntS.f k bt845.1 bt836.1).bind fun t849 => (if t849 = true then (laws_FnExactFirstSolution.j0 k bt836.1 bt836.2 bt845.1 bt845.2 (bt845.2 != bt836.2) a0_0 l0_1 bt840.1 bt840.2) else (laws_FnExactFirstSolution.j0 k bt836.1 bt836.2 bt845.1 bt845.2 true a0_0 l0_1 bt840.1 bt840.2))))))))) = some r := h
 clear h
 replace H := Option.bind_eq_some_iff.mp H
 obtain ⟨t831, A20, H⟩ := H
 replace H : (if t831 < 0 then (some true) else ((laws_toPuzzle.f k a0_0 l0_1).bind fun bt832 => ((spec_FirstSolution.f k bt832.1 bt832.2).bind fun bt836 => ((laws_toPuzzle.f k a0_0 l0_1).bind fun bt840 => ((impl_FirstSolution.f k bt840.1 bt840.2).bind fun bt845 => ((laws_eqIntS.f k bt845.1 bt836.1).bind fun t849 => (if t849 = true then (laws_FnExactFirstSolution.j0 k bt836.1 bt836.2 bt845.1 bt845.2 (bt845.2 != bt836.2) a0_0 l0_1 bt840.1 bt840.2) else (laws_FnExactFirstSolution.j0 k bt836.1 bt836.2 bt845.1 bt845.2 true a0_0 l0_1 bt840.1 bt840.2)))))))) = some r := H
 have A2 := Aside0.mk A20
 clear A20
 by_cases c3 : t831 < 0
 ·
  rw [if_pos c3] at H
  have c3b0 : decide (t831 < 0) = true := decide_eq_true c3
  clear c3
  obtain rfl := Option.some.inj H
  go_enter Try.func11, Try.ntmps11
  go_wp2_with (first | ((with_reducible refine gate_dst (N := 1) rfl ?_); refine box_event ?hg (N := 1) ?hd (cs := #[.int .i64 a0_0, .slice A0_1 l0_1.length c0_1]) (t := 24) ?hr ?_; (case hd => rfl); (case hg => rfl); (case hr => first | (go_simp; done) | (go_simp; rfl)); intro gb830 hg w4 hbox hb; have n0_ := Aside0.mk (below_step (by repeat (first | (with_reducible first | exact HB.out | apply below_alloc | apply pw_below_drewN | apply below_drew1) | exact HB.out)) hb); have n1_ := Aside0.mk (hbox); have n2_ := Aside0.mk ((by rw [hg]; exact (below_size (by repeat (first | (with_reducible first | exact HB.out | apply below_alloc | apply pw_below_drewN | apply below_drew1) | exact HB.out))) : w.heap.size ≤ gb830)); have n3_ := n2_; clear HB; have HB := n0_; have BK830 := n1_; have GW830 := n2_; have GE830 := n3_; clear n0_ n1_ n2_ n3_; clear hb hbox hg; have hcz5_0 : w4.cell? ⟨gb830, 0, none⟩ = some (.int .i64 a0_0) := (blk_cell BK830.out 0).trans rfl; have hcz5_1 : w4.cell? ⟨gb830, 1, none⟩ = some (.slice A0_1 l0_1.length c0_1) := (blk_cell BK830.out 1).trans rfl; have hfz5_0 := blk_frozen BK830.out 0; have hfz5_1 := blk_frozen BK830.out 1) | ((with_reducible refine gate_callee (f := 13) rfl ?_); refine goesL_ (some 16) rfl rfl Try.func13 (by kernel_rfl) rfl #[.agg #[.int .i64 a0_0, .slice A0_1 l0_1.length c0_1], .int .i64 1048576] rfl (by (try simp only [List.map_toArray, List.map_cons, List.map_nil]); first | done | rfl | (simp only [List.length_drop, List.length_take]; rfl)) ?_; (with_reducible refine (laws_szPuzzle.calls a0_0 _ _ l0_1 1048576 t831 _ ?side1 ?side2 A2.out).mono ?_); (case side1 => repeat (first | exact (Kd.C_below HR0_1.out HB.out) | (with_reducible refine Kd.C_alloc ?_ _) | (with_reducible refine Kd.C_drewN ?_ _) | (with_reducible refine Kd.C_drew ?_))); (case side2 => exact HC0_1.out); rintro e w6 ⟨rfl, hb⟩; refine ⟨_, rfl, ?_⟩; have n0_ := Aside0.mk (blk_below (pk BK830.out) hb); have n1_ := Aside0.mk (below_step (by repeat (first | (with_reducible first | exact HB.out | apply below_alloc | apply pw_below_drewN | apply below_drew1 | refine below_set ?_ GE830.out) | exact HB.out)) hb); clear BK830; clear HB; have BK830 := n0_; have HB := n1_; clear n0_ n1_; (try clear hb); (try clear hb2); (try clear hk); (try clear hi)))
  go_ret
  exact ⟨by first | rfl | (simp [errW_none, errW_some] <;> rfl) | (simp [*, errW_none, errW_some] <;> rfl), by repeat (first | (with_reducible first | exact HB.out | apply below_alloc | apply pw_below_drewN | apply below_drew1 | refine below_set ?_ GE830.out) | exact HB.out)⟩
 ·
  rw [if_neg c3] at H
  have c3b0 : decide (t831 < 0) = false := decide_eq_false c3
  clear c3
  replace H := Option.bind_eq_some_iff.mp H
  obtain ⟨⟨t832, t833⟩, A70, H⟩ := H
  replace H : ((spec_FirstSolution.f k t832 t833).bind fun bt836 => ((laws_toPuzzle.f k a0_0 l0_1).bind fun bt840 => ((impl_FirstSolution.f k bt840.1 bt840.2).bind fun bt845 => ((laws_eqIntS.f k bt845.1 bt836.1).bind fun t849 => (if t849 = true then (laws_FnExactFirstSolution.j0 k bt836.1 bt836.2 bt845.1 bt845.2 (bt845.2 != bt836.2) a0_0 l0_1 bt840.1 bt840.2) else (laws_FnExactFirstSolution.j0 k bt836.1 bt836.2 bt845.1 bt845.2 true a0_0 l0_1 bt840.1 bt840.2)))))) = some r := H
  have A7 := Aside0.mk A70
  clear A70
  replace H := Option.bind_eq_some_iff.mp H
  obtain ⟨⟨t836, t839⟩, A80, H⟩ := H
  replace H : ((laws_toPuzzle.f k a0_0 l0_1).bind fun bt840 => ((impl_FirstSolution.f k bt840.1 bt840.2).bind fun bt845 => ((laws_eqIntS.f k bt845.1 t836).bind fun t849 => (if t849 = true then (laws_FnExactFirstSolution.j0 k t836 t839 bt845.1 bt845.2 (bt845.2 != t839) a0_0 l0_1 bt840.1 bt840.2) else (laws_FnExactFirstSolution.j0 k t836 t839 bt845.1 bt845.2 true a0_0 l0_1 bt840.1 bt840.2))))) = some r := H
  have A8 := Aside0.mk A80
  clear A80
  replace H := Option.bind_eq_some_iff.mp H
  obtain ⟨⟨t840, t841⟩, A90, H⟩ := H
  replace H : ((impl_FirstSolution.f k t840 t841).bind fun bt845 => ((laws_eqIntS.f k bt845.1 t836).bind fun t849 => (if t849 = true then (laws_FnExactFirstSolution.j0 k t836 t839 bt845.1 bt845.2 (bt845.2 != t839) a0_0 l0_1 t840 t841) else (laws_FnExactFirstSolution.j0 k t836 t839 bt845.1 bt845.2 true a0_0 l0_1 t840 t841)))) = some r := H
  have A9 := Aside0.mk A90
  clear A90
  replace H := Option.bind_eq_some_iff.mp H
  obtain ⟨⟨t845, t848⟩, A100, H⟩ := H
  replace H : ((laws_eqIntS.f k t845 t836).bind fun t849 => (if t849 = true then (laws_FnExactFirstSolution.j0 k t836 t839 t845 t848 (t848 != t839) a0_0 l0_1 t840 t841) else (laws_FnExactFirstSolution.j0 k t836 t839 t845 t848 true a0_0 l0_1 t840 t841))) = some r := H
  have A10 := Aside0.mk A100
  clear A100
  have HC11 := Aside0.mk H
  clear H
  go_enter Try.func11, Try.ntmps11
  go_upto_region 8 with (first | ((with_reducible refine gate_dst (N := 1) rfl ?_); refine box_event ?hg (N := 1) ?hd (cs := #[.int .i64 a0_0, .slice A0_1 l0_1.length c0_1]) (t := 24) ?hr ?_; (case hd => rfl); (case hg => rfl); (case hr => first | (go_simp; done) | (go_simp; rfl)); intro gb830 hg w12 hbox hb; have n0_ := Aside0.mk (below_step (by repeat (first | (with_reducible first | exact HB.out | apply below_alloc | apply pw_below_drewN | apply below_drew1) | exact HB.out)) hb); have n1_ := Aside0.mk (hbox); have n2_ := Aside0.mk ((by rw [hg]; exact (below_size (by repeat (first | (with_reducible first | exact HB.out | apply below_alloc | apply pw_below_drewN | apply below_drew1) | exact HB.out))) : w.heap.size ≤ gb830)); have n3_ := n2_; clear HB; have HB := n0_; have BK830 := n1_; have GW830 := n2_; have GE830 := n3_; clear n0_ n1_ n2_ n3_; clear hb hbox hg; have hcz13_0 : w12.cell? ⟨gb830, 0, none⟩ = some (.int .i64 a0_0) := (blk_cell BK830.out 0).trans rfl; have hcz13_1 : w12.cell? ⟨gb830, 1, none⟩ = some (.slice A0_1 l0_1.length c0_1) := (blk_cell BK830.out 1).trans rfl; have hfz13_0 := blk_frozen BK830.out 0; have hfz13_1 := blk_frozen BK830.out 1) | ((with_reducible refine gate_callee (f := 13) rfl ?_); refine goesL_ (some 16) rfl rfl Try.func13 (by kernel_rfl) rfl #[.agg #[.int .i64 a0_0, .slice A0_1 l0_1.length c0_1], .int .i64 1048576] rfl (by (try simp only [List.map_toArray, List.map_cons, List.map_nil]); first | done | rfl | (simp only [List.length_drop, List.length_take]; rfl)) ?_; (with_reducible refine (laws_szPuzzle.calls a0_0 _ _ l0_1 1048576 t831 _ ?side1 ?side2 A2.out).mono ?_); (case side1 => repeat (first | exact (Kd.C_below HR0_1.out HB.out) | (with_reducible refine Kd.C_alloc ?_ _) | (with_reducible refine Kd.C_drewN ?_ _) | (with_reducible refine Kd.C_drew ?_))); (case side2 => exact HC0_1.out); rintro e w14 ⟨rfl, hb⟩; refine ⟨_, rfl, ?_⟩; have n0_ := Aside0.mk (blk_below (pk BK830.out) hb); have n1_ := Aside0.mk (below_step (by repeat (first | (with_reducible first | exact HB.out | apply below_alloc | apply pw_below_drewN | apply below_drew1 | refine below_set ?_ GE830.out) | exact HB.out)) hb); clear BK830; clear HB; have BK830 := n0_; have HB := n1_; clear n0_ n1_; (try clear hb); (try clear hb2); (try clear hk); (try clear hi); have hcz15_0 : w14.cell? ⟨gb830, 0, none⟩ = some (.int .i64 a0_0) := (blk_cell BK830.out 0).trans rfl; have hcz15_1 : w14.cell? ⟨gb830, 1, none⟩ = some (.slice A0_1 l0_1.length c0_1) := (blk_cell BK830.out 1).trans rfl; have hfz15_0 := blk_frozen BK830.out 0; have hfz15_1 := blk_frozen BK830.out 1) | ((with_reducible refine gate_callee (f := 15) rfl ?_); refine goesL_ (some 21) rfl rfl Try.func15 (by kernel_rfl) rfl #[.agg #[.int .i64 a0_0, .slice A0_1 l0_1.length c0_1]] rfl (by (try simp only [List.map_toArray, List.map_cons, List.map_nil]); first | done | rfl | (simp only [List.length_drop, List.length_take]; rfl)) ?_; (with_reducible refine (laws_toPuzzle.calls k a0_0 _ _ l0_1 t832 t833 _ ?side1 ?side2 A7.out).mono ?_); (case side1 => repeat (first | exact (Kd.C_below HR0_1.out HB.out) | (with_reducible refine Kd.C_alloc ?_ _) | (with_reducible refine Kd.C_drewN ?_ _) | (with_reducible refine Kd.C_drew ?_))); (case side2 => exact HC0_1.out); rintro e w16 ⟨v834, rfl, ho0, hb⟩; refine ⟨_, rfl, ?_⟩; have n0_ := Aside0.mk (Kd.R_lower ho0 (below_size (by repeat (first | (with_reducible first | exact HB.out | apply below_alloc | apply pw_below_drewN | apply below_drew1 | refine below_set ?_ GE830.out) | exact HB.out)))); have n1_ := Aside0.mk (blk_below (pk BK830.out) hb); have n2_ := Aside0.mk (below_step (by repeat (first | (with_reducible first | exact HB.out | apply below_alloc | apply pw_below_drewN | apply below_drew1 | refine below_set ?_ GE830.out) | exact HB.out)) hb); clear BK830; clear HB; have HO835 := n0_; have BK830 := n1_; have HB := n2_; clear n0_ n1_ n2_; (try clear hb); (try clear hb2); (try clear hk); (try clear hi); (try clear ho0); obtain ⟨Ao17, co17, eo17⟩ := Kd.R_slice HO835.out; subst eo17) | ((with_reducible refine gate_callee (f := 39) rfl ?_); refine goesL_ (some 22) rfl rfl Try.func39 (by kernel_rfl) rfl #[.agg #[.int .i64 t832, .slice Ao17 t833.length co17]] rfl (by (try simp only [List.map_toArray, List.map_cons, List.map_nil]); first | done | rfl | (simp only [List.length_drop, List.length_take]; rfl)) ?_; (with_reducible refine (spec_FirstSolution.calls k t832 _ _ t833 t836 t839 _ ?side1 ?side2 A8.out).mono ?_); (case side1 => repeat (first | exact (Kd.R_reads' HO835.out).2.2 | (with_reducible refine Kd.C_alloc ?_ _) | (with_reducible refine Kd.C_drewN ?_ _) | (with_reducible refine Kd.C_drew ?_))); (case side2 => exact (Kd.R_reads' HO835.out).2.1); rintro e w18 ⟨v837, rfl, ho0, hb⟩; refine ⟨_, rfl, ?_⟩; have n0_ := Aside0.mk (Kd.R_below (Kd.pR HO835.out) hb); have n1_ := Aside0.mk (Kd.R_lower ho0 (below_size (by repeat (first | (with_reducible first | exact HB.out | apply below_alloc | apply pw_below_drewN | apply below_drew1 | refine below_set ?_ GE830.out) | exact HB.out)))); have n2_ := Aside0.mk (blk_below (pk BK830.out) hb); have n3_ := Aside0.mk (below_step (by repeat (first | (with_reducible first | exact HB.out | apply below_alloc | apply pw_below_drewN | apply below_drew1 | refine below_set ?_ GE830.out) | exact HB.out)) hb); clear HO835; clear BK830; clear HB; have HO835 := n0_; have HO838 := n1_; have BK830 := n2_; have HB := n3_; clear n0_ n1_ n2_ n3_; (try clear hb); (try clear hb2); (try clear hk); (try clear hi); (try clear ho0); have hcz19_0 : w18.cell? ⟨gb830, 0, none⟩ = some (.int .i64 a0_0) := (blk_cell BK830.out 0).trans rfl; have hcz19_1 : w18.cell? ⟨gb830, 1, none⟩ = some (.slice A0_1 l0_1.length c0_1) := (blk_cell BK830.out 1).trans rfl; have hfz19_0 := blk_frozen BK830.out 0; have hfz19_1 := blk_frozen BK830.out 1) | ((with_reducible refine gate_callee (f := 15) rfl ?_); refine goesL_ (some 26) rfl rfl Try.func15 (by kernel_rfl) rfl #[.agg #[.int .i64 a0_0, .slice A0_1 l0_1.length c0_1]] rfl (by (try simp only [List.map_toArray, List.map_cons, List.map_nil]); first | done | rfl | (simp only [List.length_drop, List.length_take]; rfl)) ?_; (with_reducible refine (laws_toPuzzle.calls k a0_0 _ _ l0_1 t840 t841 _ ?side1 ?side2 A9.out).mono ?_); (case side1 => repeat (first | exact (Kd.C_below HR0_1.out HB.out) | (with_reducible refine Kd.C_alloc ?_ _) | (with_reducible refine Kd.C_drewN ?_ _) | (with_reducible refine Kd.C_drew ?_))); (case side2 => exact HC0_1.out); rintro e w20 ⟨v842, rfl, ho0, hb⟩; refine ⟨_, rfl, ?_⟩; have n0_ := Aside0.mk (Kd.R_elder' (Kd.pR HO835.out) (Kd.R_base ho0) hb); have n1_ := Aside0.mk (Kd.R_below (Kd.pR HO838.out) hb); have n2_ := Aside0.mk (Kd.R_lower (Kd.R_new' ho0 (Kd.R_lt (Kd.pR HO835.out))) (below_size (by repeat (first | (with_reducible first | exact HB.out | apply below_alloc | apply pw_below_drewN | apply below_drew1 | refine below_set ?_ GE830.out) | exact HB.out)))); have n3_ := Aside0.mk (blk_below (pk BK830.out) hb); have n4_ := Aside0.mk (below_step (by repeat (first | (with_reducible first | exact HB.out | apply below_alloc | apply pw_below_drewN | apply below_drew1 | refine below_set ?_ GE830.out) | exact HB.out)) hb); clear HO835; clear HO838; clear BK830; clear HB; have HO835 := n0_; have HO838 := n1_; have HO843 := n2_; have BK830 := n3_; have HB := n4_; clear n0_ n1_ n2_ n3_ n4_; (try clear hb); (try clear hb2); (try clear hk); (try clear hi); (try clear ho0)) | ((with_reducible refine gate_dst (N := 6) rfl ?_); refine box_event ?hg (N := 6) ?hd (cs := #[.int .i64 0, .slice none 0 0]) (t := 31) ?hr ?_; (case hd => rfl); (case hg => rfl); (case hr => first | (go_simp; done) | (go_simp; rfl)); intro gb844 hg w21 hbox hb; have n0_ := Aside0.mk (Kd.R_below (Kd.pR HO835.out) hb); have n1_ := Aside0.mk (Kd.R_below (Kd.pR HO838.out) hb); have n2_ := Aside0.mk (Kd.R_below (Kd.pR HO843.out) hb); have n3_ := Aside0.mk (blk_below (pk BK830.out) hb); have n4_ := Aside0.mk (below_step (by repeat (first | (with_reducible first | exact HB.out | apply below_alloc | apply pw_below_drewN | apply below_drew1 | refine below_set ?_ GE830.out) | exact HB.out)) hb); have n5_ := Aside0.mk (hbox); have n6_ := Aside0.mk ((by rw [hg]; exact (below_size (by repeat (first | (with_reducible first | exact HB.out | apply below_alloc | apply pw_below_drewN | apply below_drew1 | refine below_set ?_ GE830.out) | exact HB.out))) : w.heap.size ≤ gb844)); have n7_ := n6_; have n8_ := Aside0.mk ((by rw [hg]; exact Nat.ne_of_lt (blk_lt (pk BK830.out)) : gb830 ≠ gb844)); have n9_ := Aside0.mk n8_.out.symm; clear HO835; clear HO838; clear HO843; clear BK830; clear HB; have HO835 := n0_; have HO838 := n1_; have HO843 := n2_; have BK830 := n3_; have HB := n4_; have BK844 := n5_; have GW844 := n6_; have GE844 := n7_; have NB830_844 := n8_; have NB844_830 := n9_; clear n0_ n1_ n2_ n3_ n4_ n5_ n6_ n7_ n8_ n9_; clear hb hbox hg; have hnb22 := NB844_830.out; have hnc22 := NB830_844.out; have hcz23_0 : w21.cell? ⟨gb844, 0, none⟩ = some (.int .i64 0) := (blk_cell BK844.out 0).trans rfl; have hcz23_1 : w21.cell? ⟨gb844, 1, none⟩ = some (.slice none 0 0) := (blk_cell BK844.out 1).trans rfl; have hfz23_0 := blk_frozen BK844.out 0; have hfz23_1 := blk_frozen BK844.out 1; obtain ⟨Ao24, co24, eo24⟩ := Kd.R_slice HO843.out; subst eo24) | ((with_reducible refine gate_callee (f := 40) rfl ?_); refine goesL_ (some 29) rfl rfl Try.func40 (by kernel_rfl) rfl #[.agg #[.int .i64 t840, .slice Ao24 t841.length co24]] rfl (by (try simp only [List.map_toArray, List.map_cons, List.map_nil]); first | done | rfl | (simp only [List.length_drop, List.length_take]; rfl)) ?_; (with_reducible refine (impl_FirstSolution.calls k t840 _ _ t841 t845 t848 _ ?side1 ?side2 A10.out).mono ?_); (case side1 => refine (Kd.R_reads' (e := 45) (base := w.heap.size) (ok := fun k_ => (True ∧ some k_ ≠ (.slice Ao17 t833.length co17 : Value).ownBlock)) (n := t841.length) (c := co24) ?_).2.2; exact (by (with_reducible repeat (first | apply Kd.R_alloc | apply Kd.R_drewN | apply Kd.R_drew)); exact (Kd.R_mono (Kd.R_far (p := ⟨gb844, 1, none⟩) (Kd.R_far (p := ⟨gb844, 0, none⟩) (Kd.R_types HO843.out BK844.out (by decide)) (fun _ hk => hk.2) (.int .i64 t840)) (fun _ hk => hk.2) (.slice Ao24 t841.length co24)) (fun _ h_ => h_.1)))); (case side2 => exact (Kd.R_reads' HO843.out).2.1); rintro e w25 ⟨v846, rfl, ho0, hb⟩; refine ⟨_, rfl, ?_⟩; have n0_ := Aside0.mk (Kd.R_below (by (with_reducible repeat (first | apply Kd.R_alloc | apply Kd.R_drewN | apply Kd.R_drew)); exact (Kd.R_mono (Kd.R_far (p := ⟨gb844, 1, none⟩) (Kd.R_far (p := ⟨gb844, 0, none⟩) (Kd.R_types HO835.out BK844.out (by decide)) (fun _ hk => hk.2) (.int .i64 t840)) (fun _ hk => hk.2) (.slice Ao24 t841.length co24)) (fun _ h_ => h_.1))) hb); have n1_ := Aside0.mk (Kd.R_elder' (by (with_reducible repeat (first | apply Kd.R_alloc | apply Kd.R_drewN | apply Kd.R_drew)); exact (Kd.R_mono (Kd.R_far (p := ⟨gb844, 1, none⟩) (Kd.R_far (p := ⟨gb844, 0, none⟩) (Kd.R_types HO838.out BK844.out (by decide)) (fun _ hk => hk.2) (.int .i64 t840)) (fun _ hk => hk.2) (.slice Ao24 t841.length co24)) (fun _ h_ => h_.1))) (Kd.R_base ho0) hb); have n2_ := Aside0.mk (Kd.R_below (by (with_reducible repeat (first | apply Kd.R_alloc | apply Kd.R_drewN | apply Kd.R_drew)); exact (Kd.R_mono (Kd.R_far (p := ⟨gb844, 1, none⟩) (Kd.R_far (p := ⟨gb844, 0, none⟩) (Kd.R_types HO843.out BK844.out (by decide)) (fun _ hk => hk.2) (.int .i64 t840)) (fun _ hk => hk.2) (.slice Ao24 t841.length co24)) (fun _ h_ => h_.1))) hb); have n3_ := Aside0.mk (Kd.R_lower (Kd.R_new' ho0 (Kd.R_lt (by (with_reducible repeat (first | apply Kd.R_alloc | apply Kd.R_drewN | apply Kd.R_drew)); exact (Kd.R_mono (Kd.R_far (p := ⟨gb844, 1, none⟩) (Kd.R_far (p := ⟨gb844, 0, none⟩) (Kd.R_types HO838.out BK844.out (by decide)) (fun _ hk => hk.2) (.int .i64 t840)) (fun _ hk => hk.2) (.slice Ao24 t841.length co24)) (fun _ h_ => h_.1))))) (below_size (by repeat (first | (with_reducible first | exact HB.out | apply below_alloc | apply pw_below_drewN | apply below_drew1 | refine below_set ?_ (Aside0.out (by assumption))) | exact HB.out)))); have n4_ := Aside0.mk (blk_below (g := gb830) (o := .cells #[.int .i64 a0_0, .slice A0_1 l0_1.length c0_1] 24 (0, 0)) (by (with_reducible repeat (first | refine blk_drewN ?_ _ | refine blk_drew ?_ | refine blk_alloc ?_ _)); refine blk_far ?_ NB830_844.out _; (with_reducible repeat (first | refine blk_drewN ?_ _ | refine blk_drew ?_ | refine blk_alloc ?_ _)); refine blk_far ?_ NB830_844.out _; (with_reducible repeat (first | refine blk_drewN ?_ _ | refine blk_drew ?_ | refine blk_alloc ?_ _)); exact BK830.out) hb); have n5_ := Aside0.mk (blk_below (g := gb844) (o := .cells #[.int .i64 t840, .slice Ao24 t841.length co24] 31 (0, 0)) (by (with_reducible repeat (first | refine blk_drewN ?_ _ | refine blk_drew ?_ | refine blk_alloc ?_ _)); refine blk_put (cs := #[.int .i64 t840, .slice none 0 0]) ?_ 1 _ rfl; (with_reducible repeat (first | refine blk_drewN ?_ _ | refine blk_drew ?_ | refine blk_alloc ?_ _)); refine blk_put (cs := #[.int .i64 0, .slice none 0 0]) ?_ 0 _ rfl; (with_reducible repeat (first | refine blk_drewN ?_ _ | refine blk_drew ?_ | refine blk_alloc ?_ _)); exact BK844.out) hb); have n6_ := Aside0.mk (below_step (by repeat (first | (with_reducible first | exact HB.out | apply below_alloc | apply pw_below_drewN | apply below_drew1 | refine below_set ?_ (Aside0.out (by assumption))) | exact HB.out)) hb); clear HO835; clear HO838; clear HO843; clear BK830; clear BK844; clear HB; have HO835 := n0_; have HO838 := n1_; have HO843 := n2_; have HO847 := n3_; have BK830 := n4_; have BK844 := n5_; have HB := n6_; clear n0_ n1_ n2_ n3_ n4_ n5_ n6_; (try clear hb); (try clear hb2); (try clear hk); (try clear hi); (try clear ho0)))
  (try simp only [Act.put, List.setIfInBounds_toArray, List.set_cons_zero, List.set_cons_succ])
  go_cut [40] (fun v40 wc => ∃ (kq : Nat) (x40_10 : Bool), v40 = .bool x40_10 ∧ Aside0 (laws_FnExactFirstSolution.j0 kq t836 t839 t845 t848 x40_10 a0_0 l0_1 t840 t841 = some r) ∧ Aside0 (kq ≤ k) ∧ Aside0 (Kd.R (Kd.int .i64) 3 wc w.heap.size (fun k_ => some k_ ≠ (v846 : Value).ownBlock) v837 t836) ∧ Aside0 (Kd.R (Kd.int .i64) 3 wc w.heap.size (fun k_ => some k_ ≠ (v837 : Value).ownBlock) v846 t845) ∧ Aside0 (Kd.R k45 45 wc w.heap.size (fun _ => True) (.slice Ao24 t841.length co24) t841) ∧ Aside0 (wc.heap[gb830]? = some (.cells #[.int .i64 a0_0, (.slice A0_1 l0_1.length c0_1)] 24 (0, 0))) ∧ Aside0 (wc.heap[gb844]? = some (.cells #[.int .i64 t840, (.slice Ao24 t841.length co24)] 31 (0, 0))) ∧ Aside0 (Below w.heap.size w wc))
  case first =>
   have H := HC11.out
   clear HC11
   replace H := Option.bind_eq_some_iff.mp H
   obtain ⟨t849, A260, H⟩ := H
   replace H : (if t849 = true then (laws_FnExactFirstSolution.j0 k t836 t839 t845 t848 (t848 != t839) a0_0 l0_1 t840 t841) else (laws_FnExactFirstSolution.j0 k t836 t839 t845 t848 true a0_0 l0_1 t840 t841)) = some r := H
   have A26 := Aside0.mk A260
   clear A260
   by_cases c27 : t849 = true
   ·
    subst c27
    have H1 : (laws_FnExactFirstSolution.j0 k t836 t839 t845 t848 (t848 != t839) a0_0 l0_1 t840 t841) = some r := by rw [if_pos rfl] at H; exact H
    clear H
    have H := H1
    clear H1
    have H' := Aside0.mk H
    clear H
    obtain ⟨Ao28, co28, eo28⟩ := Kd.R_slice HO847.out
    subst eo28
    obtain ⟨Ao29, co29, eo29⟩ := Kd.R_slice HO838.out
    subst eo29
    go_wp2_with (first | ((with_reducible refine gate_callee (f := 17) rfl ?_); refine goesL_ (some 34) rfl rfl Try.func17 (by kernel_rfl) rfl #[.slice Ao28 t845.length co28, .slice Ao29 t836.length co29] rfl (by (try simp only [List.map_toArray, List.map_cons, List.map_nil]); first | done | rfl | (simp only [List.length_drop, List.length_take]; rfl)) ?_; (with_reducible refine (laws_eqIntS.calls k _ _ t845 _ _ t836 true _ ?side1 ?side2 ?side3 ?side4 A26.out).mono ?_); (case side1 => repeat (first | exact (Kd.R_reads' HO847.out).2.2 | (with_reducible refine Kd.C_alloc ?_ _) | (with_reducible refine Kd.C_drewN ?_ _) | (with_reducible refine Kd.C_drew ?_))); (case side2 => exact (Kd.R_reads' HO847.out).2.1); (case side3 => repeat (first | exact (Kd.R_reads' HO838.out).2.2 | (with_reducible refine Kd.C_alloc ?_ _) | (with_reducible refine Kd.C_drewN ?_ _) | (with_reducible refine Kd.C_drew ?_))); (case side4 => exact (Kd.R_reads' HO838.out).2.1); rintro e w' ⟨rfl, ⟨nd, rfl⟩⟩; refine ⟨_, rfl, ?_⟩))
    go_meet
    case rel => exact ⟨_, ((t848 != t839)), (by first | rfl | (simp; done) | (simp [*]; done)), H', ⟨by first | omega | exact Nat.le_refl _⟩, ⟨by (with_reducible repeat (first | apply Kd.R_alloc | apply Kd.R_drewN | apply Kd.R_drew)); exact Kd.R_mono HO838.out (fun _ hk => hk.2)⟩, ⟨by (with_reducible repeat (first | apply Kd.R_alloc | apply Kd.R_drewN | apply Kd.R_drew)); exact Kd.R_mono HO847.out (fun _ hk => hk.2)⟩, ⟨by (with_reducible repeat (first | apply Kd.R_alloc | apply Kd.R_drewN | apply Kd.R_drew)); exact Kd.R_mono HO843.out (fun _ hk => trivial)⟩, ⟨by (with_reducible repeat (first | refine blk_drewN ?_ _ | refine blk_drew ?_ | refine blk_alloc ?_ _)); exact BK830.out⟩, ⟨by (with_reducible repeat (first | refine blk_drewN ?_ _ | refine blk_drew ?_ | refine blk_alloc ?_ _)); exact BK844.out⟩, ⟨by repeat (first | (with_reducible first | exact HB.out | apply below_alloc | apply pw_below_drewN | apply below_drew1 | refine below_set ?_ (Aside0.out (by assumption))) | exact HB.out)⟩⟩
   ·
    replace c27 := Bool.eq_false_iff.mpr c27
    subst c27
    have H1 : (laws_FnExactFirstSolution.j0 k t836 t839 t845 t848 true a0_0 l0_1 t840 t841) = some r := by rw [if_neg (show ¬ (false = true) by decide)] at H; exact H
    clear H
    have H := H1
    clear H1
    have H' := Aside0.mk H
    clear H
    obtain ⟨Ao30, co30, eo30⟩ := Kd.R_slice HO847.out
    subst eo30
    obtain ⟨Ao31, co31, eo31⟩ := Kd.R_slice HO838.out
    subst eo31
    go_wp2_with (first | ((with_reducible refine gate_callee (f := 17) rfl ?_); refine goesL_ (some 34) rfl rfl Try.func17 (by kernel_rfl) rfl #[.slice Ao30 t845.length co30, .slice Ao31 t836.length co31] rfl (by (try simp only [List.map_toArray, List.map_cons, List.map_nil]); first | done | rfl | (simp only [List.length_drop, List.length_take]; rfl)) ?_; (with_reducible refine (laws_eqIntS.calls k _ _ t845 _ _ t836 false _ ?side1 ?side2 ?side3 ?side4 A26.out).mono ?_); (case side1 => repeat (first | exact (Kd.R_reads' HO847.out).2.2 | (with_reducible refine Kd.C_alloc ?_ _) | (with_reducible refine Kd.C_drewN ?_ _) | (with_reducible refine Kd.C_drew ?_))); (case side2 => exact (Kd.R_reads' HO847.out).2.1); (case side3 => repeat (first | exact (Kd.R_reads' HO838.out).2.2 | (with_reducible refine Kd.C_alloc ?_ _) | (with_reducible refine Kd.C_drewN ?_ _) | (with_reducible refine Kd.C_drew ?_))); (case side4 => exact (Kd.R_reads' HO838.out).2.1); rintro e w' ⟨rfl, ⟨nd, rfl⟩⟩; refine ⟨_, rfl, ?_⟩))
    go_meet
    case rel => exact ⟨_, (true), (by first | rfl | (simp; done) | (simp [*]; done)), H', ⟨by first | omega | exact Nat.le_refl _⟩, ⟨by (with_reducible repeat (first | apply Kd.R_alloc | apply Kd.R_drewN | apply Kd.R_drew)); exact Kd.R_mono HO838.out (fun _ hk => hk.2)⟩, ⟨by (with_reducible repeat (first | apply Kd.R_alloc | apply Kd.R_drewN | apply Kd.R_drew)); exact Kd.R_mono HO847.out (fun _ hk => hk.2)⟩, ⟨by (with_reducible repeat (first | apply Kd.R_alloc | apply Kd.R_drewN | apply Kd.R_drew)); exact Kd.R_mono HO843.out (fun _ hk => trivial)⟩, ⟨by (with_reducible repeat (first | refine blk_drewN ?_ _ | refine blk_drew ?_ | refine blk_alloc ?_ _)); exact BK830.out⟩, ⟨by (with_reducible repeat (first | refine blk_drewN ?_ _ | refine blk_drew ?_ | refine blk_alloc ?_ _)); exact BK844.out⟩, ⟨by repeat (first | (with_reducible first | exact HB.out | apply below_alloc | apply pw_below_drewN | apply below_drew1 | refine below_set ?_ (Aside0.out (by assumption))) | exact HB.out)⟩⟩
  case rest =>
   clear HC11
   try clear c1
   try clear c2
   try clear p2
   try clear c3
   try clear c3b0
   try clear c4
   try clear c11
   try clear c13
   try clear c15
   try clear c17
   try clear c22
   try clear c27
   try clear hcz13_0
   try clear hcz13_1
   try clear hcz15_0
   try clear hcz15_1
   try clear hcz19_0
   try clear hcz19_1
   try clear hcz23_0
   try clear hcz23_1
   try clear hcz5_0
   try clear hcz5_1
   try clear hfz13_0
   try clear hfz13_1
   try clear hfz15_0
   try clear hfz15_1
   try clear hfz19_0
   try clear hfz19_1
   try clear hfz23_0
   try clear hfz23_1
   try clear hfz5_0
   try clear hfz5_1
   obtain ⟨kq, x40_10, rfl, HA, HJ10, HO_4, HO_7, HO_845001, BK830, BK844, HB⟩ := hcut
   cases kq with
   | zero => exact absurd HA.out (by simp [laws_FnExactFirstSolution.j0])
   | succ kj10 =>
    have H := HA.out
    clear HA
    simp only [laws_FnExactFirstSolution.j0] at H
    by_cases c32 : x40_10 = true
    ·
     subst c32
     have H1 : (none) = some r := by rw [if_pos rfl] at H; exact H
     clear H
     have H := H1
     clear H1
     exact absurd H (by simp)
    ·
     replace c32 := Bool.eq_false_iff.mpr c32
     subst c32
     have H1 : ((laws_toPuzzle.f kj10 a0_0 l0_1).bind fun bt850 => ((laws_eqPuzzle.f kj10 t840 t841 bt850.1 bt850.2).bind fun t854 => (if t854 = true then ((laws_markPuzzle.f kj10 t840 t841 1).bind fun bt855 => (if bt855.1 < 0 then (laws_FnExactFirstSolution.j1 kj10 t836 t839 t845 true a0_0 l0_1) else ((laws_eqIntS.f kj10 t845 t836).bind fun t857 => (if t857 = true then (laws_FnExactFirstSolution.j1 kj10 t836 t839 t845 (t848 != t839) a0_0 l0_1) else (laws_FnExactFirstSolution.j1 kj10 t836 t839 t845 true a0_0 l0_1))))) else (none)))) = some r := by rw [if_neg (show ¬ (false = true) by decide)] at H; exact H
     clear H
     have H := H1
     clear H1
     replace H := Option.bind_eq_some_iff.mp H
     obtain ⟨⟨t850, t851⟩, A330, H⟩ := H
     replace H : ((laws_eqPuzzle.f kj10 t840 t841 t850 t851).bind fun t854 => (if t854 = true then ((laws_markPuzzle.f kj10 t840 t841 1).bind fun bt855 => (if bt855.1 < 0 then (laws_FnExactFirstSolution.j1 kj10 t836 t839 t845 true a0_0 l0_1) else ((laws_eqIntS.f kj10 t845 t836).bind fun t857 => (if t857 = true then (laws_FnExactFirstSolution.j1 kj10 t836 t839 t845 (t848 != t839) a0_0 l0_1) else (laws_FnExactFirstSolution.j1 kj10 t836 t839 t845 true a0_0 l0_1))))) else (none))) = some r := H
     have A33 := Aside0.mk A330
     clear A330
     replace H := Option.bind_eq_some_iff.mp H
     obtain ⟨t854, A340, H⟩ := H
     replace H : (if t854 = true then ((laws_markPuzzle.f kj10 t840 t841 1).bind fun bt855 => (if bt855.1 < 0 then (laws_FnExactFirstSolution.j1 kj10 t836 t839 t845 true a0_0 l0_1) else ((laws_eqIntS.f kj10 t845 t836).bind fun t857 => (if t857 = true then (laws_FnExactFirstSolution.j1 kj10 t836 t839 t845 (t848 != t839) a0_0 l0_1) else (laws_FnExactFirstSolution.j1 kj10 t836 t839 t845 true a0_0 l0_1))))) else (none)) = some r := H
     have A34 := Aside0.mk A340
     clear A340
     by_cases c35 : t854 = true
     ·
      subst c35
      have H1 : ((laws_markPuzzle.f kj10 t840 t841 1).bind fun bt855 => (if bt855.1 < 0 then (laws_FnExactFirstSolution.j1 kj10 t836 t839 t845 true a0_0 l0_1) else ((laws_eqIntS.f kj10 t845 t836).bind fun t857 => (if t857 = true then (laws_FnExactFirstSolution.j1 kj10 t836 t839 t845 (t848 != t839) a0_0 l0_1) else (laws_FnExactFirstSolution.j1 kj10 t836 t839 t845 true a0_0 l0_1))))) = some r := by rw [if_pos rfl] at H; exact H
      clear H
      have H := H1
      clear H1
      replace H := Option.bind_eq_some_iff.mp H
      obtain ⟨⟨t855, t856⟩, A360, H⟩ := H
      replace H : (if t855 < 0 then (laws_FnExactFirstSolution.j1 kj10 t836 t839 t845 true a0_0 l0_1) else ((laws_eqIntS.f kj10 t845 t836).bind fun t857 => (if t857 = true then (laws_FnExactFirstSolution.j1 kj10 t836 t839 t845 (t848 != t839) a0_0 l0_1) else (laws_FnExactFirstSolution.j1 kj10 t836 t839 t845 true a0_0 l0_1)))) = some r := H
      have A36 := Aside0.mk A360
      clear A360
      have HC37 := Aside0.mk H
      clear H
      try go_wp2
      have n0_ := Aside0.mk (Kd.R_drew HO_4.out)
      have n1_ := Aside0.mk (Kd.R_drew HO_7.out)
      have n2_ := Aside0.mk (Kd.R_drew HO_845001.out)
      have n3_ := Aside0.mk (blk_drew BK830.out)
      have n4_ := Aside0.mk (blk_drew BK844.out)
      have n5_ := Aside0.mk (below_drew1 HB.out)
      clear HO_4 HO_7 HO_845001 BK830 BK844 HB
      have HO_4 := n0_; have HO_7 := n1_; have HO_845001 := n2_; have BK830 := n3_; have BK844 := n4_; have HB := n5_
      clear n0_ n1_ n2_ n3_ n4_ n5_
      refine start_ (n := 5) (S := fun w' => w'.cell? ⟨gb844, 0, none⟩ = some (.int .i64 t840) ∧ w'.cell? ⟨gb844, 1, none⟩ = some (.slice Ao24 t841.length co24) ∧ w'.cell? ⟨gb830, 0, none⟩ = some (.int .i64 a0_0) ∧ w'.cell? ⟨gb830, 1, none⟩ = some (.slice A0_1 l0_1.length c0_1)) (ds := []) #[false, false, false, false, false] (by kernel_rfl) rfl rfl ⟨(blk_cell BK844.out 0).trans rfl, (blk_cell BK844.out 1).trans rfl, (blk_cell BK830.out 0).trans rfl, (blk_cell BK830.out 1).trans rfl⟩ (fun hHeld => ?_)
      generalize wc.drew = w38 at HO_4 HO_7 HO_845001 BK830 BK844 HB hHeld ⊢
      refine take_ (i := 0) (N := some 41) (v := ?_) (a' := ?_) #[true, false, false, false, false] rfl rfl (by kernel_rfl) (fun _ _ _ h => h) (Or.inl ⟨by rfl, ?_⟩) hHeld ?_ ?_
      rotate_left
      ·
       rintro w' ⟨s0, s1, s2, s3⟩
       go_simp
       with_reducible rfl
      rotate_left
      ·
       simp only [Act.put, List.setIfInBounds_toArray, List.set_cons_zero, List.set_cons_succ, i64_w, i32_w]
       rfl
      refine take_ (i := 1) (N := some 42) (v := ?_) (a' := ?_) #[true, true, false, false, false] rfl rfl (by kernel_rfl) (fun _ _ _ h => h) (Or.inl ⟨by rfl, ?_⟩) hHeld ?_ ?_
      rotate_left
      ·
       rintro w' ⟨s0, s1, s2, s3⟩
       go_simp
       with_reducible rfl
      rotate_left
      ·
       simp only [Act.put, List.setIfInBounds_toArray, List.set_cons_zero, List.set_cons_succ, i64_w, i32_w]
       rfl
      refine one_ (i := 2) (N := some 43) #[true, true, true, false, false] rfl rfl (by kernel_rfl) (by decide) (fun K hK => ?_)
      refine goes_ Try.func15 (by kernel_rfl) rfl #[.agg #[.int .i64 a0_0, .slice A0_1 l0_1.length c0_1]] (by rfl) rfl rfl (by (try simp only [List.map_toArray, List.map_cons, List.map_nil]); first | done | rfl | (simp only [List.length_drop, List.length_take]; rfl)) ?_
      with_reducible refine (laws_toPuzzle.calls kj10 a0_0 _ _ l0_1 t850 t851 _ ?side1 ?side2 A33.out).mono ?_
      (case side1 => repeat (first | exact (Kd.C_below HR0_1.out HB.out) | (with_reducible refine Kd.C_alloc ?_ _) | (with_reducible refine Kd.C_drewN ?_ _) | (with_reducible refine Kd.C_drew ?_)))
      (case side2 => exact HC0_1.out)
      rintro e w39 ⟨v852, rfl, ho0, hb⟩
      refine ⟨_, rfl, ?_⟩
      have n0_ := Aside0.mk (Kd.R_below (Kd.pR HO_4.out) hb)
      have n1_ := Aside0.mk (Kd.R_below (Kd.pR HO_7.out) hb)
      have n2_ := Aside0.mk (Kd.R_elder' (Kd.pR HO_845001.out) (Kd.R_base ho0) hb)
      have n3_ := Aside0.mk (Kd.R_lower (Kd.R_new' ho0 (Kd.R_lt (Kd.pR HO_845001.out))) (below_size (by repeat (first | (with_reducible first | exact HB.out | apply below_alloc | apply pw_below_drewN | apply below_drew1 | refine below_set ?_ (Aside0.out (by assumption))) | exact HB.out))))
      have n4_ := Aside0.mk (blk_below (pk BK830.out) hb)
      have n5_ := Aside0.mk (blk_below (pk BK844.out) hb)
      have n6_ := Aside0.mk (below_step (by repeat (first | (with_reducible first | exact HB.out | apply below_alloc | apply pw_below_drewN | apply below_drew1 | refine below_set ?_ (Aside0.out (by assumption))) | exact HB.out)) hb)
      clear HO_4 HO_7 HO_845001 BK830 BK844 HB
      have HO_4 := n0_; have HO_7 := n1_; have HO_845001 := n2_; have HO853 := n3_; have BK830 := n4_; have BK844 := n5_; have HB := n6_
      clear n0_ n1_ n2_ n3_ n4_ n5_ n6_
      (try clear hb)
      (try clear hb2)
      (try clear hk)
      (try clear hi)
      (try clear ho0)
      obtain ⟨Ao40, co40, eo40⟩ := Kd.R_slice HO853.out
      (first | subst eo40 | (injection eo40 with f1_ f2_ f3_; have f4_ := f1_.symm; have f5_ := f3_.symm; clear f1_ f2_ f3_; subst f4_; subst f5_))
      refine hK.out _ _ ⟨(blk_cell BK844.out 0).trans rfl, (blk_cell BK844.out 1).trans rfl, (blk_cell BK830.out 0).trans rfl, (blk_cell BK830.out 1).trans rfl⟩ (fun hHeld => ?_)
      clear hK K
      refine norm_ (a' := ?_) ?_ ?_
      rotate_left
      ·
       show Act.put _ (some 43) _ = _
       simp only [Act.put, List.setIfInBounds_toArray, List.set_cons_zero, List.set_cons_succ, i64_w, i32_w]
       rfl
      refine one_ (i := 3) (N := some 44) #[true, true, true, true, false] rfl rfl (by kernel_rfl) (by decide) (fun K hK => ?_)
      refine goes_ Try.func18 (by kernel_rfl) rfl #[.agg #[.int .i64 t840, .slice Ao24 t841.length co24], .agg #[.int .i64 t850, .slice Ao40 t851.length co40]] (by rfl) rfl rfl (by (try simp only [List.map_toArray, List.map_cons, List.map_nil]); first | done | rfl | (simp only [List.length_drop, List.length_take]; rfl)) ?_
      with_reducible refine (laws_eqPuzzle.calls kj10 t840 _ _ t841 t850 _ _ t851 true _ ?side1 ?side2 ?side3 ?side4 A34.out).mono ?_
      (case side1 => repeat (first | exact (Kd.R_reads' HO_845001.out).2.2 | (with_reducible refine Kd.C_alloc ?_ _) | (with_reducible refine Kd.C_drewN ?_ _) | (with_reducible refine Kd.C_drew ?_)))
      (case side2 => exact (Kd.R_reads' HO_845001.out).2.1)
      (case side3 => repeat (first | exact (Kd.R_reads' HO853.out).2.2 | (with_reducible refine Kd.C_alloc ?_ _) | (with_reducible refine Kd.C_drewN ?_ _) | (with_reducible refine Kd.C_drew ?_)))
      (case side4 => exact (Kd.R_reads' HO853.out).2.1)
      rintro e w41 ⟨rfl, hb⟩
      refine ⟨_, rfl, ?_⟩
      have n0_ := Aside0.mk (Kd.R_below (Kd.pR HO_4.out) hb)
      have n1_ := Aside0.mk (Kd.R_below (Kd.pR HO_7.out) hb)
      have n2_ := Aside0.mk (Kd.R_below (Kd.pR HO_845001.out) hb)
      have n3_ := Aside0.mk (Kd.R_below (Kd.pR HO853.out) hb)
      have n4_ := Aside0.mk (blk_below (pk BK830.out) hb)
      have n5_ := Aside0.mk (blk_below (pk BK844.out) hb)
      have n6_ := Aside0.mk (below_step (by repeat (first | (with_reducible first | exact HB.out | apply below_alloc | apply pw_below_drewN | apply below_drew1 | refine below_set ?_ (Aside0.out (by assumption))) | exact HB.out)) hb)
      clear HO_4 HO_7 HO_845001 HO853 BK830 BK844 HB
      have HO_4 := n0_; have HO_7 := n1_; have HO_845001 := n2_; have HO853 := n3_; have BK830 := n4_; have BK844 := n5_; have HB := n6_
      clear n0_ n1_ n2_ n3_ n4_ n5_ n6_
      (try clear hb)
      (try clear hb2)
      (try clear hk)
      (try clear hi)
      refine hK.out _ _ ⟨(blk_cell BK844.out 0).trans rfl, (blk_cell BK844.out 1).trans rfl, (blk_cell BK830.out 0).trans rfl, (blk_cell BK830.out 1).trans rfl⟩ (fun hHeld => ?_)
      clear hK K
      refine norm_ (a' := ?_) ?_ ?_
      rotate_left
      ·
       show Act.put _ (some 44) _ = _
       simp only [Act.put, List.setIfInBounds_toArray, List.set_cons_zero, List.set_cons_succ, i64_w, i32_w]
       rfl
      refine pure_ (i := 4) (N := some 45) (v := ?_) (a' := ?_) #[true, true, true, true, true] rfl rfl (by kernel_rfl) (fun _ _ _ h => h) (Or.inl ⟨by rfl, ?_⟩) ?_ ?_
      rotate_left
      ·
       intro w'
       go_simp
       with_reducible rfl
      rotate_left
      ·
       simp only [Act.put, List.setIfInBounds_toArray, List.set_cons_zero, List.set_cons_succ, i64_w, i32_w]
       rfl
      refine done_ (by kernel_rfl) ?_
      have hnb42 := NB844_830.out
      have hnc42 := NB830_844.out
      have hcz43_0 : w41.cell? ⟨gb844, 0, none⟩ = some (.int .i64 t840) := (blk_cell BK844.out 0).trans rfl
      have hcz43_1 : w41.cell? ⟨gb844, 1, none⟩ = some (.slice Ao24 t841.length co24) := (blk_cell BK844.out 1).trans rfl
      have hfz43_0 := blk_frozen BK844.out 0
      have hfz43_1 := blk_frozen BK844.out 1
      go_upto_region 14 with (first | ((with_reducible refine gate_callee (f := 19) rfl ?_); refine goesL_ (some 48) rfl rfl Try.func19 (by kernel_rfl) rfl #[.agg #[.int .i64 t840, .slice Ao24 t841.length co24], .int .i64 1] rfl (by (try simp only [List.map_toArray, List.map_cons, List.map_nil]); first | done | rfl | (simp only [List.length_drop, List.length_take]; rfl)) ?_; (with_reducible refine (laws_markPuzzle.calls kj10 t840 (fun k_ => some k_ = (.slice Ao24 t841.length co24 : Value).ownBlock) (.slice Ao24 t841.length co24) t841 1 t855 t856 w _ ?side1 ?side2 A36.out).mono ?_); (case side1 => repeat (first | (with_reducible first | exact HB.out | apply below_alloc | apply pw_below_drewN | apply below_drew1 | refine below_set ?_ (Aside0.out (by assumption))) | exact HB.out)); (case side2 => exact Kd.R_tight rfl HO_845001.out); rintro e w44 ⟨rfl, hy0, hb, hkp⟩; refine ⟨_, rfl, ?_⟩; have n0_ := Aside0.mk (Kd.R_mono (ok' := fun k_ => some k_ ≠ (v846 : Value).ownBlock) (Kd.R_keptB ((Kd.R_apart' HO_4.out (Kd.R_typed HO_845001.out) (by decide))) hkp (fun k_ hk_ hs_ => (hk_.2) hs_)) (fun k_ hk_ => hk_.1.1)); have n1_ := Aside0.mk (Kd.R_mono (ok' := fun k_ => some k_ ≠ (v837 : Value).ownBlock) (Kd.R_keptB ((Kd.R_apart' HO_7.out (Kd.R_typed HO_845001.out) (by decide))) hkp (fun k_ hk_ hs_ => (hk_.2) hs_)) (fun k_ hk_ => hk_.1.1)); have n2_ := Aside0.mk (Kd.R_reok rfl hy0 (fun k_ e_ => HO_845001.out.1 k_ e_)); have n3_ := Aside0.mk (blk_kept (pk BK830.out) hkp (fun hs_ => (fun e_ => (Kd.R_ne HO_845001.out BK830.out (by decide)) e_) hs_)); have n4_ := Aside0.mk (blk_kept (pk BK844.out) hkp (fun hs_ => (fun e_ => (Kd.R_ne HO_845001.out BK844.out (by decide)) e_) hs_)); have n5_ := Aside0.mk (Kd.R_mono (ok' := fun k_ => some k_ ≠ (.slice Ao24 t841.length co24 : Value).ownBlock) (Kd.R_keptB (HO853.out) hkp (fun k_ hk_ hs_ => (hk_.2) hs_)) (fun k_ hk_ => hk_.1.2)); have n6_ := Aside0.mk (hb); clear HO_4; clear HO_7; clear HO_845001; clear BK830; clear BK844; clear HO853; clear HB; have HO_4 := n0_; have HO_7 := n1_; have HO_845001 := n2_; have BK830 := n3_; have BK844 := n4_; have HO853 := n5_; have HB := n6_; clear n0_ n1_ n2_ n3_ n4_ n5_ n6_; (try clear hb); (try clear hkp); (try clear hy0)))
      (try simp only [Act.put, List.setIfInBounds_toArray, List.set_cons_zero, List.set_cons_succ])
      go_cut [61] (fun v61 wc => ∃ (kq : Nat) (x61_36 : Bool), v61 = .bool x61_36 ∧ Aside0 (laws_FnExactFirstSolution.j1 kq t836 t839 t845 x61_36 a0_0 l0_1 = some r) ∧ Aside0 (kq ≤ kj10) ∧ Aside0 (Kd.R (Kd.int .i64) 3 wc w.heap.size (fun k_ => some k_ ≠ (v846 : Value).ownBlock) v837 t836) ∧ Aside0 (Kd.R (Kd.int .i64) 3 wc w.heap.size (fun k_ => some k_ ≠ (v837 : Value).ownBlock) v846 t845) ∧ Aside0 (Kd.R k45 45 wc w.heap.size (fun _ => True) (.slice Ao24 t841.length co24) t856) ∧ Aside0 (wc.heap[gb830]? = some (.cells #[.int .i64 a0_0, (.slice A0_1 l0_1.length c0_1)] 24 (0, 0))) ∧ Aside0 (wc.heap[gb844]? = some (.cells #[.int .i64 t840, (.slice Ao24 t841.length co24)] 31 (0, 0))) ∧ Aside0 (Below w.heap.size w wc))
      case first =>
       have H := HC37.out
       clear HC37
       by_cases c45 : t855 < 0
       ·
        rw [if_pos c45] at H
        have c45b0 : decide (t855 < 0) = true := decide_eq_true c45
        clear c45
        (first | rw [c45b0] | (simp only [i64_w, i32_w]; rw [c45b0]) | skip)
        have H' := Aside0.mk H
        clear H
        go_wp2
        go_meet
        case rel => exact ⟨_, (true), (by first | rfl | (simp; done) | (simp [*]; done)), H', ⟨by have := HJ10.out; first | omega | exact Nat.le_refl _⟩, ⟨by (with_reducible repeat (first | apply Kd.R_alloc | apply Kd.R_drewN | apply Kd.R_drew)); exact HO_4.out⟩, ⟨by (with_reducible repeat (first | apply Kd.R_alloc | apply Kd.R_drewN | apply Kd.R_drew)); exact HO_7.out⟩, ⟨by (with_reducible repeat (first | apply Kd.R_alloc | apply Kd.R_drewN | apply Kd.R_drew)); exact Kd.R_mono HO_845001.out (fun _ hk => trivial)⟩, ⟨by (with_reducible repeat (first | refine blk_drewN ?_ _ | refine blk_drew ?_ | refine blk_alloc ?_ _)); exact BK830.out⟩, ⟨by (with_reducible repeat (first | refine blk_drewN ?_ _ | refine blk_drew ?_ | refine blk_alloc ?_ _)); exact BK844.out⟩, ⟨by repeat (first | (with_reducible first | exact HB.out | apply below_alloc | apply pw_below_drewN | apply below_drew1 | refine below_set ?_ (Aside0.out (by assumption))) | exact HB.out)⟩⟩
       ·
        rw [if_neg c45] at H
        have c45b0 : decide (t855 < 0) = false := decide_eq_false c45
        clear c45
        (first | rw [c45b0] | (simp only [i64_w, i32_w]; rw [c45b0]) | skip)
        replace H := Option.bind_eq_some_iff.mp H
        obtain ⟨t857, A460, H⟩ := H
        replace H : (if t857 = true then (laws_FnExactFirstSolution.j1 kj10 t836 t839 t845 (t848 != t839) a0_0 l0_1) else (laws_FnExactFirstSolution.j1 kj10 t836 t839 t845 true a0_0 l0_1)) = some r := H
        have A46 := Aside0.mk A460
        clear A460
        by_cases c47 : t857 = true
        ·
         subst c47
         have H1 : (laws_FnExactFirstSolution.j1 kj10 t836 t839 t845 (t848 != t839) a0_0 l0_1) = some r := by rw [if_pos rfl] at H; exact H
         clear H
         have H := H1
         clear H1
         have H' := Aside0.mk H
         clear H
         obtain ⟨Ao48, co48, eo48⟩ := Kd.R_slice HO_7.out
         subst eo48
         obtain ⟨Ao49, co49, eo49⟩ := Kd.R_slice HO_4.out
         subst eo49
         go_wp2_with (first | (go_at_call 17; (with_reducible refine (laws_eqIntS.calls kj10 _ _ t845 _ _ t836 true _ ?side1 ?side2 ?side3 ?side4 A46.out).mono ?_); (case side1 => repeat (first | exact (Kd.R_reads' HO_7.out).2.2 | (with_reducible refine Kd.C_alloc ?_ _) | (with_reducible refine Kd.C_drewN ?_ _) | (with_reducible refine Kd.C_drew ?_))); (case side2 => exact (Kd.R_reads' HO_7.out).2.1); (case side3 => repeat (first | exact (Kd.R_reads' HO_4.out).2.2 | (with_reducible refine Kd.C_alloc ?_ _) | (with_reducible refine Kd.C_drewN ?_ _) | (with_reducible refine Kd.C_drew ?_))); (case side4 => exact (Kd.R_reads' HO_4.out).2.1); rintro e w' ⟨rfl, ⟨nd, rfl⟩⟩))
         go_meet
         case rel => exact ⟨_, ((t848 != t839)), (by first | rfl | (simp; done) | (simp [*]; done)), H', ⟨by have := HJ10.out; first | omega | exact Nat.le_refl _⟩, ⟨by (with_reducible repeat (first | apply Kd.R_alloc | apply Kd.R_drewN | apply Kd.R_drew)); exact HO_4.out⟩, ⟨by (with_reducible repeat (first | apply Kd.R_alloc | apply Kd.R_drewN | apply Kd.R_drew)); exact HO_7.out⟩, ⟨by (with_reducible repeat (first | apply Kd.R_alloc | apply Kd.R_drewN | apply Kd.R_drew)); exact Kd.R_mono HO_845001.out (fun _ hk => trivial)⟩, ⟨by (with_reducible repeat (first | refine blk_drewN ?_ _ | refine blk_drew ?_ | refine blk_alloc ?_ _)); exact BK830.out⟩, ⟨by (with_reducible repeat (first | refine blk_drewN ?_ _ | refine blk_drew ?_ | refine blk_alloc ?_ _)); exact BK844.out⟩, ⟨by repeat (first | (with_reducible first | exact HB.out | apply below_alloc | apply pw_below_drewN | apply below_drew1 | refine below_set ?_ (Aside0.out (by assumption))) | exact HB.out)⟩⟩
        ·
         replace c47 := Bool.eq_false_iff.mpr c47
         subst c47
         have H1 : (laws_FnExactFirstSolution.j1 kj10 t836 t839 t845 true a0_0 l0_1) = some r := by rw [if_neg (show ¬ (false = true) by decide)] at H; exact H
         clear H
         have H := H1
         clear H1
         have H' := Aside0.mk H
         clear H
         obtain ⟨Ao50, co50, eo50⟩ := Kd.R_slice HO_7.out
         subst eo50
         obtain ⟨Ao51, co51, eo51⟩ := Kd.R_slice HO_4.out
         subst eo51
         go_wp2_with (first | (go_at_call 17; (with_reducible refine (laws_eqIntS.calls kj10 _ _ t845 _ _ t836 false _ ?side1 ?side2 ?side3 ?side4 A46.out).mono ?_); (case side1 => repeat (first | exact (Kd.R_reads' HO_7.out).2.2 | (with_reducible refine Kd.C_alloc ?_ _) | (with_reducible refine Kd.C_drewN ?_ _) | (with_reducible refine Kd.C_drew ?_))); (case side2 => exact (Kd.R_reads' HO_7.out).2.1); (case side3 => repeat (first | exact (Kd.R_reads' HO_4.out).2.2 | (with_reducible refine Kd.C_alloc ?_ _) | (with_reducible refine Kd.C_drewN ?_ _) | (with_reducible refine Kd.C_drew ?_))); (case side4 => exact (Kd.R_reads' HO_4.out).2.1); rintro e w' ⟨rfl, ⟨nd, rfl⟩⟩))
         go_meet
         case rel => exact ⟨_, (true), (by first | rfl | (simp; done) | (simp [*]; done)), H', ⟨by have := HJ10.out; first | omega | exact Nat.le_refl _⟩, ⟨by (with_reducible repeat (first | apply Kd.R_alloc | apply Kd.R_drewN | apply Kd.R_drew)); exact HO_4.out⟩, ⟨by (with_reducible repeat (first | apply Kd.R_alloc | apply Kd.R_drewN | apply Kd.R_drew)); exact HO_7.out⟩, ⟨by (with_reducible repeat (first | apply Kd.R_alloc | apply Kd.R_drewN | apply Kd.R_drew)); exact Kd.R_mono HO_845001.out (fun _ hk => trivial)⟩, ⟨by (with_reducible repeat (first | refine blk_drewN ?_ _ | refine blk_drew ?_ | refine blk_alloc ?_ _)); exact BK830.out⟩, ⟨by (with_reducible repeat (first | refine blk_drewN ?_ _ | refine blk_drew ?_ | refine blk_alloc ?_ _)); exact BK844.out⟩, ⟨by repeat (first | (with_reducible first | exact HB.out | apply below_alloc | apply pw_below_drewN | apply below_drew1 | refine below_set ?_ (Aside0.out (by assumption))) | exact HB.out)⟩⟩
      case rest =>
       clear HC37
       try clear c1
       try clear c2
       try clear p2
       try clear c3
       try clear c3b0
       try clear c4
       try clear c11
       try clear c13
       try clear c15
       try clear c17
       try clear c18
       try clear c19
       try clear c22
       try clear c27
       try clear c32
       try clear c35
       try clear c39
       try clear c40
       try clear c42
       try clear c45
       try clear c45b0
       try clear c47
       try clear hcz13_0
       try clear hcz13_1
       try clear hcz15_0
       try clear hcz15_1
       try clear hcz19_0
       try clear hcz19_1
       try clear hcz23_0
       try clear hcz23_1
       try clear hcz43_0
       try clear hcz43_1
       try clear hcz5_0
       try clear hcz5_1
       try clear hfz13_0
       try clear hfz13_1
       try clear hfz15_0
       try clear hfz15_1
       try clear hfz19_0
       try clear hfz19_1
       try clear hfz23_0
       try clear hfz23_1
       try clear hfz43_0
       try clear hfz43_1
       try clear hfz5_0
       try clear hfz5_1
       try clear p2
       obtain ⟨kq, x61_36, rfl, HA, HJ36, HO_4, HO_7, HO_845001, BK830, BK844, HB⟩ := hcut
       have hl845001_36 := (Kd.R_reads' HO_845001.out).1
       rw [hl845001_36] at HO_845001
       (try simp only [hl845001_36])
       (try simp only [hl845001_36] at BK830)
       (try simp only [hl845001_36] at BK844)
       (try simp only [hl845001_36] at HO_4)
       (try simp only [hl845001_36] at HO_7)
       cases kq with
       | zero => exact absurd HA.out (by simp [laws_FnExactFirstSolution.j1])
       | succ kj36 =>
        have H := HA.out
        clear HA
        simp only [laws_FnExactFirstSolution.j1] at H
        by_cases c52 : x61_36 = true
        ·
         subst c52
         have H1 : (none) = some r := by rw [if_pos rfl] at H; exact H
         clear H
         have H := H1
         clear H1
         exact absurd H (by simp)
        ·
         replace c52 := Bool.eq_false_iff.mpr c52
         subst c52
         have H1 : ((laws_markIntS.f kj36 t845 1).bind fun bt858 => ((laws_heldIntS.f kj36 bt858.2 1).bind fun t860 => (if t860 < 0 then (none) else (if t860 = bt858.1 then ((laws_toPuzzle.f kj36 a0_0 l0_1).bind fun bt861 => ((impl_FirstSolution.f kj36 bt861.1 bt861.2).bind fun bt865 => ((laws_eqIntS.f kj36 bt865.1 t836).bind fun t869 => (if t869 = true then (laws_FnExactFirstSolution.j2 kj36 bt858.2 bt858.1 (bt865.2 != t839)) else (laws_FnExactFirstSolution.j2 kj36 bt858.2 bt858.1 true))))) else (none))))) = some r := by rw [if_neg (show ¬ (false = true) by decide)] at H; exact H
         clear H
         have H := H1
         clear H1
         replace H := Option.bind_eq_some_iff.mp H
         obtain ⟨⟨t858, t859⟩, A530, H⟩ := H
         replace H : ((laws_heldIntS.f kj36 t859 1).bind fun t860 => (if t860 < 0 then (none) else (if t860 = t858 then ((laws_toPuzzle.f kj36 a0_0 l0_1).bind fun bt861 => ((impl_FirstSolution.f kj36 bt861.1 bt861.2).bind fun bt865 => ((laws_eqIntS.f kj36 bt865.1 t836).bind fun t869 => (if t869 = true then (laws_FnExactFirstSolution.j2 kj36 t859 t858 (bt865.2 != t839)) else (laws_FnExactFirstSolution.j2 kj36 t859 t858 true))))) else (none)))) = some r := H
         have A53 := Aside0.mk A530
         clear A530
         replace H := Option.bind_eq_some_iff.mp H
         obtain ⟨t860, A540, H⟩ := H
         replace H : (if t860 < 0 then (none) else (if t860 = t858 then ((laws_toPuzzle.f kj36 a0_0 l0_1).bind fun bt861 => ((impl_FirstSolution.f kj36 bt861.1 bt861.2).bind fun bt865 => ((laws_eqIntS.f kj36 bt865.1 t836).bind fun t869 => (if t869 = true then (laws_FnExactFirstSolution.j2 kj36 t859 t858 (bt865.2 != t839)) else (laws_FnExactFirstSolution.j2 kj36 t859 t858 true))))) else (none))) = some r := H
         have A54 := Aside0.mk A540
         clear A540
         by_cases c55 : t860 < 0
         ·
          rw [if_pos c55] at H
          exact absurd H (by simp)
         ·
          rw [if_neg c55] at H
          have c55b0 : decide (t860 < 0) = false := decide_eq_false c55
          clear c55
          by_cases c56 : t860 = t858
          ·
           rw [if_pos c56] at H
           have c56b0 : (t860 == t858) = true := beq_iff_eq.mpr c56
           have c56b1 : (t860 != t858) = false := bne_eq_false_iff_eq.mpr c56
           clear c56
           replace H := Option.bind_eq_some_iff.mp H
           obtain ⟨⟨t861, t862⟩, A570, H⟩ := H
           replace H : ((impl_FirstSolution.f kj36 t861 t862).bind fun bt865 => ((laws_eqIntS.f kj36 bt865.1 t836).bind fun t869 => (if t869 = true then (laws_FnExactFirstSolution.j2 kj36 t859 t858 (bt865.2 != t839)) else (laws_FnExactFirstSolution.j2 kj36 t859 t858 true)))) = some r := H
           have A57 := Aside0.mk A570
           clear A570
           replace H := Option.bind_eq_some_iff.mp H
           obtain ⟨⟨t865, t868⟩, A580, H⟩ := H
           replace H : ((laws_eqIntS.f kj36 t865 t836).bind fun t869 => (if t869 = true then (laws_FnExactFirstSolution.j2 kj36 t859 t858 (t868 != t839)) else (laws_FnExactFirstSolution.j2 kj36 t859 t858 true))) = some r := H
           have A58 := Aside0.mk A580
           clear A580
           have HC59 := Aside0.mk H
           clear H
           obtain ⟨Ao60, co60, eo60⟩ := Kd.R_slice HO_7.out
           subst eo60
           go_upto_region 25 with (first | ((with_reducible refine gate_callee (f := 20) rfl ?_); refine goesL_ (some 64) rfl rfl Try.func20 (by kernel_rfl) rfl #[.slice Ao60 t845.length co60, .int .i64 1] rfl (by (try simp only [List.map_toArray, List.map_cons, List.map_nil]); first | done | rfl | (simp only [List.length_drop, List.length_take]; rfl)) ?_; (with_reducible refine (laws_markIntS.calls kj36 (fun k_ => some k_ = (.slice Ao60 t845.length co60 : Value).ownBlock) (.slice Ao60 t845.length co60) t845 1 t858 t859 w _ ?side1 ?side2 A53.out).mono ?_); (case side1 => repeat (first | (with_reducible first | exact HB.out | apply below_alloc | apply pw_below_drewN | apply below_drew1 | refine below_set ?_ (Aside0.out (by assumption))) | exact HB.out)); (case side2 => exact Kd.R_tight rfl HO_7.out); rintro e w61 ⟨rfl, hy0, hb, hkp⟩; refine ⟨_, rfl, ?_⟩; have n0_ := Aside0.mk (Kd.R_mono (ok' := fun k_ => some k_ ≠ (.slice Ao60 t845.length co60 : Value).ownBlock) (Kd.R_keptB (HO_4.out) hkp (fun k_ hk_ hs_ => (hk_) hs_)) (fun k_ hk_ => hk_.1)); have n1_ := Aside0.mk (Kd.R_reok rfl hy0 (fun k_ e_ => HO_7.out.1 k_ e_)); have n2_ := Aside0.mk (Kd.R_mono (ok' := fun k_ => True) (Kd.R_keptB ((Kd.R_apart' HO_845001.out (Kd.R_typed HO_7.out) (by decide))) hkp (fun k_ hk_ hs_ => (hk_.2) hs_)) (fun k_ hk_ => trivial)); have n3_ := Aside0.mk (blk_kept (pk BK830.out) hkp (fun hs_ => (fun e_ => (Kd.R_ne HO_7.out BK830.out (by decide)) e_) hs_)); have n4_ := Aside0.mk (blk_kept (pk BK844.out) hkp (fun hs_ => (fun e_ => (Kd.R_ne HO_7.out BK844.out (by decide)) e_) hs_)); have n5_ := Aside0.mk (hb); clear HO_4; clear HO_7; clear HO_845001; clear BK830; clear BK844; clear HB; have HO_4 := n0_; have HO_7 := n1_; have HO_845001 := n2_; have BK830 := n3_; have BK844 := n4_; have HB := n5_; clear n0_ n1_ n2_ n3_ n4_ n5_; (try clear hb); (try clear hkp); (try clear hy0)) | ((with_reducible refine gate_callee (f := 21) rfl ?_); refine goesL_ (some 67) rfl rfl Try.func21 (by kernel_rfl) rfl #[.slice Ao60 t859.length co60, .int .i64 1] rfl (by (try simp only [List.map_toArray, List.map_cons, List.map_nil]); first | done | (rw [show t859.length = t845.length from (Kd.R_reads' HO_7.out).1.symm] <;> rfl) | rfl | (simp only [List.length_drop, List.length_take]; rfl)) ?_; (with_reducible refine (laws_heldIntS.calls kj36 _ _ t859 1 t860 _ ?side1 ?side2 A54.out).mono ?_); (case side1 => repeat (first | exact (Kd.R_reads' HO_7.out).2.2 | (with_reducible refine Kd.C_alloc ?_ _) | (with_reducible refine Kd.C_drewN ?_ _) | (with_reducible refine Kd.C_drew ?_))); (case side2 => rw [show t859.length = t845.length from (Kd.R_reads' HO_7.out).1.symm]; exact (Kd.R_reads' HO_7.out).2.1); rintro e w' ⟨rfl, ⟨nd, rfl⟩⟩; refine ⟨_, rfl, ?_⟩; have hnb62 := NB830_844.out; have hnc62 := NB844_830.out; have hcz63_0 : w61.cell? ⟨gb830, 0, none⟩ = some (.int .i64 a0_0) := (blk_cell BK830.out 0).trans rfl; have hcz63_1 : w61.cell? ⟨gb830, 1, none⟩ = some (.slice A0_1 l0_1.length c0_1) := (blk_cell BK830.out 1).trans rfl; have hfz63_0 := blk_frozen BK830.out 0; have hfz63_1 := blk_frozen BK830.out 1) | ((with_reducible refine gate_callee (f := 15) rfl ?_); refine goesL_ (some 75) rfl rfl Try.func15 (by kernel_rfl) rfl #[.agg #[.int .i64 a0_0, .slice A0_1 l0_1.length c0_1]] rfl (by (try simp only [List.map_toArray, List.map_cons, List.map_nil]); first | done | rfl | (simp only [List.length_drop, List.length_take]; rfl)) ?_; (with_reducible refine (laws_toPuzzle.calls kj36 a0_0 _ _ l0_1 t861 t862 _ ?side1 ?side2 A57.out).mono ?_); (case side1 => repeat (first | exact (Kd.C_below HR0_1.out (by repeat (first | (with_reducible first | exact HB.out | apply below_alloc | apply pw_below_drewN | apply below_drew1 | refine below_set ?_ (Aside0.out (by assumption))) | exact HB.out))) | (with_reducible refine Kd.C_alloc ?_ _) | (with_reducible refine Kd.C_drewN ?_ _) | (with_reducible refine Kd.C_drew ?_))); (case side2 => exact HC0_1.out); rintro e w64 ⟨v863, rfl, ho0, hb⟩; refine ⟨_, rfl, ?_⟩; have n0_ := Aside0.mk (Kd.R_below (Kd.pR HO_4.out) hb); have n1_ := Aside0.mk (Kd.R_below (Kd.pR HO_7.out) hb); have n2_ := Aside0.mk (Kd.R_elder' (Kd.pR HO_845001.out) (Kd.R_base ho0) hb); have n3_ := Aside0.mk (Kd.R_lower (Kd.R_new' ho0 (Kd.R_lt (Kd.pR HO_845001.out))) (below_size (by repeat (first | (with_reducible first | exact HB.out | apply below_alloc | apply pw_below_drewN | apply below_drew1 | refine below_set ?_ (Aside0.out (by assumption))) | exact HB.out)))); have n4_ := Aside0.mk (blk_below (pk BK830.out) hb); have n5_ := Aside0.mk (blk_below (pk BK844.out) hb); have n6_ := Aside0.mk (below_step (by repeat (first | (with_reducible first | exact HB.out | apply below_alloc | apply pw_below_drewN | apply below_drew1 | refine below_set ?_ (Aside0.out (by assumption))) | exact HB.out)) hb); clear HO_4; clear HO_7; clear HO_845001; clear BK830; clear BK844; clear HB; have HO_4 := n0_; have HO_7 := n1_; have HO_845001 := n2_; have HO864 := n3_; have BK830 := n4_; have BK844 := n5_; have HB := n6_; clear n0_ n1_ n2_ n3_ n4_ n5_ n6_; (try clear hb); (try clear hb2); (try clear hk); (try clear hi); (try clear ho0); obtain ⟨Ao65, co65, eo65⟩ := Kd.R_slice HO864.out; subst eo65) | ((with_reducible refine gate_callee (f := 40) rfl ?_); refine goesL_ (some 76) rfl rfl Try.func40 (by kernel_rfl) rfl #[.agg #[.int .i64 t861, .slice Ao65 t862.length co65]] rfl (by (try simp only [List.map_toArray, List.map_cons, List.map_nil]); first | done | rfl | (simp only [List.length_drop, List.length_take]; rfl)) ?_; (with_reducible refine (impl_FirstSolution.calls kj36 t861 _ _ t862 t865 t868 _ ?side1 ?side2 A58.out).mono ?_); (case side1 => repeat (first | exact (Kd.R_reads' HO864.out).2.2 | (with_reducible refine Kd.C_alloc ?_ _) | (with_reducible refine Kd.C_drewN ?_ _) | (with_reducible refine Kd.C_drew ?_))); (case side2 => exact (Kd.R_reads' HO864.out).2.1); rintro e w66 ⟨v866, rfl, ho0, hb⟩; refine ⟨_, rfl, ?_⟩; have n0_ := Aside0.mk (Kd.R_elder' (Kd.pR HO_4.out) (Kd.R_base ho0) hb); have n1_ := Aside0.mk (Kd.R_elder' (Kd.pR HO_7.out) (Kd.R_base ho0) hb); have n2_ := Aside0.mk (Kd.R_below (Kd.pR HO_845001.out) hb); have n3_ := Aside0.mk (Kd.R_below (Kd.pR HO864.out) hb); have n4_ := Aside0.mk (Kd.R_lower (Kd.R_new' (Kd.R_new' ho0 (Kd.R_lt (Kd.pR HO_4.out))) (Kd.R_lt (Kd.pR HO_7.out))) (below_size (by repeat (first | (with_reducible first | exact HB.out | apply below_alloc | apply pw_below_drewN | apply below_drew1 | refine below_set ?_ (Aside0.out (by assumption))) | exact HB.out)))); have n5_ := Aside0.mk (blk_below (pk BK830.out) hb); have n6_ := Aside0.mk (blk_below (pk BK844.out) hb); have n7_ := Aside0.mk (below_step (by repeat (first | (with_reducible first | exact HB.out | apply below_alloc | apply pw_below_drewN | apply below_drew1 | refine below_set ?_ (Aside0.out (by assumption))) | exact HB.out)) hb); clear HO_4; clear HO_7; clear HO_845001; clear HO864; clear BK830; clear BK844; clear HB; have HO_4 := n0_; have HO_7 := n1_; have HO_845001 := n2_; have HO864 := n3_; have HO867 := n4_; have BK830 := n5_; have BK844 := n6_; have HB := n7_; clear n0_ n1_ n2_ n3_ n4_ n5_ n6_ n7_; (try clear hb); (try clear hb2); (try clear hk); (try clear hi); (try clear ho0)))
           (try simp only [Act.put, List.setIfInBounds_toArray, List.set_cons_zero, List.set_cons_succ])
           go_cut [87] (fun v87 wc => ∃ (kq : Nat) (x87_58 : Bool), v87 = .bool x87_58 ∧ Aside0 (laws_FnExactFirstSolution.j2 kq t859 t858 x87_58 = some r) ∧ Aside0 (kq ≤ kj36) ∧ Aside0 (Kd.R (Kd.int .i64) 3 wc w.heap.size (fun _ => True) (.slice Ao60 t845.length co60) t859) ∧ Aside0 (Kd.R k45 45 wc w.heap.size (fun _ => True) (.slice Ao24 t856.length co24) t856) ∧ Aside0 (wc.heap[gb830]? = some (.cells #[.int .i64 a0_0, (.slice A0_1 l0_1.length c0_1)] 24 (0, 0))) ∧ Aside0 (wc.heap[gb844]? = some (.cells #[.int .i64 t840, (.slice Ao24 t856.length co24)] 31 (0, 0))) ∧ Aside0 (Below w.heap.size w wc))
           case first =>
            have H := HC59.out
            clear HC59
            replace H := Option.bind_eq_some_iff.mp H
            obtain ⟨t869, A670, H⟩ := H
            replace H : (if t869 = true then (laws_FnExactFirstSolution.j2 kj36 t859 t858 (t868 != t839)) else (laws_FnExactFirstSolution.j2 kj36 t859 t858 true)) = some r := H
            have A67 := Aside0.mk A670
            clear A670
            by_cases c68 : t869 = true
            ·
             subst c68
             have H1 : (laws_FnExactFirstSolution.j2 kj36 t859 t858 (t868 != t839)) = some r := by rw [if_pos rfl] at H; exact H
             clear H
             have H := H1
             clear H1
             have H' := Aside0.mk H
             clear H
             obtain ⟨Ao69, co69, eo69⟩ := Kd.R_slice HO867.out
             subst eo69
             obtain ⟨Ao70, co70, eo70⟩ := Kd.R_slice HO_4.out
             subst eo70
             go_wp2_with (first | ((with_reducible refine gate_callee (f := 17) rfl ?_); refine goesL_ (some 81) rfl rfl Try.func17 (by kernel_rfl) rfl #[.slice Ao69 t865.length co69, .slice Ao70 t836.length co70] rfl (by (try simp only [List.map_toArray, List.map_cons, List.map_nil]); first | done | rfl | (simp only [List.length_drop, List.length_take]; rfl)) ?_; (with_reducible refine (laws_eqIntS.calls kj36 _ _ t865 _ _ t836 true _ ?side1 ?side2 ?side3 ?side4 A67.out).mono ?_); (case side1 => repeat (first | exact (Kd.R_reads' HO867.out).2.2 | (with_reducible refine Kd.C_alloc ?_ _) | (with_reducible refine Kd.C_drewN ?_ _) | (with_reducible refine Kd.C_drew ?_))); (case side2 => exact (Kd.R_reads' HO867.out).2.1); (case side3 => repeat (first | exact (Kd.R_reads' HO_4.out).2.2 | (with_reducible refine Kd.C_alloc ?_ _) | (with_reducible refine Kd.C_drewN ?_ _) | (with_reducible refine Kd.C_drew ?_))); (case side4 => exact (Kd.R_reads' HO_4.out).2.1); rintro e w' ⟨rfl, ⟨nd, rfl⟩⟩; refine ⟨_, rfl, ?_⟩))
             go_meet
             case rel => exact ⟨_, ((t868 != t839)), (by first | rfl | (simp; done) | (simp [*]; done)), H', ⟨by have := HJ10.out; have := HJ36.out; first | omega | exact Nat.le_refl _⟩, ⟨by (try simp only [hl845001_36]); (with_reducible repeat (first | apply Kd.R_alloc | apply Kd.R_drewN | apply Kd.R_drew)); exact Kd.R_mono HO_7.out (fun _ hk => trivial)⟩, ⟨by (try simp only [hl845001_36]); (with_reducible repeat (first | apply Kd.R_alloc | apply Kd.R_drewN | apply Kd.R_drew)); exact Kd.R_mono HO_845001.out (fun _ hk => trivial)⟩, ⟨by (try simp only [hl845001_36]); (with_reducible repeat (first | refine blk_drewN ?_ _ | refine blk_drew ?_ | refine blk_alloc ?_ _)); exact BK830.out⟩, ⟨by (try simp only [hl845001_36]); (with_reducible repeat (first | refine blk_drewN ?_ _ | refine blk_drew ?_ | refine blk_alloc ?_ _)); exact BK844.out⟩, ⟨by repeat (first | (with_reducible first | exact HB.out | apply below_alloc | apply pw_below_drewN | apply below_drew1 | refine below_set ?_ (Aside0.out (by assumption))) | exact HB.out)⟩⟩
            ·
             replace c68 := Bool.eq_false_iff.mpr c68
             subst c68
             have H1 : (laws_FnExactFirstSolution.j2 kj36 t859 t858 true) = some r := by rw [if_neg (show ¬ (false = true) by decide)] at H; exact H
             clear H
             have H := H1
             clear H1
             have H' := Aside0.mk H
             clear H
             obtain ⟨Ao71, co71, eo71⟩ := Kd.R_slice HO867.out
             subst eo71
             obtain ⟨Ao72, co72, eo72⟩ := Kd.R_slice HO_4.out
             subst eo72
             go_wp2_with (first | ((with_reducible refine gate_callee (f := 17) rfl ?_); refine goesL_ (some 81) rfl rfl Try.func17 (by kernel_rfl) rfl #[.slice Ao71 t865.length co71, .slice Ao72 t836.length co72] rfl (by (try simp only [List.map_toArray, List.map_cons, List.map_nil]); first | done | rfl | (simp only [List.length_drop, List.length_take]; rfl)) ?_; (with_reducible refine (laws_eqIntS.calls kj36 _ _ t865 _ _ t836 false _ ?side1 ?side2 ?side3 ?side4 A67.out).mono ?_); (case side1 => repeat (first | exact (Kd.R_reads' HO867.out).2.2 | (with_reducible refine Kd.C_alloc ?_ _) | (with_reducible refine Kd.C_drewN ?_ _) | (with_reducible refine Kd.C_drew ?_))); (case side2 => exact (Kd.R_reads' HO867.out).2.1); (case side3 => repeat (first | exact (Kd.R_reads' HO_4.out).2.2 | (with_reducible refine Kd.C_alloc ?_ _) | (with_reducible refine Kd.C_drewN ?_ _) | (with_reducible refine Kd.C_drew ?_))); (case side4 => exact (Kd.R_reads' HO_4.out).2.1); rintro e w' ⟨rfl, ⟨nd, rfl⟩⟩; refine ⟨_, rfl, ?_⟩))
             go_meet
             case rel => exact ⟨_, (true), (by first | rfl | (simp; done) | (simp [*]; done)), H', ⟨by have := HJ10.out; have := HJ36.out; first | omega | exact Nat.le_refl _⟩, ⟨by (try simp only [hl845001_36]); (with_reducible repeat (first | apply Kd.R_alloc | apply Kd.R_drewN | apply Kd.R_drew)); exact Kd.R_mono HO_7.out (fun _ hk => trivial)⟩, ⟨by (try simp only [hl845001_36]); (with_reducible repeat (first | apply Kd.R_alloc | apply Kd.R_drewN | apply Kd.R_drew)); exact Kd.R_mono HO_845001.out (fun _ hk => trivial)⟩, ⟨by (try simp only [hl845001_36]); (with_reducible repeat (first | refine blk_drewN ?_ _ | refine blk_drew ?_ | refine blk_alloc ?_ _)); exact BK830.out⟩, ⟨by (try simp only [hl845001_36]); (with_reducible repeat (first | refine blk_drewN ?_ _ | refine blk_drew ?_ | refine blk_alloc ?_ _)); exact BK844.out⟩, ⟨by repeat (first | (with_reducible first | exact HB.out | apply below_alloc | apply pw_below_drewN | apply below_drew1 | refine below_set ?_ (Aside0.out (by assumption))) | exact HB.out)⟩⟩
           case rest =>
            clear HC59
            try clear c1
            try clear c2
            try clear p2
            try clear c3
            try clear c3b0
            try clear c4
            try clear c5
            try clear c6
            try clear c11
            try clear c13
            try clear c15
            try clear c17
            try clear c18
            try clear c19
            try clear c20
            try clear c21
            try clear c22
            try clear c27
            try clear c32
            try clear c35
            try clear c39
            try clear c40
            try clear c42
            try clear c45
            try clear c45b0
            try clear c47
            try clear c52
            try clear c55
            try clear c55b0
            try clear c56
            try clear c56b0
            try clear c56b1
            try clear c62
            try clear c68
            try clear hcz13_0
            try clear hcz13_1
            try clear hcz15_0
            try clear hcz15_1
            try clear hcz19_0
            try clear hcz19_1
            try clear hcz23_0
            try clear hcz23_1
            try clear hcz43_0
            try clear hcz43_1
            try clear hcz5_0
            try clear hcz5_1
            try clear hcz63_0
            try clear hcz63_1
            try clear hfz13_0
            try clear hfz13_1
            try clear hfz15_0
            try clear hfz15_1
            try clear hfz19_0
            try clear hfz19_1
            try clear hfz23_0
            try clear hfz23_1
            try clear hfz43_0
            try clear hfz43_1
            try clear hfz5_0
            try clear hfz5_1
            try clear hfz63_0
            try clear hfz63_1
            try clear p2
            obtain ⟨kq, x87_58, rfl, HA, HJ58, HO_7, HO_845001, BK830, BK844, HB⟩ := hcut
            have hl7_58 := (Kd.R_reads' HO_7.out).1
            rw [hl7_58] at HO_7
            (try simp only [hl7_58])
            (try simp only [hl7_58] at BK830)
            (try simp only [hl7_58] at BK844)
            (try simp only [hl7_58] at HO_845001)
            cases kq with
            | zero => exact absurd HA.out (by simp [laws_FnExactFirstSolution.j2])
            | succ kj58 =>
             have H := HA.out
             clear HA
             simp only [laws_FnExactFirstSolution.j2] at H
             by_cases c73 : x87_58 = true
             ·
              subst c73
              have H1 : (none) = some r := by rw [if_pos rfl] at H; exact H
              clear H
              have H := H1
              clear H1
              exact absurd H (by simp)
             ·
              replace c73 := Bool.eq_false_iff.mpr c73
              subst c73
              have H1 : ((laws_heldIntS.f kj58 t859 1).bind fun t870 => (if t870 < 0 then (none) else (if t870 = t858 then (some true) else (none)))) = some r := by rw [if_neg (show ¬ (false = true) by decide)] at H; exact H
              clear H
              have H := H1
              clear H1
              replace H := Option.bind_eq_some_iff.mp H
              obtain ⟨t870, A740, H⟩ := H
              replace H : (if t870 < 0 then (none) else (if t870 = t858 then (some true) else (none))) = some r := H
              have A74 := Aside0.mk A740
              clear A740
              by_cases c75 : t870 < 0
              ·
               rw [if_pos c75] at H
               exact absurd H (by simp)
              ·
               rw [if_neg c75] at H
               have c75b0 : decide (t870 < 0) = false := decide_eq_false c75
               clear c75
               by_cases c76 : t870 = t858
               ·
                rw [if_pos c76] at H
                have c76b0 : (t870 == t858) = true := beq_iff_eq.mpr c76
                have c76b1 : (t870 != t858) = false := bne_eq_false_iff_eq.mpr c76
                clear c76
                obtain rfl := Option.some.inj H
                go_wp2_with (first | ((with_reducible refine gate_callee (f := 21) rfl ?_); refine goesL_ (some 90) rfl rfl Try.func21 (by kernel_rfl) rfl #[.slice Ao60 t859.length co60, .int .i64 1] rfl (by (try simp only [List.map_toArray, List.map_cons, List.map_nil]); first | done | rfl | (simp only [List.length_drop, List.length_take]; rfl)) ?_; (with_reducible refine (laws_heldIntS.calls kj58 _ _ t859 1 t870 _ ?side1 ?side2 A74.out).mono ?_); (case side1 => repeat (first | exact (Kd.R_reads' HO_7.out).2.2 | (with_reducible refine Kd.C_alloc ?_ _) | (with_reducible refine Kd.C_drewN ?_ _) | (with_reducible refine Kd.C_drew ?_))); (case side2 => exact (Kd.R_reads' HO_7.out).2.1); rintro e w' ⟨rfl, ⟨nd, rfl⟩⟩; refine ⟨_, rfl, ?_⟩))
                go_ret
                exact ⟨by first | rfl | (simp [errW_none, errW_some] <;> rfl) | (simp [*, errW_none, errW_some] <;> rfl), by repeat (first | (with_reducible first | exact HB.out | apply below_alloc | apply pw_below_drewN | apply below_drew1 | refine below_set ?_ (Aside0.out (by assumption))) | exact HB.out)⟩
               ·
                rw [if_neg c76] at H
                exact absurd H (by simp)
          ·
           rw [if_neg c56] at H
           exact absurd H (by simp)
     ·
      replace c35 := Bool.eq_false_iff.mpr c35
      subst c35
      have H1 : (none) = some r := by rw [if_neg (show ¬ (false = true) by decide)] at H; exact H
      clear H
      have H := H1
      clear H1
      exact absurd H (by simp)

end Go.Proofs.Ytkgbahokhifojaa.QHid
