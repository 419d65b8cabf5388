/- Contracts of functions of the given program, walked: each call returns what its Lean function says. Conditions: those that stand at each theorem. (Written by a program of this session.) -/
import Derived.Test.YtkgbahokhifojaaQHidx0
import Derived.Test.YtkgbahokhifojaaQHidx2
import Derived.Test.YtkgbahokhifojaaQHidx8
import Derived.Test.YtkgbahokhifojaaQHidx13
import Derived.Test.YtkgbahokhifojaaQHidx14
import Derived.Test.YtkgbahokhifojaaQHidx15
import Derived.Test.YtkgbahokhifojaaQHidx16
namespace Go.Proofs.Ytkgbahokhifojaa.QHid
open Go.RowKit Go.Proofs.YtkgbahokhifojaaW.PrintWords Go.Proofs.YtkgbahokhifojaaW.PrintLast Go.Proofs.YtkgbahokhifojaaW.PrintMore
attribute [local go_sem] max2_int min2_int max_two min_two max_three min_three max_four min_four   -- for this text's walks alone
set_option linter.unusedVariables false
set_option linter.unusedSimpArgs false

/-! ### laws_FnExactMakePuzzle: function 6 -/
mutual
def laws_FnExactMakePuzzle.j0 : Nat → List Int → Int → Int → Bool → List Int → Bool → Bool → Int → List (S45) → Int → List (S45) → Option (Bool)
  | 0, _, _, _, _, _, _, _, _, _, _, _ => none
  | k + 1, x0, x1, x2, x8, x9, x11, x45, x494000, x494001, x503000, x503001 => if x45 = true then (none) else ((laws_toIntS.f k x0).bind fun t504 => ((laws_eqIntS.f k x9 t504).bind fun t507 => (if t507 = true then ((laws_markIntS.f k x9 1).bind fun bt508 => (if bt508.1 < 0 then (laws_FnExactMakePuzzle.j1 k x0 x1 x2 x8 true x494000 x494001 x503000 x503001) else ((laws_eqPuzzle.f k x503000 x503001 x494000 x494001).bind fun t510 => (if t510 = true then (laws_FnExactMakePuzzle.j1 k x0 x1 x2 x8 (x11 != x8) x494000 x494001 x503000 x503001) else (laws_FnExactMakePuzzle.j1 k x0 x1 x2 x8 true x494000 x494001 x503000 x503001))))) else (none))))
def laws_FnExactMakePuzzle.j1 : Nat → List Int → Int → Int → Bool → Bool → Int → List (S45) → Int → List (S45) → Option (Bool)
  | 0, _, _, _, _, _, _, _, _, _ => none
  | k + 1, x0, x1, x2, x8, x66, x494000, x494001, x503000, x503001 => if x66 = true then (none) else ((laws_markPuzzle.f k x503000 x503001 1).bind fun bt511 => ((laws_heldPuzzle.f k x503000 bt511.2 1).bind fun t513 => (if t513 < 0 then (none) else (if t513 = bt511.1 then ((laws_toIntS.f k x0).bind fun t514 => ((impl_MakePuzzle.f k t514 x1 x2).bind fun bt517 => ((laws_eqPuzzle.f k bt517.1 bt517.2.1 x494000 x494001).bind fun t523 => (if t523 = true then (laws_FnExactMakePuzzle.j2 k bt511.1 (bt517.2.2 != x8) x503000 bt511.2) else (laws_FnExactMakePuzzle.j2 k bt511.1 true x503000 bt511.2))))) else (none)))))
def laws_FnExactMakePuzzle.j2 : Nat → Int → Bool → Int → List (S45) → Option (Bool)
  | 0, _, _, _, _ => none
  | k + 1, x13, x94, x503000, x503001 => if x94 = true then (none) else ((laws_heldPuzzle.f k x503000 x503001 1).bind fun t524 => (if t524 < 0 then (none) else (if t524 = x13 then (some true) else (none))))
end
def laws_FnExactMakePuzzle.f (k : Nat) (l0 : List Int) (a1 : Int) (a2 : Int) : Option (Bool) := if (l0.length : Int) > 1048576 then (some true) else ((laws_toIntS.f k l0).bind fun t485 => ((spec_MakePuzzle.f k t485 a1 a2).bind fun bt488 => ((laws_toIntS.f k l0).bind fun t494 => ((impl_MakePuzzle.f k t494 a1 a2).bind fun bt497 => ((laws_eqPuzzle.f k bt497.1 bt497.2.1 bt488.1 bt488.2.1).bind fun t503 => (if t503 = true then (laws_FnExactMakePuzzle.j0 k l0 a1 a2 bt488.2.2 t494 bt497.2.2 (bt497.2.2 != bt488.2.2) bt488.1 bt488.2.1 bt497.1 bt497.2.1) else (laws_FnExactMakePuzzle.j0 k l0 a1 a2 bt488.2.2 t494 bt497.2.2 true bt488.1 bt488.2.1 bt497.1 bt497.2.1)))))))
theorem laws_FnExactMakePuzzle.mono_l : ∀ k, (∀ y0 y1 y2 y3 y4 y5 y6 y7 y8 y9 y10, LeO (laws_FnExactMakePuzzle.j0 k y0 y1 y2 y3 y4 y5 y6 y7 y8 y9 y10) (laws_FnExactMakePuzzle.j0 (k + 1) y0 y1 y2 y3 y4 y5 y6 y7 y8 y9 y10)) ∧ (∀ y0 y1 y2 y3 y4 y5 y6 y7 y8, LeO (laws_FnExactMakePuzzle.j1 k y0 y1 y2 y3 y4 y5 y6 y7 y8) (laws_FnExactMakePuzzle.j1 (k + 1) y0 y1 y2 y3 y4 y5 y6 y7 y8)) ∧ (∀ y0 y1 y2 y3, LeO (laws_FnExactMakePuzzle.j2 k y0 y1 y2 y3) (laws_FnExactMakePuzzle.j2 (k + 1) y0 y1 y2 y3))
  | 0 => ⟨fun _ _ _ _ _ _ _ _ _ _ _ r h => by simp [laws_FnExactMakePuzzle.j0] at h, fun _ _ _ _ _ _ _ _ _ r h => by simp [laws_FnExactMakePuzzle.j1] at h, fun _ _ _ _ r h => by simp [laws_FnExactMakePuzzle.j2] at h⟩
  | k + 1 => by
    obtain ⟨ih0, ih1, ih2⟩ := laws_FnExactMakePuzzle.mono_l k
    refine ⟨?_, ?_, ?_⟩
    · intro y0 y1 y2 y3 y4 y5 y6 y7 y8 y9 y10
      unfold laws_FnExactMakePuzzle.j0
      repeat' first
      | (with_reducible exact ih0 _ _ _ _ _ _ _ _ _ _ _)
      | (with_reducible exact ih1 _ _ _ _ _ _ _ _ _)
      | (with_reducible exact ih2 _ _ _ _)
      | (with_reducible exact impl_MakePuzzle.mono _ _ _ _)
      | (with_reducible exact laws_eqIntS.mono _ _ _)
      | (with_reducible exact laws_eqPuzzle.mono _ _ _ _ _)
      | (with_reducible exact laws_heldPuzzle.mono _ _ _ _)
      | (with_reducible exact laws_markIntS.mono _ _ _)
      | (with_reducible exact laws_markPuzzle.mono _ _ _ _)
      | (with_reducible exact laws_toIntS.mono _ _)
      | (with_reducible exact spec_MakePuzzle.mono _ _ _ _)
      | (with_reducible exact LeO.refl _)
      | (with_reducible exact LeO.none _)
      | (with_reducible refine LeO.ite ?_ ?_)
      | (with_reducible refine LeO.bind ?_ (fun _ => ?_))
      | exact ih0 _ _ _ _ _ _ _ _ _ _ _
      | exact ih1 _ _ _ _ _ _ _ _ _
      | exact ih2 _ _ _ _
      | exact impl_MakePuzzle.mono _ _ _ _
      | exact laws_eqIntS.mono _ _ _
      | exact laws_eqPuzzle.mono _ _ _ _ _
      | exact laws_heldPuzzle.mono _ _ _ _
      | exact laws_markIntS.mono _ _ _
      | exact laws_markPuzzle.mono _ _ _ _
      | exact laws_toIntS.mono _ _
      | exact spec_MakePuzzle.mono _ _ _ _
      | exact LeO.none _
      | refine LeO.ite ?_ ?_
      | refine LeO.bind ?_ (fun _ => ?_)
    · intro y0 y1 y2 y3 y4 y5 y6 y7 y8
      unfold laws_FnExactMakePuzzle.j1
      repeat' first
      | (with_reducible exact ih0 _ _ _ _ _ _ _ _ _ _ _)
      | (with_reducible exact ih1 _ _ _ _ _ _ _ _ _)
      | (with_reducible exact ih2 _ _ _ _)
      | (with_reducible exact impl_MakePuzzle.mono _ _ _ _)
      | (with_reducible exact laws_eqIntS.mono _ _ _)
      | (with_reducible exact laws_eqPuzzle.mono _ _ _ _ _)
      | (with_reducible exact laws_heldPuzzle.mono _ _ _ _)
      | (with_reducible exact laws_markIntS.mono _ _ _)
      | (with_reducible exact laws_markPuzzle.mono _ _ _ _)
      | (with_reducible exact laws_toIntS.mono _ _)
      | (with_reducible exact spec_MakePuzzle.mono _ _ _ _)
      | (with_reducible exact LeO.refl _)
      | (with_reducible exact LeO.none _)
      | (with_reducible refine LeO.ite ?_ ?_)
      | (with_reducible refine LeO.bind ?_ (fun _ => ?_))
      | exact ih0 _ _ _ _ _ _ _ _ _ _ _
      | exact ih1 _ _ _ _ _ _ _ _ _
      | exact ih2 _ _ _ _
      | exact impl_MakePuzzle.mono _ _ _ _
      | exact laws_eqIntS.mono _ _ _
      | exact laws_eqPuzzle.mono _ _ _ _ _
      | exact laws_heldPuzzle.mono _ _ _ _
      | exact laws_markIntS.mono _ _ _
      | exact laws_markPuzzle.mono _ _ _ _
      | exact laws_toIntS.mono _ _
      | exact spec_MakePuzzle.mono _ _ _ _
      | exact LeO.none _
      | refine LeO.ite ?_ ?_
      | refine LeO.bind ?_ (fun _ => ?_)
    · intro y0 y1 y2 y3
      unfold laws_FnExactMakePuzzle.j2
      repeat' first
      | (with_reducible exact ih0 _ _ _ _ _ _ _ _ _ _ _)
      | (with_reducible exact ih1 _ _ _ _ _ _ _ _ _)
      | (with_reducible exact ih2 _ _ _ _)
      | (with_reducible exact impl_MakePuzzle.mono _ _ _ _)
      | (with_reducible exact laws_eqIntS.mono _ _ _)
      | (with_reducible exact laws_eqPuzzle.mono _ _ _ _ _)
      | (with_reducible exact laws_heldPuzzle.mono _ _ _ _)
      | (with_reducible exact laws_markIntS.mono _ _ _)
      | (with_reducible exact laws_markPuzzle.mono _ _ _ _)
      | (with_reducible exact laws_toIntS.mono _ _)
      | (with_reducible exact spec_MakePuzzle.mono _ _ _ _)
      | (with_reducible exact LeO.refl _)
      | (with_reducible exact LeO.none _)
      | (with_reducible refine LeO.ite ?_ ?_)
      | (with_reducible refine LeO.bind ?_ (fun _ => ?_))
      | exact ih0 _ _ _ _ _ _ _ _ _ _ _
      | exact ih1 _ _ _ _ _ _ _ _ _
      | exact ih2 _ _ _ _
      | exact impl_MakePuzzle.mono _ _ _ _
      | exact laws_eqIntS.mono _ _ _
      | exact laws_eqPuzzle.mono _ _ _ _ _
      | exact laws_heldPuzzle.mono _ _ _ _
      | exact laws_markIntS.mono _ _ _
      | exact laws_markPuzzle.mono _ _ _ _
      | exact laws_toIntS.mono _ _
      | exact spec_MakePuzzle.mono _ _ _ _
      | exact LeO.none _
      | refine LeO.ite ?_ ?_
      | refine LeO.bind ?_ (fun _ => ?_)
theorem laws_FnExactMakePuzzle.mono : ∀ a0 a1 a2 k, LeO (laws_FnExactMakePuzzle.f k a0 a1 a2) (laws_FnExactMakePuzzle.f (k + 1) a0 a1 a2) := by
  intro a0 a1 a2 k
  obtain ⟨ih0, ih1, ih2⟩ := laws_FnExactMakePuzzle.mono_l k
  unfold laws_FnExactMakePuzzle.f
  repeat' first
      | (with_reducible exact ih0 _ _ _ _ _ _ _ _ _ _ _)
      | (with_reducible exact ih1 _ _ _ _ _ _ _ _ _)
      | (with_reducible exact ih2 _ _ _ _)
      | (with_reducible exact impl_MakePuzzle.mono _ _ _ _)
      | (with_reducible exact laws_eqIntS.mono _ _ _)
      | (with_reducible exact laws_eqPuzzle.mono _ _ _ _ _)
      | (with_reducible exact laws_heldPuzzle.mono _ _ _ _)
      | (with_reducible exact laws_markIntS.mono _ _ _)
      | (with_reducible exact laws_markPuzzle.mono _ _ _ _)
      | (with_reducible exact laws_toIntS.mono _ _)
      | (with_reducible exact spec_MakePuzzle.mono _ _ _ _)
      | (with_reducible exact LeO.refl _)
      | (with_reducible exact LeO.none _)
      | (with_reducible refine LeO.ite ?_ ?_)
      | (with_reducible refine LeO.bind ?_ (fun _ => ?_))
      | exact ih0 _ _ _ _ _ _ _ _ _ _ _
      | exact ih1 _ _ _ _ _ _ _ _ _
      | exact ih2 _ _ _ _
      | exact impl_MakePuzzle.mono _ _ _ _
      | exact laws_eqIntS.mono _ _ _
      | exact laws_eqPuzzle.mono _ _ _ _ _
      | exact laws_heldPuzzle.mono _ _ _ _
      | exact laws_markIntS.mono _ _ _
      | exact laws_markPuzzle.mono _ _ _ _
      | exact laws_toIntS.mono _ _
      | exact spec_MakePuzzle.mono _ _ _ _
      | exact LeO.none _
      | refine LeO.ite ?_ ?_
      | refine LeO.bind ?_ (fun _ => ?_)
set_option maxHeartbeats 8000000 in
set_option maxRecDepth 100000 in
theorem laws_FnExactMakePuzzle.calls (k : Nat) (A0 : Option Addr) (c0 : Nat) (l0 : List Int) (a1 : Int) (a2 : Int) (r : Bool) (w : World) (hr0 : Kd.C (Kd.int .i64) w A0 l0.length l0) (hc0 : l0.length ≤ c0) (h : laws_FnExactMakePuzzle.f k l0 a1 a2 = some r) :
  Calls Try.prog 6 #[.slice A0 l0.length c0, .int .i64 a1, .int .i64 a2] w fun e w' => e = .returned (.bool r) ∧ Below w.heap.size w w' := by
 have hu31 := Try.underlying31
 have HR0 := Aside0.mk hr0
 have HC0 := Aside0.mk hc0
 clear hr0 hc0
 have HB := Aside0.mk (Below.refl w.heap.size w)
 have H : (if (l0.length : Int) > 1048576 then (some true) else ((laws_toIntS.f k l0).bind fun t485 => ((spec_MakePuzzle.f k t485 a1 a2).bind fun bt488 => ((laws_toIntS.f k l0).bind fun t494 => ((impl_MakePuzzle.f k t494 a1 a2).bind fun bt497 => ((laws_eqPuzzle.f k bt497.1 bt497.2.1 bt488.1 bt488.2.1).bind fun t503 => (if t503 = true then (laws_FnExactMakePuzzle.j0 k l0 a1 a2 bt488.2.2 t494 bt497.2.2 (bt497.2.2 != bt488.2.2) bt488.1 bt488.2.1 bt497.1 bt497.2.1) else (laws_FnExactMakePuzzle.j0 k l0 a1 a2 bt488.2.2 t494 bt497.2.2 true bt488.1 bt488.2.1 bt497.1 bt497.2.1)))))))) = some r := h
 clear h
 by_cases c4 : (l0.length : Int) > 1048576
 ·
  rw [if_pos c4] at H
  have c4b0 : decide (1048576 < (l0.length : Int)) = true := decide_eq_true c4
  have c4b1 : decide (1048576 < l0.length) = true := decide_eq_true (by omega)
  clear c4
  obtain rfl := Option.some.inj H
  go_enter Try.func6, Try.ntmps6
  go_wp2
  go_ret
  exact ⟨by first | rfl | (simp [errW_none, errW_some] <;> rfl) | (simp [*, errW_none, errW_some] <;> rfl), by repeat (first | (with_reducible first | exact HB.out | apply below_alloc | apply pw_below_drewN | apply below_drew1) | exact HB.out)⟩
 ·
  rw [if_neg c4] at H
  have c4b0 : decide (1048576 < (l0.length : Int)) = false := decide_eq_false c4
  have c4b1 : decide (1048576 < l0.length) = false := decide_eq_false (by omega)
  clear c4
  replace H := Option.bind_eq_some_iff.mp H
  obtain ⟨t485, A50, H⟩ := H
  replace H : ((spec_MakePuzzle.f k t485 a1 a2).bind fun bt488 => ((laws_toIntS.f k l0).bind fun t494 => ((impl_MakePuzzle.f k t494 a1 a2).bind fun bt497 => ((laws_eqPuzzle.f k bt497.1 bt497.2.1 bt488.1 bt488.2.1).bind fun t503 => (if t503 = true then (laws_FnExactMakePuzzle.j0 k l0 a1 a2 bt488.2.2 t494 bt497.2.2 (bt497.2.2 != bt488.2.2) bt488.1 bt488.2.1 bt497.1 bt497.2.1) else (laws_FnExactMakePuzzle.j0 k l0 a1 a2 bt488.2.2 t494 bt497.2.2 true bt488.1 bt488.2.1 bt497.1 bt497.2.1)))))) = some r := H
  have A5 := Aside0.mk A50
  clear A50
  replace H := Option.bind_eq_some_iff.mp H
  obtain ⟨⟨t488, t489, t492⟩, A60, H⟩ := H
  replace H : ((laws_toIntS.f k l0).bind fun t494 => ((impl_MakePuzzle.f k t494 a1 a2).bind fun bt497 => ((laws_eqPuzzle.f k bt497.1 bt497.2.1 t488 t489).bind fun t503 => (if t503 = true then (laws_FnExactMakePuzzle.j0 k l0 a1 a2 t492 t494 bt497.2.2 (bt497.2.2 != t492) t488 t489 bt497.1 bt497.2.1) else (laws_FnExactMakePuzzle.j0 k l0 a1 a2 t492 t494 bt497.2.2 true t488 t489 bt497.1 bt497.2.1))))) = some r := H
  have A6 := Aside0.mk A60
  clear A60
  replace H := Option.bind_eq_some_iff.mp H
  obtain ⟨t494, A70, H⟩ := H
  replace H : ((impl_MakePuzzle.f k t494 a1 a2).bind fun bt497 => ((laws_eqPuzzle.f k bt497.1 bt497.2.1 t488 t489).bind fun t503 => (if t503 = true then (laws_FnExactMakePuzzle.j0 k l0 a1 a2 t492 t494 bt497.2.2 (bt497.2.2 != t492) t488 t489 bt497.1 bt497.2.1) else (laws_FnExactMakePuzzle.j0 k l0 a1 a2 t492 t494 bt497.2.2 true t488 t489 bt497.1 bt497.2.1)))) = some r := H
  have A7 := Aside0.mk A70
  clear A70
  replace H := Option.bind_eq_some_iff.mp H
  obtain ⟨⟨t497, t498, t501⟩, A80, H⟩ := H
  replace H : ((laws_eqPuzzle.f k t497 t498 t488 t489).bind fun t503 => (if t503 = true then (laws_FnExactMakePuzzle.j0 k l0 a1 a2 t492 t494 t501 (t501 != t492) t488 t489 t497 t498) else (laws_FnExactMakePuzzle.j0 k l0 a1 a2 t492 t494 t501 true t488 t489 t497 t498))) = some r := H
  have A8 := Aside0.mk A80
  clear A80
  have HC9 := Aside0.mk H
  clear H
  go_enter Try.func6, Try.ntmps6
  go_upto_region 6 with (first | ((with_reducible refine gate_callee (f := 26) rfl ?_); refine goesL_ (some 22) rfl rfl Try.func26 (by kernel_rfl) rfl #[.slice A0 l0.length c0] rfl (by (try simp only [List.map_toArray, List.map_cons, List.map_nil]); first | done | rfl | (simp only [List.length_drop, List.length_take]; rfl)) ?_; (with_reducible refine (laws_toIntS.calls k _ _ l0 t485 _ ?side1 ?side2 A5.out).mono ?_); (case side1 => repeat (first | exact HR0.out | (with_reducible refine Kd.C_alloc ?_ _) | (with_reducible refine Kd.C_drewN ?_ _) | (with_reducible refine Kd.C_drew ?_))); (case side2 => exact HC0.out); rintro e w10 ⟨v486, rfl, ho0, hb⟩; refine ⟨_, rfl, ?_⟩; have n0_ := Aside0.mk (Kd.R_lower ho0 (below_size (by repeat (first | (with_reducible first | exact HB.out | apply below_alloc | apply pw_below_drewN | apply below_drew1) | exact HB.out)))); have n1_ := Aside0.mk (below_step (by repeat (first | (with_reducible first | exact HB.out | apply below_alloc | apply pw_below_drewN | apply below_drew1) | exact HB.out)) hb); clear HB; have HO487 := n0_; have HB := n1_; clear n0_ n1_; (try clear hb); (try clear hb2); (try clear hk); (try clear hi); (try clear ho0); obtain ⟨Ao11, co11, eo11⟩ := Kd.R_slice HO487.out; subst eo11) | ((with_reducible refine gate_callee (f := 28) rfl ?_); refine goesL_ (some 25) rfl rfl Try.func28 (by kernel_rfl) rfl #[.slice Ao11 t485.length co11, .int .i64 a1, .int .i64 a2] rfl (by (try simp only [List.map_toArray, List.map_cons, List.map_nil]); first | done | rfl | (simp only [List.length_drop, List.length_take]; rfl)) ?_; (with_reducible refine (spec_MakePuzzle.calls k _ _ t485 a1 a2 t488 t489 t492 _ ?side1 ?side2 A6.out).mono ?_); (case side1 => repeat (first | exact (Kd.R_reads' HO487.out).2.2 | (with_reducible refine Kd.C_alloc ?_ _) | (with_reducible refine Kd.C_drewN ?_ _) | (with_reducible refine Kd.C_drew ?_))); (case side2 => exact (Kd.R_reads' HO487.out).2.1); rintro e w12 ⟨v490, rfl, ho0, hb⟩; refine ⟨_, rfl, ?_⟩; have n0_ := Aside0.mk (Kd.R_below (Kd.pR HO487.out) hb); have n1_ := Aside0.mk (Kd.R_lower ho0 (below_size (by repeat (first | (with_reducible first | exact HB.out | apply below_alloc | apply pw_below_drewN | apply below_drew1) | exact HB.out)))); have n2_ := Aside0.mk (below_step (by repeat (first | (with_reducible first | exact HB.out | apply below_alloc | apply pw_below_drewN | apply below_drew1) | exact HB.out)) hb); clear HO487; clear HB; have HO487 := n0_; have HO491 := n1_; have HB := n2_; clear n0_ n1_ n2_; (try clear hb); (try clear hb2); (try clear hk); (try clear hi); (try clear ho0)) | ((with_reducible refine gate_dst (N := 7) rfl ?_); refine box_event ?hg (N := 7) ?hd (cs := #[.int .i64 0, .slice none 0 0]) (t := 31) ?hr ?_; (case hd => rfl); (case hg => rfl); (case hr => first | (go_simp; done) | (go_simp; rfl)); intro gb493 hg w13 hbox hb; have n0_ := Aside0.mk (Kd.R_below (Kd.pR HO487.out) hb); have n1_ := Aside0.mk (Kd.R_below (Kd.pR HO491.out) hb); have n2_ := Aside0.mk (below_step (by repeat (first | (with_reducible first | exact HB.out | apply below_alloc | apply pw_below_drewN | apply below_drew1) | exact HB.out)) hb); have n3_ := Aside0.mk (hbox); have n4_ := Aside0.mk ((by rw [hg]; exact (below_size (by repeat (first | (with_reducible first | exact HB.out | apply below_alloc | apply pw_below_drewN | apply below_drew1) | exact HB.out))) : w.heap.size ≤ gb493)); have n5_ := n4_; clear HO487; clear HO491; clear HB; have HO487 := n0_; have HO491 := n1_; have HB := n2_; have BK493 := n3_; have GW493 := n4_; have GE493 := n5_; clear n0_ n1_ n2_ n3_ n4_ n5_; clear hb hbox hg; have hcz14_0 : w13.cell? ⟨gb493, 0, none⟩ = some (.int .i64 0) := (blk_cell BK493.out 0).trans rfl; have hcz14_1 : w13.cell? ⟨gb493, 1, none⟩ = some (.slice none 0 0) := (blk_cell BK493.out 1).trans rfl; have hfz14_0 := blk_frozen BK493.out 0; have hfz14_1 := blk_frozen BK493.out 1; obtain ⟨Ao15, co15, eo15⟩ := Kd.R_slice HO491.out; subst eo15) | ((with_reducible refine gate_callee (f := 26) rfl ?_); refine goesL_ (some 29) rfl rfl Try.func26 (by kernel_rfl) rfl #[.slice A0 l0.length c0] rfl (by (try simp only [List.map_toArray, List.map_cons, List.map_nil]); first | done | rfl | (simp only [List.length_drop, List.length_take]; rfl)) ?_; (with_reducible refine (laws_toIntS.calls k _ _ l0 t494 _ ?side1 ?side2 A7.out).mono ?_); (case side1 => exact Kd.C_below HR0.out (by repeat (first | (with_reducible first | exact HB.out | apply below_alloc | apply pw_below_drewN | apply below_drew1 | refine below_set ?_ GE493.out) | exact HB.out))); (case side2 => exact HC0.out); rintro e w16 ⟨v495, rfl, ho0, hb⟩; refine ⟨_, rfl, ?_⟩; have n0_ := Aside0.mk (Kd.R_elder' (by (with_reducible repeat (first | apply Kd.R_alloc | apply Kd.R_drewN | apply Kd.R_drew)); exact (Kd.R_mono (Kd.R_far (p := ⟨gb493, 1, none⟩) (Kd.R_far (p := ⟨gb493, 0, none⟩) (Kd.R_types HO487.out BK493.out (by decide)) (fun _ hk => hk.2) (.int .i64 t488)) (fun _ hk => hk.2) (.slice Ao15 t489.length co15)) (fun _ h_ => h_.1))) (Kd.R_base ho0) hb); have n1_ := Aside0.mk (Kd.R_below (by (with_reducible repeat (first | apply Kd.R_alloc | apply Kd.R_drewN | apply Kd.R_drew)); exact (Kd.R_mono (Kd.R_far (p := ⟨gb493, 1, none⟩) (Kd.R_far (p := ⟨gb493, 0, none⟩) (Kd.R_types HO491.out BK493.out (by decide)) (fun _ hk => hk.2) (.int .i64 t488)) (fun _ hk => hk.2) (.slice Ao15 t489.length co15)) (fun _ h_ => h_.1))) hb); have n2_ := Aside0.mk (Kd.R_lower (Kd.R_new' ho0 (Kd.R_lt (by (with_reducible repeat (first | apply Kd.R_alloc | apply Kd.R_drewN | apply Kd.R_drew)); exact (Kd.R_mono (Kd.R_far (p := ⟨gb493, 1, none⟩) (Kd.R_far (p := ⟨gb493, 0, none⟩) (Kd.R_types HO487.out BK493.out (by decide)) (fun _ hk => hk.2) (.int .i64 t488)) (fun _ hk => hk.2) (.slice Ao15 t489.length co15)) (fun _ h_ => h_.1))))) (below_size (by repeat (first | (with_reducible first | exact HB.out | apply below_alloc | apply pw_below_drewN | apply below_drew1 | refine below_set ?_ GE493.out) | exact HB.out)))); have n3_ := Aside0.mk (blk_below (g := gb493) (o := .cells #[.int .i64 t488, .slice Ao15 t489.length co15] 31 (0, 0)) (by (with_reducible repeat (first | refine blk_drewN ?_ _ | refine blk_drew ?_ | refine blk_alloc ?_ _)); refine blk_put (cs := #[.int .i64 t488, .slice none 0 0]) ?_ 1 _ rfl; (with_reducible repeat (first | refine blk_drewN ?_ _ | refine blk_drew ?_ | refine blk_alloc ?_ _)); refine blk_put (cs := #[.int .i64 0, .slice none 0 0]) ?_ 0 _ rfl; (with_reducible repeat (first | refine blk_drewN ?_ _ | refine blk_drew ?_ | refine blk_alloc ?_ _)); exact BK493.out) hb); have n4_ := Aside0.mk (below_step (by repeat (first | (with_reducible first | exact HB.out | apply below_alloc | apply pw_below_drewN | apply below_drew1 | refine below_set ?_ GE493.out) | exact HB.out)) hb); clear HO487; clear HO491; clear BK493; clear HB; have HO487 := n0_; have HO491 := n1_; have HO496 := n2_; have BK493 := n3_; have HB := n4_; clear n0_ n1_ n2_ n3_ n4_; (try clear hb); (try clear hb2); (try clear hk); (try clear hi); (try clear ho0); obtain ⟨Ao17, co17, eo17⟩ := Kd.R_slice HO496.out; subst eo17) | ((with_reducible refine gate_callee (f := 29) rfl ?_); refine goesL_ (some 34) rfl rfl Try.func29 (by kernel_rfl) rfl #[.slice Ao17 t494.length co17, .int .i64 a1, .int .i64 a2] rfl (by (try simp only [List.map_toArray, List.map_cons, List.map_nil]); first | done | rfl | (simp only [List.length_drop, List.length_take]; rfl)) ?_; (with_reducible refine (impl_MakePuzzle.calls k _ _ t494 a1 a2 t497 t498 t501 _ ?side1 ?side2 A8.out).mono ?_); (case side1 => repeat (first | exact (Kd.R_reads' HO496.out).2.2 | (with_reducible refine Kd.C_alloc ?_ _) | (with_reducible refine Kd.C_drewN ?_ _) | (with_reducible refine Kd.C_drew ?_))); (case side2 => exact (Kd.R_reads' HO496.out).2.1); rintro e w18 ⟨v499, rfl, ho0, hb⟩; refine ⟨_, rfl, ?_⟩; have n0_ := Aside0.mk (Kd.R_below (Kd.pR HO487.out) hb); have n1_ := Aside0.mk (Kd.R_elder' (Kd.pR HO491.out) (Kd.R_base ho0) hb); have n2_ := Aside0.mk (Kd.R_below (Kd.pR HO496.out) hb); have n3_ := Aside0.mk (Kd.R_lower (Kd.R_new' ho0 (Kd.R_lt (Kd.pR HO491.out))) (below_size (by repeat (first | (with_reducible first | exact HB.out | apply below_alloc | apply pw_below_drewN | apply below_drew1 | refine below_set ?_ GE493.out) | exact HB.out)))); have n4_ := Aside0.mk (blk_below (pk BK493.out) hb); have n5_ := Aside0.mk (below_step (by repeat (first | (with_reducible first | exact HB.out | apply below_alloc | apply pw_below_drewN | apply below_drew1 | refine below_set ?_ GE493.out) | exact HB.out)) hb); clear HO487; clear HO491; clear HO496; clear BK493; clear HB; have HO487 := n0_; have HO491 := n1_; have HO496 := n2_; have HO500 := n3_; have BK493 := n4_; have HB := n5_; clear n0_ n1_ n2_ n3_ n4_ n5_; (try clear hb); (try clear hb2); (try clear hk); (try clear hi); (try clear ho0)) | ((with_reducible refine gate_dst (N := 10) rfl ?_); refine box_event ?hg (N := 10) ?hd (cs := #[.int .i64 0, .slice none 0 0]) (t := 31) ?hr ?_; (case hd => rfl); (case hg => rfl); (case hr => first | (go_simp; done) | (go_simp; rfl)); intro gb502 hg w19 hbox hb; have n0_ := Aside0.mk (Kd.R_below (Kd.pR HO487.out) hb); have n1_ := Aside0.mk (Kd.R_below (Kd.pR HO491.out) hb); have n2_ := Aside0.mk (Kd.R_below (Kd.pR HO496.out) hb); have n3_ := Aside0.mk (Kd.R_below (Kd.pR HO500.out) hb); have n4_ := Aside0.mk (blk_below (pk BK493.out) hb); have n5_ := Aside0.mk (below_step (by repeat (first | (with_reducible first | exact HB.out | apply below_alloc | apply pw_below_drewN | apply below_drew1 | refine below_set ?_ GE493.out) | exact HB.out)) hb); have n6_ := Aside0.mk (hbox); have n7_ := Aside0.mk ((by rw [hg]; exact (below_size (by repeat (first | (with_reducible first | exact HB.out | apply below_alloc | apply pw_below_drewN | apply below_drew1 | refine below_set ?_ GE493.out) | exact HB.out))) : w.heap.size ≤ gb502)); have n8_ := n7_; have n9_ := Aside0.mk ((by rw [hg]; exact Nat.ne_of_lt (blk_lt (pk BK493.out)) : gb493 ≠ gb502)); have n10_ := Aside0.mk n9_.out.symm; clear HO487; clear HO491; clear HO496; clear HO500; clear BK493; clear HB; have HO487 := n0_; have HO491 := n1_; have HO496 := n2_; have HO500 := n3_; have BK493 := n4_; have HB := n5_; have BK502 := n6_; have GW502 := n7_; have GE502 := n8_; have NB493_502 := n9_; have NB502_493 := n10_; clear n0_ n1_ n2_ n3_ n4_ n5_ n6_ n7_ n8_ n9_ n10_; clear hb hbox hg; have hnb20 := NB502_493.out; have hnc20 := NB493_502.out; have hcz21_0 : w19.cell? ⟨gb502, 0, none⟩ = some (.int .i64 0) := (blk_cell BK502.out 0).trans rfl; have hcz21_1 : w19.cell? ⟨gb502, 1, none⟩ = some (.slice none 0 0) := (blk_cell BK502.out 1).trans rfl; have hfz21_0 := blk_frozen BK502.out 0; have hfz21_1 := blk_frozen BK502.out 1; obtain ⟨Ao22, co22, eo22⟩ := Kd.R_slice HO500.out; subst eo22))
  (try simp only [Act.put, List.setIfInBounds_toArray, List.set_cons_zero, List.set_cons_succ])
  go_cut [45] (fun v45 wc => ∃ (kq : Nat) (x45_8 : Bool), v45 = .bool x45_8 ∧ Aside0 (laws_FnExactMakePuzzle.j0 kq l0 a1 a2 t492 t494 t501 x45_8 t488 t489 t497 t498 = some r) ∧ Aside0 (kq ≤ k) ∧ Aside0 (Kd.R (Kd.int .i64) 3 wc w.heap.size (fun _ => True) (.slice Ao17 t494.length co17) t494) ∧ Aside0 (Kd.R k45 45 wc w.heap.size (fun k_ => some k_ ≠ ((.slice Ao22 t498.length co22) : Value).ownBlock) (.slice Ao15 t489.length co15) t489) ∧ Aside0 (Kd.R k45 45 wc w.heap.size (fun k_ => some k_ ≠ ((.slice Ao15 t489.length co15) : Value).ownBlock) (.slice Ao22 t498.length co22) t498) ∧ Aside0 (wc.heap[gb493]? = some (.cells #[.int .i64 t488, (.slice Ao15 t489.length co15)] 31 (0, 0))) ∧ Aside0 (wc.heap[gb502]? = some (.cells #[.int .i64 t497, (.slice Ao22 t498.length co22)] 31 (0, 0))) ∧ Aside0 (Below w.heap.size w wc))
  case first =>
   have H := HC9.out
   clear HC9
   replace H := Option.bind_eq_some_iff.mp H
   obtain ⟨t503, A230, H⟩ := H
   replace H : (if t503 = true then (laws_FnExactMakePuzzle.j0 k l0 a1 a2 t492 t494 t501 (t501 != t492) t488 t489 t497 t498) else (laws_FnExactMakePuzzle.j0 k l0 a1 a2 t492 t494 t501 true t488 t489 t497 t498)) = some r := H
   have A23 := Aside0.mk A230
   clear A230
   by_cases c24 : t503 = true
   ·
    subst c24
    have H1 : (laws_FnExactMakePuzzle.j0 k l0 a1 a2 t492 t494 t501 (t501 != t492) t488 t489 t497 t498) = some r := by rw [if_pos rfl] at H; exact H
    clear H
    have H := H1
    clear H1
    have H' := Aside0.mk H
    clear H
    have hnb25 := NB502_493.out
    have hnc25 := NB493_502.out
    have hcz26_0 : w19.cell? ⟨gb502, 0, none⟩ = some (.int .i64 0) := (blk_cell BK502.out 0).trans rfl
    have hcz26_1 : w19.cell? ⟨gb502, 1, none⟩ = some (.slice none 0 0) := (blk_cell BK502.out 1).trans rfl
    have hfz26_0 := blk_frozen BK502.out 0
    have hfz26_1 := blk_frozen BK502.out 1
    have hcz27_0 : w19.cell? ⟨gb493, 0, none⟩ = some (.int .i64 t488) := (blk_cell BK493.out 0).trans rfl
    have hcz27_1 : w19.cell? ⟨gb493, 1, none⟩ = some (.slice Ao15 t489.length co15) := (blk_cell BK493.out 1).trans rfl
    have hfz27_0 := blk_frozen BK493.out 0
    have hfz27_1 := blk_frozen BK493.out 1
    go_wp2_with (first | ((with_reducible refine gate_callee (f := 18) rfl ?_); refine goesL_ (some 39) rfl rfl Try.func18 (by kernel_rfl) rfl #[.agg #[.int .i64 t497, .slice Ao22 t498.length co22], .agg #[.int .i64 t488, .slice Ao15 t489.length co15]] rfl (by (try simp only [List.map_toArray, List.map_cons, List.map_nil]); first | done | rfl | (simp only [List.length_drop, List.length_take]; rfl)) ?_; (with_reducible refine (laws_eqPuzzle.calls k t497 _ _ t498 t488 _ _ t489 true _ ?side1 ?side2 ?side3 ?side4 A23.out).mono ?_); (case side1 => refine (Kd.R_reads' (e := 45) (base := w.heap.size) (ok := fun k_ => (True ∧ some k_ ≠ (.slice Ao15 t489.length co15 : Value).ownBlock)) (n := t498.length) (c := co22) ?_).2.2; exact (by (with_reducible repeat (first | apply Kd.R_alloc | apply Kd.R_drewN | apply Kd.R_drew)); exact (Kd.R_mono (Kd.R_far (p := ⟨gb502, 1, none⟩) (Kd.R_far (p := ⟨gb502, 0, none⟩) (Kd.R_types HO500.out BK502.out (by decide)) (fun _ hk => hk.2) (.int .i64 t497)) (fun _ hk => hk.2) (.slice Ao22 t498.length co22)) (fun _ h_ => h_.1)))); (case side2 => exact (Kd.R_reads' HO500.out).2.1); (case side3 => refine (Kd.R_reads' (e := 45) (base := w.heap.size) (ok := fun k_ => (True ∧ some k_ ≠ (.slice Ao22 t498.length co22 : Value).ownBlock)) (n := t489.length) (c := co15) ?_).2.2; exact (by (with_reducible repeat (first | apply Kd.R_alloc | apply Kd.R_drewN | apply Kd.R_drew)); exact (Kd.R_mono (Kd.R_far (p := ⟨gb502, 1, none⟩) (Kd.R_far (p := ⟨gb502, 0, none⟩) (Kd.R_types HO491.out BK502.out (by decide)) (fun _ hk => hk.2) (.int .i64 t497)) (fun _ hk => hk.2) (.slice Ao22 t498.length co22)) (fun _ h_ => h_.1)))); (case side4 => exact (Kd.R_reads' HO491.out).2.1); rintro e w28 ⟨rfl, hb⟩; refine ⟨_, rfl, ?_⟩; have n0_ := Aside0.mk (Kd.R_below (by (with_reducible repeat (first | apply Kd.R_alloc | apply Kd.R_drewN | apply Kd.R_drew)); exact (Kd.R_mono (Kd.R_far (p := ⟨gb502, 1, none⟩) (Kd.R_far (p := ⟨gb502, 0, none⟩) (Kd.R_types HO487.out BK502.out (by decide)) (fun _ hk => hk.2) (.int .i64 t497)) (fun _ hk => hk.2) (.slice Ao22 t498.length co22)) (fun _ h_ => h_.1))) hb); have n1_ := Aside0.mk (Kd.R_below (by (with_reducible repeat (first | apply Kd.R_alloc | apply Kd.R_drewN | apply Kd.R_drew)); exact (Kd.R_mono (Kd.R_far (p := ⟨gb502, 1, none⟩) (Kd.R_far (p := ⟨gb502, 0, none⟩) (Kd.R_types HO491.out BK502.out (by decide)) (fun _ hk => hk.2) (.int .i64 t497)) (fun _ hk => hk.2) (.slice Ao22 t498.length co22)) (fun _ h_ => h_.1))) hb); have n2_ := Aside0.mk (Kd.R_below (by (with_reducible repeat (first | apply Kd.R_alloc | apply Kd.R_drewN | apply Kd.R_drew)); exact (Kd.R_mono (Kd.R_far (p := ⟨gb502, 1, none⟩) (Kd.R_far (p := ⟨gb502, 0, none⟩) (Kd.R_types HO496.out BK502.out (by decide)) (fun _ hk => hk.2) (.int .i64 t497)) (fun _ hk => hk.2) (.slice Ao22 t498.length co22)) (fun _ h_ => h_.1))) hb); have n3_ := Aside0.mk (Kd.R_below (by (with_reducible repeat (first | apply Kd.R_alloc | apply Kd.R_drewN | apply Kd.R_drew)); exact (Kd.R_mono (Kd.R_far (p := ⟨gb502, 1, none⟩) (Kd.R_far (p := ⟨gb502, 0, none⟩) (Kd.R_types HO500.out BK502.out (by decide)) (fun _ hk => hk.2) (.int .i64 t497)) (fun _ hk => hk.2) (.slice Ao22 t498.length co22)) (fun _ h_ => h_.1))) hb); have n4_ := Aside0.mk (blk_below (g := gb493) (o := .cells #[.int .i64 t488, .slice Ao15 t489.length co15] 31 (0, 0)) (by (with_reducible repeat (first | refine blk_drewN ?_ _ | refine blk_drew ?_ | refine blk_alloc ?_ _)); refine blk_far ?_ NB493_502.out _; (with_reducible repeat (first | refine blk_drewN ?_ _ | refine blk_drew ?_ | refine blk_alloc ?_ _)); refine blk_far ?_ NB493_502.out _; (with_reducible repeat (first | refine blk_drewN ?_ _ | refine blk_drew ?_ | refine blk_alloc ?_ _)); exact BK493.out) hb); have n5_ := Aside0.mk (blk_below (g := gb502) (o := .cells #[.int .i64 t497, .slice Ao22 t498.length co22] 31 (0, 0)) (by (with_reducible repeat (first | refine blk_drewN ?_ _ | refine blk_drew ?_ | refine blk_alloc ?_ _)); refine blk_put (cs := #[.int .i64 t497, .slice none 0 0]) ?_ 1 _ rfl; (with_reducible repeat (first | refine blk_drewN ?_ _ | refine blk_drew ?_ | refine blk_alloc ?_ _)); refine blk_put (cs := #[.int .i64 0, .slice none 0 0]) ?_ 0 _ rfl; (with_reducible repeat (first | refine blk_drewN ?_ _ | refine blk_drew ?_ | refine blk_alloc ?_ _)); exact BK502.out) hb); have n6_ := Aside0.mk (below_step (by repeat (first | (with_reducible first | exact HB.out | apply below_alloc | apply pw_below_drewN | apply below_drew1 | refine below_set ?_ (Aside0.out (by assumption))) | exact HB.out)) hb); clear HO487; clear HO491; clear HO496; clear HO500; clear BK493; clear BK502; clear HB; have HO487 := n0_; have HO491 := n1_; have HO496 := n2_; have HO500 := n3_; have BK493 := n4_; have BK502 := n5_; have HB := n6_; clear n0_ n1_ n2_ n3_ n4_ n5_ n6_; (try clear hb); (try clear hb2); (try clear hk); (try clear hi)))
    go_meet
    case rel => exact ⟨_, ((t501 != t492)), (by first | rfl | (simp; done) | (simp [*]; done)), H', ⟨by first | omega | exact Nat.le_refl _⟩, ⟨by (with_reducible repeat (first | apply Kd.R_alloc | apply Kd.R_drewN | apply Kd.R_drew)); exact Kd.R_mono HO496.out (fun _ hk => trivial)⟩, ⟨by (with_reducible repeat (first | apply Kd.R_alloc | apply Kd.R_drewN | apply Kd.R_drew)); exact Kd.R_mono HO491.out (fun _ hk => hk.2)⟩, ⟨by (with_reducible repeat (first | apply Kd.R_alloc | apply Kd.R_drewN | apply Kd.R_drew)); exact Kd.R_mono HO500.out (fun _ hk => hk.2)⟩, ⟨by (with_reducible repeat (first | refine blk_drewN ?_ _ | refine blk_drew ?_ | refine blk_alloc ?_ _)); exact BK493.out⟩, ⟨by (with_reducible repeat (first | refine blk_drewN ?_ _ | refine blk_drew ?_ | refine blk_alloc ?_ _)); exact BK502.out⟩, ⟨by repeat (first | (with_reducible first | exact HB.out | apply below_alloc | apply pw_below_drewN | apply below_drew1 | refine below_set ?_ (Aside0.out (by assumption))) | exact HB.out)⟩⟩
   ·
    replace c24 := Bool.eq_false_iff.mpr c24
    subst c24
    have H1 : (laws_FnExactMakePuzzle.j0 k l0 a1 a2 t492 t494 t501 true t488 t489 t497 t498) = some r := by rw [if_neg (show ¬ (false = true) by decide)] at H; exact H
    clear H
    have H := H1
    clear H1
    have H' := Aside0.mk H
    clear H
    have hnb29 := NB502_493.out
    have hnc29 := NB493_502.out
    have hcz30_0 : w19.cell? ⟨gb502, 0, none⟩ = some (.int .i64 0) := (blk_cell BK502.out 0).trans rfl
    have hcz30_1 : w19.cell? ⟨gb502, 1, none⟩ = some (.slice none 0 0) := (blk_cell BK502.out 1).trans rfl
    have hfz30_0 := blk_frozen BK502.out 0
    have hfz30_1 := blk_frozen BK502.out 1
    have hcz31_0 : w19.cell? ⟨gb493, 0, none⟩ = some (.int .i64 t488) := (blk_cell BK493.out 0).trans rfl
    have hcz31_1 : w19.cell? ⟨gb493, 1, none⟩ = some (.slice Ao15 t489.length co15) := (blk_cell BK493.out 1).trans rfl
    have hfz31_0 := blk_frozen BK493.out 0
    have hfz31_1 := blk_frozen BK493.out 1
    go_wp2_with (first | ((with_reducible refine gate_callee (f := 18) rfl ?_); refine goesL_ (some 39) rfl rfl Try.func18 (by kernel_rfl) rfl #[.agg #[.int .i64 t497, .slice Ao22 t498.length co22], .agg #[.int .i64 t488, .slice Ao15 t489.length co15]] rfl (by (try simp only [List.map_toArray, List.map_cons, List.map_nil]); first | done | rfl | (simp only [List.length_drop, List.length_take]; rfl)) ?_; (with_reducible refine (laws_eqPuzzle.calls k t497 _ _ t498 t488 _ _ t489 false _ ?side1 ?side2 ?side3 ?side4 A23.out).mono ?_); (case side1 => refine (Kd.R_reads' (e := 45) (base := w.heap.size) (ok := fun k_ => (True ∧ some k_ ≠ (.slice Ao15 t489.length co15 : Value).ownBlock)) (n := t498.length) (c := co22) ?_).2.2; exact (by (with_reducible repeat (first | apply Kd.R_alloc | apply Kd.R_drewN | apply Kd.R_drew)); exact (Kd.R_mono (Kd.R_far (p := ⟨gb502, 1, none⟩) (Kd.R_far (p := ⟨gb502, 0, none⟩) (Kd.R_types HO500.out BK502.out (by decide)) (fun _ hk => hk.2) (.int .i64 t497)) (fun _ hk => hk.2) (.slice Ao22 t498.length co22)) (fun _ h_ => h_.1)))); (case side2 => exact (Kd.R_reads' HO500.out).2.1); (case side3 => refine (Kd.R_reads' (e := 45) (base := w.heap.size) (ok := fun k_ => (True ∧ some k_ ≠ (.slice Ao22 t498.length co22 : Value).ownBlock)) (n := t489.length) (c := co15) ?_).2.2; exact (by (with_reducible repeat (first | apply Kd.R_alloc | apply Kd.R_drewN | apply Kd.R_drew)); exact (Kd.R_mono (Kd.R_far (p := ⟨gb502, 1, none⟩) (Kd.R_far (p := ⟨gb502, 0, none⟩) (Kd.R_types HO491.out BK502.out (by decide)) (fun _ hk => hk.2) (.int .i64 t497)) (fun _ hk => hk.2) (.slice Ao22 t498.length co22)) (fun _ h_ => h_.1)))); (case side4 => exact (Kd.R_reads' HO491.out).2.1); rintro e w32 ⟨rfl, hb⟩; refine ⟨_, rfl, ?_⟩; have n0_ := Aside0.mk (Kd.R_below (by (with_reducible repeat (first | apply Kd.R_alloc | apply Kd.R_drewN | apply Kd.R_drew)); exact (Kd.R_mono (Kd.R_far (p := ⟨gb502, 1, none⟩) (Kd.R_far (p := ⟨gb502, 0, none⟩) (Kd.R_types HO487.out BK502.out (by decide)) (fun _ hk => hk.2) (.int .i64 t497)) (fun _ hk => hk.2) (.slice Ao22 t498.length co22)) (fun _ h_ => h_.1))) hb); have n1_ := Aside0.mk (Kd.R_below (by (with_reducible repeat (first | apply Kd.R_alloc | apply Kd.R_drewN | apply Kd.R_drew)); exact (Kd.R_mono (Kd.R_far (p := ⟨gb502, 1, none⟩) (Kd.R_far (p := ⟨gb502, 0, none⟩) (Kd.R_types HO491.out BK502.out (by decide)) (fun _ hk => hk.2) (.int .i64 t497)) (fun _ hk => hk.2) (.slice Ao22 t498.length co22)) (fun _ h_ => h_.1))) hb); have n2_ := Aside0.mk (Kd.R_below (by (with_reducible repeat (first | apply Kd.R_alloc | apply Kd.R_drewN | apply Kd.R_drew)); exact (Kd.R_mono (Kd.R_far (p := ⟨gb502, 1, none⟩) (Kd.R_far (p := ⟨gb502, 0, none⟩) (Kd.R_types HO496.out BK502.out (by decide)) (fun _ hk => hk.2) (.int .i64 t497)) (fun _ hk => hk.2) (.slice Ao22 t498.length co22)) (fun _ h_ => h_.1))) hb); have n3_ := Aside0.mk (Kd.R_below (by (with_reducible repeat (first | apply Kd.R_alloc | apply Kd.R_drewN | apply Kd.R_drew)); exact (Kd.R_mono (Kd.R_far (p := ⟨gb502, 1, none⟩) (Kd.R_far (p := ⟨gb502, 0, none⟩) (Kd.R_types HO500.out BK502.out (by decide)) (fun _ hk => hk.2) (.int .i64 t497)) (fun _ hk => hk.2) (.slice Ao22 t498.length co22)) (fun _ h_ => h_.1))) hb); have n4_ := Aside0.mk (blk_below (g := gb493) (o := .cells #[.int .i64 t488, .slice Ao15 t489.length co15] 31 (0, 0)) (by (with_reducible repeat (first | refine blk_drewN ?_ _ | refine blk_drew ?_ | refine blk_alloc ?_ _)); refine blk_far ?_ NB493_502.out _; (with_reducible repeat (first | refine blk_drewN ?_ _ | refine blk_drew ?_ | refine blk_alloc ?_ _)); refine blk_far ?_ NB493_502.out _; (with_reducible repeat (first | refine blk_drewN ?_ _ | refine blk_drew ?_ | refine blk_alloc ?_ _)); exact BK493.out) hb); have n5_ := Aside0.mk (blk_below (g := gb502) (o := .cells #[.int .i64 t497, .slice Ao22 t498.length co22] 31 (0, 0)) (by (with_reducible repeat (first | refine blk_drewN ?_ _ | refine blk_drew ?_ | refine blk_alloc ?_ _)); refine blk_put (cs := #[.int .i64 t497, .slice none 0 0]) ?_ 1 _ rfl; (with_reducible repeat (first | refine blk_drewN ?_ _ | refine blk_drew ?_ | refine blk_alloc ?_ _)); refine blk_put (cs := #[.int .i64 0, .slice none 0 0]) ?_ 0 _ rfl; (with_reducible repeat (first | refine blk_drewN ?_ _ | refine blk_drew ?_ | refine blk_alloc ?_ _)); exact BK502.out) hb); have n6_ := Aside0.mk (below_step (by repeat (first | (with_reducible first | exact HB.out | apply below_alloc | apply pw_below_drewN | apply below_drew1 | refine below_set ?_ (Aside0.out (by assumption))) | exact HB.out)) hb); clear HO487; clear HO491; clear HO496; clear HO500; clear BK493; clear BK502; clear HB; have HO487 := n0_; have HO491 := n1_; have HO496 := n2_; have HO500 := n3_; have BK493 := n4_; have BK502 := n5_; have HB := n6_; clear n0_ n1_ n2_ n3_ n4_ n5_ n6_; (try clear hb); (try clear hb2); (try clear hk); (try clear hi)))
    go_meet
    case rel => exact ⟨_, (true), (by first | rfl | (simp; done) | (simp [*]; done)), H', ⟨by first | omega | exact Nat.le_refl _⟩, ⟨by (with_reducible repeat (first | apply Kd.R_alloc | apply Kd.R_drewN | apply Kd.R_drew)); exact Kd.R_mono HO496.out (fun _ hk => trivial)⟩, ⟨by (with_reducible repeat (first | apply Kd.R_alloc | apply Kd.R_drewN | apply Kd.R_drew)); exact Kd.R_mono HO491.out (fun _ hk => hk.2)⟩, ⟨by (with_reducible repeat (first | apply Kd.R_alloc | apply Kd.R_drewN | apply Kd.R_drew)); exact Kd.R_mono HO500.out (fun _ hk => hk.2)⟩, ⟨by (with_reducible repeat (first | refine blk_drewN ?_ _ | refine blk_drew ?_ | refine blk_alloc ?_ _)); exact BK493.out⟩, ⟨by (with_reducible repeat (first | refine blk_drewN ?_ _ | refine blk_drew ?_ | refine blk_alloc ?_ _)); exact BK502.out⟩, ⟨by repeat (first | (with_reducible first | exact HB.out | apply below_alloc | apply pw_below_drewN | apply below_drew1 | refine below_set ?_ (Aside0.out (by assumption))) | exact HB.out)⟩⟩
  case rest =>
   clear HC9
   try clear c1
   try clear c2
   try clear p2
   try clear c4
   try clear c4b0
   try clear c4b1
   try clear c6
   try clear c18
   try clear c20
   try clear c24
   try clear c25
   try clear c26
   try clear c28
   try clear c29
   try clear hcz14_0
   try clear hcz14_1
   try clear hcz21_0
   try clear hcz21_1
   try clear hcz26_0
   try clear hcz26_1
   try clear hcz27_0
   try clear hcz27_1
   try clear hcz30_0
   try clear hcz30_1
   try clear hcz31_0
   try clear hcz31_1
   try clear hfz14_0
   try clear hfz14_1
   try clear hfz21_0
   try clear hfz21_1
   try clear hfz26_0
   try clear hfz26_1
   try clear hfz27_0
   try clear hfz27_1
   try clear hfz30_0
   try clear hfz30_1
   try clear hfz31_0
   try clear hfz31_1
   obtain ⟨kq, x45_8, rfl, HA, HJ8, HO_9, HO_494001, HO_503001, BK493, BK502, HB⟩ := hcut
   cases kq with
   | zero => exact absurd HA.out (by simp [laws_FnExactMakePuzzle.j0])
   | succ kj8 =>
    have H := HA.out
    clear HA
    simp only [laws_FnExactMakePuzzle.j0] at H
    by_cases c33 : x45_8 = true
    ·
     subst c33
     have H1 : (none) = some r := by rw [if_pos rfl] at H; exact H
     clear H
     have H := H1
     clear H1
     exact absurd H (by simp)
    ·
     replace c33 := Bool.eq_false_iff.mpr c33
     subst c33
     have H1 : ((laws_toIntS.f kj8 l0).bind fun t504 => ((laws_eqIntS.f kj8 t494 t504).bind fun t507 => (if t507 = true then ((laws_markIntS.f kj8 t494 1).bind fun bt508 => (if bt508.1 < 0 then (laws_FnExactMakePuzzle.j1 kj8 l0 a1 a2 t492 true t488 t489 t497 t498) else ((laws_eqPuzzle.f kj8 t497 t498 t488 t489).bind fun t510 => (if t510 = true then (laws_FnExactMakePuzzle.j1 kj8 l0 a1 a2 t492 (t501 != t492) t488 t489 t497 t498) else (laws_FnExactMakePuzzle.j1 kj8 l0 a1 a2 t492 true t488 t489 t497 t498))))) else (none)))) = some r := by rw [if_neg (show ¬ (false = true) by decide)] at H; exact H
     clear H
     have H := H1
     clear H1
     replace H := Option.bind_eq_some_iff.mp H
     obtain ⟨t504, A340, H⟩ := H
     replace H : ((laws_eqIntS.f kj8 t494 t504).bind fun t507 => (if t507 = true then ((laws_markIntS.f kj8 t494 1).bind fun bt508 => (if bt508.1 < 0 then (laws_FnExactMakePuzzle.j1 kj8 l0 a1 a2 t492 true t488 t489 t497 t498) else ((laws_eqPuzzle.f kj8 t497 t498 t488 t489).bind fun t510 => (if t510 = true then (laws_FnExactMakePuzzle.j1 kj8 l0 a1 a2 t492 (t501 != t492) t488 t489 t497 t498) else (laws_FnExactMakePuzzle.j1 kj8 l0 a1 a2 t492 true t488 t489 t497 t498))))) else (none))) = some r := H
     have A34 := Aside0.mk A340
     clear A340
     replace H := Option.bind_eq_some_iff.mp H
     obtain ⟨t507, A350, H⟩ := H
     replace H : (if t507 = true then ((laws_markIntS.f kj8 t494 1).bind fun bt508 => (if bt508.1 < 0 then (laws_FnExactMakePuzzle.j1 kj8 l0 a1 a2 t492 true t488 t489 t497 t498) else ((laws_eqPuzzle.f kj8 t497 t498 t488 t489).bind fun t510 => (if t510 = true then (laws_FnExactMakePuzzle.j1 kj8 l0 a1 a2 t492 (t501 != t492) t488 t489 t497 t498) else (laws_FnExactMakePuzzle.j1 kj8 l0 a1 a2 t492 true t488 t489 t497 t498))))) else (none)) = some r := H
     have A35 := Aside0.mk A350
     clear A350
     by_cases c36 : t507 = true
     ·
      subst c36
      have H1 : ((laws_markIntS.f kj8 t494 1).bind fun bt508 => (if bt508.1 < 0 then (laws_FnExactMakePuzzle.j1 kj8 l0 a1 a2 t492 true t488 t489 t497 t498) else ((laws_eqPuzzle.f kj8 t497 t498 t488 t489).bind fun t510 => (if t510 = true then (laws_FnExactMakePuzzle.j1 kj8 l0 a1 a2 t492 (t501 != t492) t488 t489 t497 t498) else (laws_FnExactMakePuzzle.j1 kj8 l0 a1 a2 t492 true t488 t489 t497 t498))))) = some r := by rw [if_pos rfl] at H; exact H
      clear H
      have H := H1
      clear H1
      replace H := Option.bind_eq_some_iff.mp H
      obtain ⟨⟨t508, t509⟩, A370, H⟩ := H
      replace H : (if t508 < 0 then (laws_FnExactMakePuzzle.j1 kj8 l0 a1 a2 t492 true t488 t489 t497 t498) else ((laws_eqPuzzle.f kj8 t497 t498 t488 t489).bind fun t510 => (if t510 = true then (laws_FnExactMakePuzzle.j1 kj8 l0 a1 a2 t492 (t501 != t492) t488 t489 t497 t498) else (laws_FnExactMakePuzzle.j1 kj8 l0 a1 a2 t492 true t488 t489 t497 t498)))) = some r := H
      have A37 := Aside0.mk A370
      clear A370
      have HC38 := Aside0.mk H
      clear H
      go_upto_region 12 with (first | ((with_reducible refine gate_callee (f := 26) rfl ?_); refine goesL_ (some 48) rfl rfl Try.func26 (by kernel_rfl) rfl #[.slice A0 l0.length c0] rfl (by (try simp only [List.map_toArray, List.map_cons, List.map_nil]); first | done | rfl | (simp only [List.length_drop, List.length_take]; rfl)) ?_; (with_reducible refine (laws_toIntS.calls kj8 _ _ l0 t504 _ ?side1 ?side2 A34.out).mono ?_); (case side1 => repeat (first | exact (Kd.C_below HR0.out HB.out) | (with_reducible refine Kd.C_alloc ?_ _) | (with_reducible refine Kd.C_drewN ?_ _) | (with_reducible refine Kd.C_drew ?_))); (case side2 => exact HC0.out); rintro e w39 ⟨v505, rfl, ho0, hb⟩; refine ⟨_, rfl, ?_⟩; have n0_ := Aside0.mk (Kd.R_elder' (Kd.pR HO_9.out) (Kd.R_base ho0) hb); have n1_ := Aside0.mk (Kd.R_below (Kd.pR HO_494001.out) hb); have n2_ := Aside0.mk (Kd.R_below (Kd.pR HO_503001.out) hb); have n3_ := Aside0.mk (Kd.R_lower (Kd.R_new' ho0 (Kd.R_lt (Kd.pR HO_9.out))) (below_size (by repeat (first | (with_reducible first | exact HB.out | apply below_alloc | apply pw_below_drewN | apply below_drew1 | refine below_set ?_ (Aside0.out (by assumption))) | exact HB.out)))); have n4_ := Aside0.mk (blk_below (pk BK493.out) hb); have n5_ := Aside0.mk (blk_below (pk BK502.out) hb); have n6_ := Aside0.mk (below_step (by repeat (first | (with_reducible first | exact HB.out | apply below_alloc | apply pw_below_drewN | apply below_drew1 | refine below_set ?_ (Aside0.out (by assumption))) | exact HB.out)) hb); clear HO_9; clear HO_494001; clear HO_503001; clear BK493; clear BK502; clear HB; have HO_9 := n0_; have HO_494001 := n1_; have HO_503001 := n2_; have HO506 := n3_; have BK493 := n4_; have BK502 := n5_; have HB := n6_; clear n0_ n1_ n2_ n3_ n4_ n5_ n6_; (try clear hb); (try clear hb2); (try clear hk); (try clear hi); (try clear ho0); obtain ⟨Ao40, co40, eo40⟩ := Kd.R_slice HO506.out; subst eo40) | ((with_reducible refine gate_callee (f := 17) rfl ?_); refine goesL_ (some 49) rfl rfl Try.func17 (by kernel_rfl) rfl #[.slice Ao17 t494.length co17, .slice Ao40 t504.length co40] rfl (by (try simp only [List.map_toArray, List.map_cons, List.map_nil]); first | done | rfl | (simp only [List.length_drop, List.length_take]; rfl)) ?_; (with_reducible refine (laws_eqIntS.calls kj8 _ _ t494 _ _ t504 true _ ?side1 ?side2 ?side3 ?side4 A35.out).mono ?_); (case side1 => repeat (first | exact (Kd.R_reads' HO_9.out).2.2 | (with_reducible refine Kd.C_alloc ?_ _) | (with_reducible refine Kd.C_drewN ?_ _) | (with_reducible refine Kd.C_drew ?_))); (case side2 => exact (Kd.R_reads' HO_9.out).2.1); (case side3 => repeat (first | exact (Kd.R_reads' HO506.out).2.2 | (with_reducible refine Kd.C_alloc ?_ _) | (with_reducible refine Kd.C_drewN ?_ _) | (with_reducible refine Kd.C_drew ?_))); (case side4 => exact (Kd.R_reads' HO506.out).2.1); rintro e w' ⟨rfl, ⟨nd, rfl⟩⟩; refine ⟨_, rfl, ?_⟩) | ((with_reducible refine gate_callee (f := 20) rfl ?_); refine goesL_ (some 53) rfl rfl Try.func20 (by kernel_rfl) rfl #[.slice Ao17 t494.length co17, .int .i64 1] rfl (by (try simp only [List.map_toArray, List.map_cons, List.map_nil]); first | done | rfl | (simp only [List.length_drop, List.length_take]; rfl)) ?_; (with_reducible refine (laws_markIntS.calls kj8 (fun k_ => some k_ = (.slice Ao17 t494.length co17 : Value).ownBlock) (.slice Ao17 t494.length co17) t494 1 t508 t509 w _ ?side1 ?side2 A37.out).mono ?_); (case side1 => repeat (first | (with_reducible first | exact HB.out | apply below_alloc | apply pw_below_drewN | apply below_drew1 | refine below_set ?_ (Aside0.out (by assumption))) | exact HB.out)); (case side2 => exact Kd.R_tight rfl HO_9.out); rintro e w41 ⟨rfl, hy0, hb, hkp⟩; refine ⟨_, rfl, ?_⟩; have n0_ := Aside0.mk (Kd.R_reok rfl hy0 (fun k_ e_ => HO_9.out.1 k_ e_)); have n1_ := Aside0.mk (Kd.R_mono (ok' := fun k_ => some k_ ≠ (.slice Ao22 t498.length co22 : Value).ownBlock) (Kd.R_keptB ((Kd.R_apart' HO_494001.out (Kd.R_typed HO_9.out) (by decide))) hkp (fun k_ hk_ hs_ => (hk_.2) hs_)) (fun k_ hk_ => hk_.1.1)); have n2_ := Aside0.mk (Kd.R_mono (ok' := fun k_ => some k_ ≠ (.slice Ao15 t489.length co15 : Value).ownBlock) (Kd.R_keptB ((Kd.R_apart' HO_503001.out (Kd.R_typed HO_9.out) (by decide))) hkp (fun k_ hk_ hs_ => (hk_.2) hs_)) (fun k_ hk_ => hk_.1.1)); have n3_ := Aside0.mk (blk_kept (pk BK493.out) hkp (fun hs_ => (fun e_ => (Kd.R_ne HO_9.out BK493.out (by decide)) e_) hs_)); have n4_ := Aside0.mk (blk_kept (pk BK502.out) hkp (fun hs_ => (fun e_ => (Kd.R_ne HO_9.out BK502.out (by decide)) e_) hs_)); have n5_ := Aside0.mk (Kd.R_mono (ok' := fun k_ => some k_ ≠ (.slice Ao17 t494.length co17 : Value).ownBlock) (Kd.R_keptB (HO506.out) hkp (fun k_ hk_ hs_ => (hk_.2) hs_)) (fun k_ hk_ => hk_.1.2)); have n6_ := Aside0.mk (hb); clear HO_9; clear HO_494001; clear HO_503001; clear BK493; clear BK502; clear HO506; clear HB; have HO_9 := n0_; have HO_494001 := n1_; have HO_503001 := n2_; have BK493 := n3_; have BK502 := n4_; have HO506 := n5_; have HB := n6_; clear n0_ n1_ n2_ n3_ n4_ n5_ n6_; (try clear hb); (try clear hkp); (try clear hy0)))
      (try simp only [Act.put, List.setIfInBounds_toArray, List.set_cons_zero, List.set_cons_succ])
      go_cut [66] (fun v66 wc => ∃ (kq : Nat) (x66_37 : Bool), v66 = .bool x66_37 ∧ Aside0 (laws_FnExactMakePuzzle.j1 kq l0 a1 a2 t492 x66_37 t488 t489 t497 t498 = some r) ∧ Aside0 (kq ≤ kj8) ∧ Aside0 (Kd.R k45 45 wc w.heap.size (fun k_ => some k_ ≠ ((.slice Ao22 t498.length co22) : Value).ownBlock) (.slice Ao15 t489.length co15) t489) ∧ Aside0 (Kd.R k45 45 wc w.heap.size (fun k_ => some k_ ≠ ((.slice Ao15 t489.length co15) : Value).ownBlock) (.slice Ao22 t498.length co22) t498) ∧ Aside0 (wc.heap[gb493]? = some (.cells #[.int .i64 t488, (.slice Ao15 t489.length co15)] 31 (0, 0))) ∧ Aside0 (wc.heap[gb502]? = some (.cells #[.int .i64 t497, (.slice Ao22 t498.length co22)] 31 (0, 0))) ∧ Aside0 (Below w.heap.size w wc))
      case first =>
       have H := HC38.out
       clear HC38
       by_cases c42 : t508 < 0
       ·
        rw [if_pos c42] at H
        have c42b0 : decide (t508 < 0) = true := decide_eq_true c42
        clear c42
        (first | rw [c42b0] | (simp only [i64_w, i32_w]; rw [c42b0]) | skip)
        have H' := Aside0.mk H
        clear H
        go_wp2
        go_meet
        case rel => exact ⟨_, (true), (by first | rfl | (simp; done) | (simp [*]; done)), H', ⟨by have := HJ8.out; first | omega | exact Nat.le_refl _⟩, ⟨by (with_reducible repeat (first | apply Kd.R_alloc | apply Kd.R_drewN | apply Kd.R_drew)); exact HO_494001.out⟩, ⟨by (with_reducible repeat (first | apply Kd.R_alloc | apply Kd.R_drewN | apply Kd.R_drew)); exact HO_503001.out⟩, ⟨by (with_reducible repeat (first | refine blk_drewN ?_ _ | refine blk_drew ?_ | refine blk_alloc ?_ _)); exact BK493.out⟩, ⟨by (with_reducible repeat (first | refine blk_drewN ?_ _ | refine blk_drew ?_ | refine blk_alloc ?_ _)); exact BK502.out⟩, ⟨by repeat (first | (with_reducible first | exact HB.out | apply below_alloc | apply pw_below_drewN | apply below_drew1 | refine below_set ?_ (Aside0.out (by assumption))) | exact HB.out)⟩⟩
       ·
        rw [if_neg c42] at H
        have c42b0 : decide (t508 < 0) = false := decide_eq_false c42
        clear c42
        (first | rw [c42b0] | (simp only [i64_w, i32_w]; rw [c42b0]) | skip)
        replace H := Option.bind_eq_some_iff.mp H
        obtain ⟨t510, A430, H⟩ := H
        replace H : (if t510 = true then (laws_FnExactMakePuzzle.j1 kj8 l0 a1 a2 t492 (t501 != t492) t488 t489 t497 t498) else (laws_FnExactMakePuzzle.j1 kj8 l0 a1 a2 t492 true t488 t489 t497 t498)) = some r := H
        have A43 := Aside0.mk A430
        clear A430
        by_cases c44 : t510 = true
        ·
         subst c44
         have H1 : (laws_FnExactMakePuzzle.j1 kj8 l0 a1 a2 t492 (t501 != t492) t488 t489 t497 t498) = some r := by rw [if_pos rfl] at H; exact H
         clear H
         have H := H1
         clear H1
         have H' := Aside0.mk H
         clear H
         have hnb45 := NB502_493.out
         have hnc45 := NB493_502.out
         have hcz46_0 : w41.cell? ⟨gb502, 0, none⟩ = some (.int .i64 t497) := (blk_cell BK502.out 0).trans rfl
         have hcz46_1 : w41.cell? ⟨gb502, 1, none⟩ = some (.slice Ao22 t498.length co22) := (blk_cell BK502.out 1).trans rfl
         have hfz46_0 := blk_frozen BK502.out 0
         have hfz46_1 := blk_frozen BK502.out 1
         have hcz47_0 : w41.cell? ⟨gb493, 0, none⟩ = some (.int .i64 t488) := (blk_cell BK493.out 0).trans rfl
         have hcz47_1 : w41.cell? ⟨gb493, 1, none⟩ = some (.slice Ao15 t489.length co15) := (blk_cell BK493.out 1).trans rfl
         have hfz47_0 := blk_frozen BK493.out 0
         have hfz47_1 := blk_frozen BK493.out 1
         go_wp2_with (first | (go_at_call 18; (with_reducible refine (laws_eqPuzzle.calls kj8 t497 _ _ t498 t488 _ _ t489 true _ ?side1 ?side2 ?side3 ?side4 A43.out).mono ?_); (case side1 => repeat (first | exact (Kd.R_reads' HO_503001.out).2.2 | (with_reducible refine Kd.C_alloc ?_ _) | (with_reducible refine Kd.C_drewN ?_ _) | (with_reducible refine Kd.C_drew ?_))); (case side2 => exact (Kd.R_reads' HO_503001.out).2.1); (case side3 => repeat (first | exact (Kd.R_reads' HO_494001.out).2.2 | (with_reducible refine Kd.C_alloc ?_ _) | (with_reducible refine Kd.C_drewN ?_ _) | (with_reducible refine Kd.C_drew ?_))); (case side4 => exact (Kd.R_reads' HO_494001.out).2.1); rintro e w48 ⟨rfl, hb⟩; have n0_ := Aside0.mk (Kd.R_below (Kd.pR HO_9.out) hb); have n1_ := Aside0.mk (Kd.R_below (Kd.pR HO_494001.out) hb); have n2_ := Aside0.mk (Kd.R_below (Kd.pR HO_503001.out) hb); have n3_ := Aside0.mk (Kd.R_below (Kd.pR HO506.out) hb); have n4_ := Aside0.mk (blk_below (pk BK493.out) hb); have n5_ := Aside0.mk (blk_below (pk BK502.out) hb); have n6_ := Aside0.mk (below_step (by repeat (first | (with_reducible first | exact HB.out | apply below_alloc | apply pw_below_drewN | apply below_drew1 | refine below_set ?_ (Aside0.out (by assumption))) | exact HB.out)) hb); clear HO_9; clear HO_494001; clear HO_503001; clear HO506; clear BK493; clear BK502; clear HB; have HO_9 := n0_; have HO_494001 := n1_; have HO_503001 := n2_; have HO506 := n3_; have BK493 := n4_; have BK502 := n5_; have HB := n6_; clear n0_ n1_ n2_ n3_ n4_ n5_ n6_; (try clear hb); (try clear hb2); (try clear hk); (try clear hi)))
         go_meet
         case rel => exact ⟨_, ((t501 != t492)), (by first | rfl | (simp; done) | (simp [*]; done)), H', ⟨by have := HJ8.out; first | omega | exact Nat.le_refl _⟩, ⟨by (with_reducible repeat (first | apply Kd.R_alloc | apply Kd.R_drewN | apply Kd.R_drew)); exact HO_494001.out⟩, ⟨by (with_reducible repeat (first | apply Kd.R_alloc | apply Kd.R_drewN | apply Kd.R_drew)); exact HO_503001.out⟩, ⟨by (with_reducible repeat (first | refine blk_drewN ?_ _ | refine blk_drew ?_ | refine blk_alloc ?_ _)); exact BK493.out⟩, ⟨by (with_reducible repeat (first | refine blk_drewN ?_ _ | refine blk_drew ?_ | refine blk_alloc ?_ _)); exact BK502.out⟩, ⟨by repeat (first | (with_reducible first | exact HB.out | apply below_alloc | apply pw_below_drewN | apply below_drew1 | refine below_set ?_ (Aside0.out (by assumption))) | exact HB.out)⟩⟩
        ·
         replace c44 := Bool.eq_false_iff.mpr c44
         subst c44
         have H1 : (laws_FnExactMakePuzzle.j1 kj8 l0 a1 a2 t492 true t488 t489 t497 t498) = some r := by rw [if_neg (show ¬ (false = true) by decide)] at H; exact H
         clear H
         have H := H1
         clear H1
         have H' := Aside0.mk H
         clear H
         have hnb49 := NB502_493.out
         have hnc49 := NB493_502.out
         have hcz50_0 : w41.cell? ⟨gb502, 0, none⟩ = some (.int .i64 t497) := (blk_cell BK502.out 0).trans rfl
         have hcz50_1 : w41.cell? ⟨gb502, 1, none⟩ = some (.slice Ao22 t498.length co22) := (blk_cell BK502.out 1).trans rfl
         have hfz50_0 := blk_frozen BK502.out 0
         have hfz50_1 := blk_frozen BK502.out 1
         have hcz51_0 : w41.cell? ⟨gb493, 0, none⟩ = some (.int .i64 t488) := (blk_cell BK493.out 0).trans rfl
         have hcz51_1 : w41.cell? ⟨gb493, 1, none⟩ = some (.slice Ao15 t489.length co15) := (blk_cell BK493.out 1).trans rfl
         have hfz51_0 := blk_frozen BK493.out 0
         have hfz51_1 := blk_frozen BK493.out 1
         go_wp2_with (first | (go_at_call 18; (with_reducible refine (laws_eqPuzzle.calls kj8 t497 _ _ t498 t488 _ _ t489 false _ ?side1 ?side2 ?side3 ?side4 A43.out).mono ?_); (case side1 => repeat (first | exact (Kd.R_reads' HO_503001.out).2.2 | (with_reducible refine Kd.C_alloc ?_ _) | (with_reducible refine Kd.C_drewN ?_ _) | (with_reducible refine Kd.C_drew ?_))); (case side2 => exact (Kd.R_reads' HO_503001.out).2.1); (case side3 => repeat (first | exact (Kd.R_reads' HO_494001.out).2.2 | (with_reducible refine Kd.C_alloc ?_ _) | (with_reducible refine Kd.C_drewN ?_ _) | (with_reducible refine Kd.C_drew ?_))); (case side4 => exact (Kd.R_reads' HO_494001.out).2.1); rintro e w52 ⟨rfl, hb⟩; have n0_ := Aside0.mk (Kd.R_below (Kd.pR HO_9.out) hb); have n1_ := Aside0.mk (Kd.R_below (Kd.pR HO_494001.out) hb); have n2_ := Aside0.mk (Kd.R_below (Kd.pR HO_503001.out) hb); have n3_ := Aside0.mk (Kd.R_below (Kd.pR HO506.out) hb); have n4_ := Aside0.mk (blk_below (pk BK493.out) hb); have n5_ := Aside0.mk (blk_below (pk BK502.out) hb); have n6_ := Aside0.mk (below_step (by repeat (first | (with_reducible first | exact HB.out | apply below_alloc | apply pw_below_drewN | apply below_drew1 | refine below_set ?_ (Aside0.out (by assumption))) | exact HB.out)) hb); clear HO_9; clear HO_494001; clear HO_503001; clear HO506; clear BK493; clear BK502; clear HB; have HO_9 := n0_; have HO_494001 := n1_; have HO_503001 := n2_; have HO506 := n3_; have BK493 := n4_; have BK502 := n5_; have HB := n6_; clear n0_ n1_ n2_ n3_ n4_ n5_ n6_; (try clear hb); (try clear hb2); (try clear hk); (try clear hi)))
         go_meet
         case rel => exact ⟨_, (true), (by first | rfl | (simp; done) | (simp [*]; done)), H', ⟨by have := HJ8.out; first | omega | exact Nat.le_refl _⟩, ⟨by (with_reducible repeat (first | apply Kd.R_alloc | apply Kd.R_drewN | apply Kd.R_drew)); exact HO_494001.out⟩, ⟨by (with_reducible repeat (first | apply Kd.R_alloc | apply Kd.R_drewN | apply Kd.R_drew)); exact HO_503001.out⟩, ⟨by (with_reducible repeat (first | refine blk_drewN ?_ _ | refine blk_drew ?_ | refine blk_alloc ?_ _)); exact BK493.out⟩, ⟨by (with_reducible repeat (first | refine blk_drewN ?_ _ | refine blk_drew ?_ | refine blk_alloc ?_ _)); exact BK502.out⟩, ⟨by repeat (first | (with_reducible first | exact HB.out | apply below_alloc | apply pw_below_drewN | apply below_drew1 | refine below_set ?_ (Aside0.out (by assumption))) | exact HB.out)⟩⟩
      case rest =>
       clear HC38
       try clear c1
       try clear c2
       try clear p2
       try clear c3
       try clear c4
       try clear c4b0
       try clear c4b1
       try clear c6
       try clear c17
       try clear c18
       try clear c20
       try clear c24
       try clear c25
       try clear c26
       try clear c28
       try clear c29
       try clear c33
       try clear c36
       try clear c42
       try clear c42b0
       try clear c44
       try clear c45
       try clear c49
       try clear hcz14_0
       try clear hcz14_1
       try clear hcz21_0
       try clear hcz21_1
       try clear hcz26_0
       try clear hcz26_1
       try clear hcz27_0
       try clear hcz27_1
       try clear hcz30_0
       try clear hcz30_1
       try clear hcz31_0
       try clear hcz31_1
       try clear hcz46_0
       try clear hcz46_1
       try clear hcz47_0
       try clear hcz47_1
       try clear hcz50_0
       try clear hcz50_1
       try clear hcz51_0
       try clear hcz51_1
       try clear hfz14_0
       try clear hfz14_1
       try clear hfz21_0
       try clear hfz21_1
       try clear hfz26_0
       try clear hfz26_1
       try clear hfz27_0
       try clear hfz27_1
       try clear hfz30_0
       try clear hfz30_1
       try clear hfz31_0
       try clear hfz31_1
       try clear hfz46_0
       try clear hfz46_1
       try clear hfz47_0
       try clear hfz47_1
       try clear hfz50_0
       try clear hfz50_1
       try clear hfz51_0
       try clear hfz51_1
       try clear p2
       obtain ⟨kq, x66_37, rfl, HA, HJ37, HO_494001, HO_503001, BK493, BK502, HB⟩ := hcut
       cases kq with
       | zero => exact absurd HA.out (by simp [laws_FnExactMakePuzzle.j1])
       | succ kj37 =>
        have H := HA.out
        clear HA
        simp only [laws_FnExactMakePuzzle.j1] at H
        by_cases c53 : x66_37 = true
        ·
         subst c53
         have H1 : (none) = some r := by rw [if_pos rfl] at H; exact H
         clear H
         have H := H1
         clear H1
         exact absurd H (by simp)
        ·
         replace c53 := Bool.eq_false_iff.mpr c53
         subst c53
         have H1 : ((laws_markPuzzle.f kj37 t497 t498 1).bind fun bt511 => ((laws_heldPuzzle.f kj37 t497 bt511.2 1).bind fun t513 => (if t513 < 0 then (none) else (if t513 = bt511.1 then ((laws_toIntS.f kj37 l0).bind fun t514 => ((impl_MakePuzzle.f kj37 t514 a1 a2).bind fun bt517 => ((laws_eqPuzzle.f kj37 bt517.1 bt517.2.1 t488 t489).bind fun t523 => (if t523 = true then (laws_FnExactMakePuzzle.j2 kj37 bt511.1 (bt517.2.2 != t492) t497 bt511.2) else (laws_FnExactMakePuzzle.j2 kj37 bt511.1 true t497 bt511.2))))) else (none))))) = some r := by rw [if_neg (show ¬ (false = true) by decide)] at H; exact H
         clear H
         have H := H1
         clear H1
         replace H := Option.bind_eq_some_iff.mp H
         obtain ⟨⟨t511, t512⟩, A540, H⟩ := H
         replace H : ((laws_heldPuzzle.f kj37 t497 t512 1).bind fun t513 => (if t513 < 0 then (none) else (if t513 = t511 then ((laws_toIntS.f kj37 l0).bind fun t514 => ((impl_MakePuzzle.f kj37 t514 a1 a2).bind fun bt517 => ((laws_eqPuzzle.f kj37 bt517.1 bt517.2.1 t488 t489).bind fun t523 => (if t523 = true then (laws_FnExactMakePuzzle.j2 kj37 t511 (bt517.2.2 != t492) t497 t512) else (laws_FnExactMakePuzzle.j2 kj37 t511 true t497 t512))))) else (none)))) = some r := H
         have A54 := Aside0.mk A540
         clear A540
         replace H := Option.bind_eq_some_iff.mp H
         obtain ⟨t513, A550, H⟩ := H
         replace H : (if t513 < 0 then (none) else (if t513 = t511 then ((laws_toIntS.f kj37 l0).bind fun t514 => ((impl_MakePuzzle.f kj37 t514 a1 a2).bind fun bt517 => ((laws_eqPuzzle.f kj37 bt517.1 bt517.2.1 t488 t489).bind fun t523 => (if t523 = true then (laws_FnExactMakePuzzle.j2 kj37 t511 (bt517.2.2 != t492) t497 t512) else (laws_FnExactMakePuzzle.j2 kj37 t511 true t497 t512))))) else (none))) = some r := H
         have A55 := Aside0.mk A550
         clear A550
         by_cases c56 : t513 < 0
         ·
          rw [if_pos c56] at H
          exact absurd H (by simp)
         ·
          rw [if_neg c56] at H
          have c56b0 : decide (t513 < 0) = false := decide_eq_false c56
          clear c56
          by_cases c57 : t513 = t511
          ·
           rw [if_pos c57] at H
           have c57b0 : (t513 == t511) = true := beq_iff_eq.mpr c57
           have c57b1 : (t513 != t511) = false := bne_eq_false_iff_eq.mpr c57
           clear c57
           replace H := Option.bind_eq_some_iff.mp H
           obtain ⟨t514, A580, H⟩ := H
           replace H : ((impl_MakePuzzle.f kj37 t514 a1 a2).bind fun bt517 => ((laws_eqPuzzle.f kj37 bt517.1 bt517.2.1 t488 t489).bind fun t523 => (if t523 = true then (laws_FnExactMakePuzzle.j2 kj37 t511 (bt517.2.2 != t492) t497 t512) else (laws_FnExactMakePuzzle.j2 kj37 t511 true t497 t512)))) = some r := H
           have A58 := Aside0.mk A580
           clear A580
           replace H := Option.bind_eq_some_iff.mp H
           obtain ⟨⟨t517, t518, t521⟩, A590, H⟩ := H
           replace H : ((laws_eqPuzzle.f kj37 t517 t518 t488 t489).bind fun t523 => (if t523 = true then (laws_FnExactMakePuzzle.j2 kj37 t511 (t521 != t492) t497 t512) else (laws_FnExactMakePuzzle.j2 kj37 t511 true t497 t512))) = some r := H
           have A59 := Aside0.mk A590
           clear A590
           have HC60 := Aside0.mk H
           clear H
           have hnb61 := NB502_493.out
           have hnc61 := NB493_502.out
           have hcz62_0 : wc.cell? ⟨gb502, 0, none⟩ = some (.int .i64 t497) := (blk_cell BK502.out 0).trans rfl
           have hcz62_1 : wc.cell? ⟨gb502, 1, none⟩ = some (.slice Ao22 t498.length co22) := (blk_cell BK502.out 1).trans rfl
           have hfz62_0 := blk_frozen BK502.out 0
           have hfz62_1 := blk_frozen BK502.out 1
           go_upto_region 23 with (first | ((with_reducible refine gate_callee (f := 19) rfl ?_); refine goesL_ (some 69) rfl rfl Try.func19 (by kernel_rfl) rfl #[.agg #[.int .i64 t497, .slice Ao22 t498.length co22], .int .i64 1] rfl (by (try simp only [List.map_toArray, List.map_cons, List.map_nil]); first | done | rfl | (simp only [List.length_drop, List.length_take]; rfl)) ?_; (with_reducible refine (laws_markPuzzle.calls kj37 t497 (fun k_ => some k_ = (.slice Ao22 t498.length co22 : Value).ownBlock) (.slice Ao22 t498.length co22) t498 1 t511 t512 w _ ?side1 ?side2 A54.out).mono ?_); (case side1 => repeat (first | (with_reducible first | exact HB.out | apply below_alloc | apply pw_below_drewN | apply below_drew1 | refine below_set ?_ (Aside0.out (by assumption))) | exact HB.out)); (case side2 => exact Kd.R_tight rfl HO_503001.out); rintro e w63 ⟨rfl, hy0, hb, hkp⟩; refine ⟨_, rfl, ?_⟩; have n0_ := Aside0.mk (Kd.R_mono (ok' := fun k_ => some k_ ≠ (.slice Ao22 t498.length co22 : Value).ownBlock) (Kd.R_keptB (HO_494001.out) hkp (fun k_ hk_ hs_ => (hk_) hs_)) (fun k_ hk_ => hk_.1)); have n1_ := Aside0.mk (Kd.R_reok rfl hy0 (fun k_ e_ => HO_503001.out.1 k_ e_)); have n2_ := Aside0.mk (blk_kept (pk BK493.out) hkp (fun hs_ => (fun e_ => (Kd.R_ne HO_503001.out BK493.out (by decide)) e_) hs_)); have n3_ := Aside0.mk (blk_kept (pk BK502.out) hkp (fun hs_ => (fun e_ => (Kd.R_ne HO_503001.out BK502.out (by decide)) e_) hs_)); have n4_ := Aside0.mk (hb); clear HO_494001; clear HO_503001; clear BK493; clear BK502; clear HB; have HO_494001 := n0_; have HO_503001 := n1_; have BK493 := n2_; have BK502 := n3_; have HB := n4_; clear n0_ n1_ n2_ n3_ n4_; (try clear hb); (try clear hkp); (try clear hy0); have hcz64_0 : w63.cell? ⟨gb502, 0, none⟩ = some (.int .i64 t497) := (blk_cell BK502.out 0).trans rfl; have hcz64_1 : w63.cell? ⟨gb502, 1, none⟩ = some (.slice Ao22 t498.length co22) := (blk_cell BK502.out 1).trans rfl; have hfz64_0 := blk_frozen BK502.out 0; have hfz64_1 := blk_frozen BK502.out 1) | ((with_reducible refine gate_callee (f := 30) rfl ?_); refine goesL_ (some 72) rfl rfl Try.func30 (by kernel_rfl) rfl #[.agg #[.int .i64 t497, .slice Ao22 t512.length co22], .int .i64 1] rfl (by (try simp only [List.map_toArray, List.map_cons, List.map_nil]); first | done | (rw [show t512.length = t498.length from (Kd.R_reads' HO_503001.out).1.symm] <;> rfl) | rfl | (simp only [List.length_drop, List.length_take]; rfl)) ?_; (with_reducible refine (laws_heldPuzzle.calls kj37 t497 _ _ t512 1 t513 _ ?side1 ?side2 A55.out).mono ?_); (case side1 => repeat (first | exact (Kd.R_reads' HO_503001.out).2.2 | (with_reducible refine Kd.C_alloc ?_ _) | (with_reducible refine Kd.C_drewN ?_ _) | (with_reducible refine Kd.C_drew ?_))); (case side2 => rw [show t512.length = t498.length from (Kd.R_reads' HO_503001.out).1.symm]; exact (Kd.R_reads' HO_503001.out).2.1); rintro e w65 ⟨rfl, hb⟩; refine ⟨_, rfl, ?_⟩; have n0_ := Aside0.mk (Kd.R_below (Kd.pR HO_494001.out) hb); have n1_ := Aside0.mk (Kd.R_below (Kd.pR HO_503001.out) hb); have n2_ := Aside0.mk (blk_below (pk BK493.out) hb); have n3_ := Aside0.mk (blk_below (pk BK502.out) hb); have n4_ := Aside0.mk (below_step (by repeat (first | (with_reducible first | exact HB.out | apply below_alloc | apply pw_below_drewN | apply below_drew1 | refine below_set ?_ (Aside0.out (by assumption))) | exact HB.out)) hb); clear HO_494001; clear HO_503001; clear BK493; clear BK502; clear HB; have HO_494001 := n0_; have HO_503001 := n1_; have BK493 := n2_; have BK502 := n3_; have HB := n4_; clear n0_ n1_ n2_ n3_ n4_; (try clear hb); (try clear hb2); (try clear hk); (try clear hi)) | ((with_reducible refine gate_callee (f := 26) rfl ?_); refine goesL_ (some 80) rfl rfl Try.func26 (by kernel_rfl) rfl #[.slice A0 l0.length c0] rfl (by (try simp only [List.map_toArray, List.map_cons, List.map_nil]); first | done | rfl | (simp only [List.length_drop, List.length_take]; rfl)) ?_; (with_reducible refine (laws_toIntS.calls kj37 _ _ l0 t514 _ ?side1 ?side2 A58.out).mono ?_); (case side1 => repeat (first | exact (Kd.C_below HR0.out HB.out) | (with_reducible refine Kd.C_alloc ?_ _) | (with_reducible refine Kd.C_drewN ?_ _) | (with_reducible refine Kd.C_drew ?_))); (case side2 => exact HC0.out); rintro e w66 ⟨v515, rfl, ho0, hb⟩; refine ⟨_, rfl, ?_⟩; have n0_ := Aside0.mk (Kd.R_below (Kd.pR HO_494001.out) hb); have n1_ := Aside0.mk (Kd.R_below (Kd.pR HO_503001.out) hb); have n2_ := Aside0.mk (Kd.R_lower ho0 (below_size (by repeat (first | (with_reducible first | exact HB.out | apply below_alloc | apply pw_below_drewN | apply below_drew1 | refine below_set ?_ (Aside0.out (by assumption))) | exact HB.out)))); have n3_ := Aside0.mk (blk_below (pk BK493.out) hb); have n4_ := Aside0.mk (blk_below (pk BK502.out) hb); have n5_ := Aside0.mk (below_step (by repeat (first | (with_reducible first | exact HB.out | apply below_alloc | apply pw_below_drewN | apply below_drew1 | refine below_set ?_ (Aside0.out (by assumption))) | exact HB.out)) hb); clear HO_494001; clear HO_503001; clear BK493; clear BK502; clear HB; have HO_494001 := n0_; have HO_503001 := n1_; have HO516 := n2_; have BK493 := n3_; have BK502 := n4_; have HB := n5_; clear n0_ n1_ n2_ n3_ n4_ n5_; (try clear hb); (try clear hb2); (try clear hk); (try clear hi); (try clear ho0); obtain ⟨Ao67, co67, eo67⟩ := Kd.R_slice HO516.out; subst eo67) | ((with_reducible refine gate_callee (f := 29) rfl ?_); refine goesL_ (some 83) rfl rfl Try.func29 (by kernel_rfl) rfl #[.slice Ao67 t514.length co67, .int .i64 a1, .int .i64 a2] rfl (by (try simp only [List.map_toArray, List.map_cons, List.map_nil]); first | done | rfl | (simp only [List.length_drop, List.length_take]; rfl)) ?_; (with_reducible refine (impl_MakePuzzle.calls kj37 _ _ t514 a1 a2 t517 t518 t521 _ ?side1 ?side2 A59.out).mono ?_); (case side1 => repeat (first | exact (Kd.R_reads' HO516.out).2.2 | (with_reducible refine Kd.C_alloc ?_ _) | (with_reducible refine Kd.C_drewN ?_ _) | (with_reducible refine Kd.C_drew ?_))); (case side2 => exact (Kd.R_reads' HO516.out).2.1); rintro e w68 ⟨v519, rfl, ho0, hb⟩; refine ⟨_, rfl, ?_⟩; have n0_ := Aside0.mk (Kd.R_elder' (Kd.pR HO_494001.out) (Kd.R_base ho0) hb); have n1_ := Aside0.mk (Kd.R_elder' (Kd.pR HO_503001.out) (Kd.R_base ho0) hb); have n2_ := Aside0.mk (Kd.R_below (Kd.pR HO516.out) hb); have n3_ := Aside0.mk (Kd.R_lower (Kd.R_new' (Kd.R_new' ho0 (Kd.R_lt (Kd.pR HO_494001.out))) (Kd.R_lt (Kd.pR HO_503001.out))) (below_size (by repeat (first | (with_reducible first | exact HB.out | apply below_alloc | apply pw_below_drewN | apply below_drew1 | refine below_set ?_ (Aside0.out (by assumption))) | exact HB.out)))); have n4_ := Aside0.mk (blk_below (pk BK493.out) hb); have n5_ := Aside0.mk (blk_below (pk BK502.out) hb); have n6_ := Aside0.mk (below_step (by repeat (first | (with_reducible first | exact HB.out | apply below_alloc | apply pw_below_drewN | apply below_drew1 | refine below_set ?_ (Aside0.out (by assumption))) | exact HB.out)) hb); clear HO_494001; clear HO_503001; clear HO516; clear BK493; clear BK502; clear HB; have HO_494001 := n0_; have HO_503001 := n1_; have HO516 := n2_; have HO520 := n3_; have BK493 := n4_; have BK502 := n5_; have HB := n6_; clear n0_ n1_ n2_ n3_ n4_ n5_ n6_; (try clear hb); (try clear hb2); (try clear hk); (try clear hi); (try clear ho0)) | ((with_reducible refine gate_dst (N := 15) rfl ?_); refine box_event ?hg (N := 15) ?hd (cs := #[.int .i64 0, .slice none 0 0]) (t := 31) ?hr ?_; (case hd => rfl); (case hg => rfl); (case hr => first | (go_simp; done) | (go_simp; rfl)); intro gb522 hg w69 hbox hb; have n0_ := Aside0.mk (Kd.R_below (Kd.pR HO_494001.out) hb); have n1_ := Aside0.mk (Kd.R_below (Kd.pR HO_503001.out) hb); have n2_ := Aside0.mk (Kd.R_below (Kd.pR HO516.out) hb); have n3_ := Aside0.mk (Kd.R_below (Kd.pR HO520.out) hb); have n4_ := Aside0.mk (blk_below (pk BK493.out) hb); have n5_ := Aside0.mk (blk_below (pk BK502.out) hb); have n6_ := Aside0.mk (below_step (by repeat (first | (with_reducible first | exact HB.out | apply below_alloc | apply pw_below_drewN | apply below_drew1 | refine below_set ?_ (Aside0.out (by assumption))) | exact HB.out)) hb); have n7_ := Aside0.mk (hbox); have n8_ := Aside0.mk ((by rw [hg]; exact (below_size (by repeat (first | (with_reducible first | exact HB.out | apply below_alloc | apply pw_below_drewN | apply below_drew1 | refine below_set ?_ (Aside0.out (by assumption))) | exact HB.out))) : w.heap.size ≤ gb522)); have n9_ := n8_; have n10_ := Aside0.mk ((by rw [hg]; exact Nat.ne_of_lt (blk_lt (pk BK493.out)) : gb493 ≠ gb522)); have n11_ := Aside0.mk n10_.out.symm; have n12_ := Aside0.mk ((by rw [hg]; exact Nat.ne_of_lt (blk_lt (pk BK502.out)) : gb502 ≠ gb522)); have n13_ := Aside0.mk n12_.out.symm; clear HO_494001; clear HO_503001; clear HO516; clear HO520; clear BK493; clear BK502; clear HB; have HO_494001 := n0_; have HO_503001 := n1_; have HO516 := n2_; have HO520 := n3_; have BK493 := n4_; have BK502 := n5_; have HB := n6_; have BK522 := n7_; have GW522 := n8_; have GE522 := n9_; have NB493_522 := n10_; have NB522_493 := n11_; have NB502_522 := n12_; have NB522_502 := n13_; clear n0_ n1_ n2_ n3_ n4_ n5_ n6_ n7_ n8_ n9_ n10_ n11_ n12_ n13_; clear hb hbox hg; have hnb70 := NB522_493.out; have hnc70 := NB493_522.out; have hnb71 := NB522_502.out; have hnc71 := NB502_522.out; have hcz72_0 : w69.cell? ⟨gb522, 0, none⟩ = some (.int .i64 0) := (blk_cell BK522.out 0).trans rfl; have hcz72_1 : w69.cell? ⟨gb522, 1, none⟩ = some (.slice none 0 0) := (blk_cell BK522.out 1).trans rfl; have hfz72_0 := blk_frozen BK522.out 0; have hfz72_1 := blk_frozen BK522.out 1; obtain ⟨Ao73, co73, eo73⟩ := Kd.R_slice HO520.out; subst eo73))
           (try simp only [Act.put, List.setIfInBounds_toArray, List.set_cons_zero, List.set_cons_succ])
           go_cut [94] (fun v94 wc => ∃ (kq : Nat) (x94_59 : Bool), v94 = .bool x94_59 ∧ Aside0 (laws_FnExactMakePuzzle.j2 kq t511 x94_59 t497 t512 = some r) ∧ Aside0 (kq ≤ kj37) ∧ Aside0 (Kd.R k45 45 wc w.heap.size (fun k_ => some k_ ≠ ((.slice Ao22 t498.length co22) : Value).ownBlock ∧ some k_ ≠ ((.slice Ao73 t518.length co73) : Value).ownBlock) (.slice Ao15 t489.length co15) t489) ∧ Aside0 (Kd.R k45 45 wc w.heap.size (fun k_ => some k_ ≠ ((.slice Ao15 t489.length co15) : Value).ownBlock ∧ some k_ ≠ ((.slice Ao73 t518.length co73) : Value).ownBlock) (.slice Ao22 t498.length co22) t512) ∧ Aside0 (Kd.R k45 45 wc w.heap.size (fun k_ => some k_ ≠ ((.slice Ao15 t489.length co15) : Value).ownBlock ∧ some k_ ≠ ((.slice Ao22 t498.length co22) : Value).ownBlock) (.slice Ao73 t518.length co73) t518) ∧ Aside0 (wc.heap[gb493]? = some (.cells #[.int .i64 t488, (.slice Ao15 t489.length co15)] 31 (0, 0))) ∧ Aside0 (wc.heap[gb502]? = some (.cells #[.int .i64 t497, (.slice Ao22 t498.length co22)] 31 (0, 0))) ∧ Aside0 (wc.heap[gb522]? = some (.cells #[.int .i64 t517, (.slice Ao73 t518.length co73)] 31 (0, 0))) ∧ Aside0 (Below w.heap.size w wc))
           case first =>
            have H := HC60.out
            clear HC60
            replace H := Option.bind_eq_some_iff.mp H
            obtain ⟨t523, A740, H⟩ := H
            replace H : (if t523 = true then (laws_FnExactMakePuzzle.j2 kj37 t511 (t521 != t492) t497 t512) else (laws_FnExactMakePuzzle.j2 kj37 t511 true t497 t512)) = some r := H
            have A74 := Aside0.mk A740
            clear A740
            by_cases c75 : t523 = true
            ·
             subst c75
             have H1 : (laws_FnExactMakePuzzle.j2 kj37 t511 (t521 != t492) t497 t512) = some r := by rw [if_pos rfl] at H; exact H
             clear H
             have H := H1
             clear H1
             have H' := Aside0.mk H
             clear H
             have hnb76 := NB522_493.out
             have hnc76 := NB493_522.out
             have hnb77 := NB522_502.out
             have hnc77 := NB502_522.out
             have hcz78_0 : w69.cell? ⟨gb522, 0, none⟩ = some (.int .i64 0) := (blk_cell BK522.out 0).trans rfl
             have hcz78_1 : w69.cell? ⟨gb522, 1, none⟩ = some (.slice none 0 0) := (blk_cell BK522.out 1).trans rfl
             have hfz78_0 := blk_frozen BK522.out 0
             have hfz78_1 := blk_frozen BK522.out 1
             have hnb79 := NB493_502.out
             have hnc79 := NB502_493.out
             have hcz80_0 : w69.cell? ⟨gb493, 0, none⟩ = some (.int .i64 t488) := (blk_cell BK493.out 0).trans rfl
             have hcz80_1 : w69.cell? ⟨gb493, 1, none⟩ = some (.slice Ao15 t489.length co15) := (blk_cell BK493.out 1).trans rfl
             have hfz80_0 := blk_frozen BK493.out 0
             have hfz80_1 := blk_frozen BK493.out 1
             go_wp2_with (first | ((with_reducible refine gate_callee (f := 18) rfl ?_); refine goesL_ (some 88) rfl rfl Try.func18 (by kernel_rfl) rfl #[.agg #[.int .i64 t517, .slice Ao73 t518.length co73], .agg #[.int .i64 t488, .slice Ao15 t489.length co15]] rfl (by (try simp only [List.map_toArray, List.map_cons, List.map_nil]); first | done | rfl | (simp only [List.length_drop, List.length_take]; rfl)) ?_; (with_reducible refine (laws_eqPuzzle.calls kj37 t517 _ _ t518 t488 _ _ t489 true _ ?side1 ?side2 ?side3 ?side4 A74.out).mono ?_); (case side1 => refine (Kd.R_reads' (e := 45) (base := w.heap.size) (ok := fun k_ => ((True ∧ some k_ ≠ (.slice Ao15 t489.length co15 : Value).ownBlock) ∧ some k_ ≠ (.slice Ao22 t498.length co22 : Value).ownBlock)) (n := t518.length) (c := co73) ?_).2.2; exact (by (with_reducible repeat (first | apply Kd.R_alloc | apply Kd.R_drewN | apply Kd.R_drew)); exact (Kd.R_mono (Kd.R_far (p := ⟨gb522, 1, none⟩) (Kd.R_far (p := ⟨gb522, 0, none⟩) (Kd.R_types HO520.out BK522.out (by decide)) (fun _ hk => hk.2) (.int .i64 t517)) (fun _ hk => hk.2) (.slice Ao73 t518.length co73)) (fun _ h_ => h_.1)))); (case side2 => exact (Kd.R_reads' HO520.out).2.1); (case side3 => refine (Kd.R_reads' (e := 45) (base := w.heap.size) (ok := fun k_ => (some k_ ≠ (.slice Ao22 t498.length co22 : Value).ownBlock ∧ some k_ ≠ (.slice Ao73 t518.length co73 : Value).ownBlock)) (n := t489.length) (c := co15) ?_).2.2; exact (by (with_reducible repeat (first | apply Kd.R_alloc | apply Kd.R_drewN | apply Kd.R_drew)); exact (Kd.R_mono (Kd.R_far (p := ⟨gb522, 1, none⟩) (Kd.R_far (p := ⟨gb522, 0, none⟩) (Kd.R_types HO_494001.out BK522.out (by decide)) (fun _ hk => hk.2) (.int .i64 t517)) (fun _ hk => hk.2) (.slice Ao73 t518.length co73)) (fun _ h_ => h_.1)))); (case side4 => exact (Kd.R_reads' HO_494001.out).2.1); rintro e w81 ⟨rfl, hb⟩; refine ⟨_, rfl, ?_⟩; have n0_ := Aside0.mk (Kd.R_below (by (with_reducible repeat (first | apply Kd.R_alloc | apply Kd.R_drewN | apply Kd.R_drew)); exact (Kd.R_mono (Kd.R_far (p := ⟨gb522, 1, none⟩) (Kd.R_far (p := ⟨gb522, 0, none⟩) (Kd.R_types HO_494001.out BK522.out (by decide)) (fun _ hk => hk.2) (.int .i64 t517)) (fun _ hk => hk.2) (.slice Ao73 t518.length co73)) (fun _ h_ => h_.1))) hb); have n1_ := Aside0.mk (Kd.R_below (by (with_reducible repeat (first | apply Kd.R_alloc | apply Kd.R_drewN | apply Kd.R_drew)); exact (Kd.R_mono (Kd.R_far (p := ⟨gb522, 1, none⟩) (Kd.R_far (p := ⟨gb522, 0, none⟩) (Kd.R_types HO_503001.out BK522.out (by decide)) (fun _ hk => hk.2) (.int .i64 t517)) (fun _ hk => hk.2) (.slice Ao73 t518.length co73)) (fun _ h_ => h_.1))) hb); have n2_ := Aside0.mk (Kd.R_below (by (with_reducible repeat (first | apply Kd.R_alloc | apply Kd.R_drewN | apply Kd.R_drew)); exact (Kd.R_mono (Kd.R_far (p := ⟨gb522, 1, none⟩) (Kd.R_far (p := ⟨gb522, 0, none⟩) (Kd.R_types HO516.out BK522.out (by decide)) (fun _ hk => hk.2) (.int .i64 t517)) (fun _ hk => hk.2) (.slice Ao73 t518.length co73)) (fun _ h_ => h_.1))) hb); have n3_ := Aside0.mk (Kd.R_below (by (with_reducible repeat (first | apply Kd.R_alloc | apply Kd.R_drewN | apply Kd.R_drew)); exact (Kd.R_mono (Kd.R_far (p := ⟨gb522, 1, none⟩) (Kd.R_far (p := ⟨gb522, 0, none⟩) (Kd.R_types HO520.out BK522.out (by decide)) (fun _ hk => hk.2) (.int .i64 t517)) (fun _ hk => hk.2) (.slice Ao73 t518.length co73)) (fun _ h_ => h_.1))) hb); have n4_ := Aside0.mk (blk_below (g := gb493) (o := .cells #[.int .i64 t488, .slice Ao15 t489.length co15] 31 (0, 0)) (by (with_reducible repeat (first | refine blk_drewN ?_ _ | refine blk_drew ?_ | refine blk_alloc ?_ _)); refine blk_far ?_ NB493_522.out _; (with_reducible repeat (first | refine blk_drewN ?_ _ | refine blk_drew ?_ | refine blk_alloc ?_ _)); refine blk_far ?_ NB493_522.out _; (with_reducible repeat (first | refine blk_drewN ?_ _ | refine blk_drew ?_ | refine blk_alloc ?_ _)); exact BK493.out) hb); have n5_ := Aside0.mk (blk_below (g := gb502) (o := .cells #[.int .i64 t497, .slice Ao22 t498.length co22] 31 (0, 0)) (by (with_reducible repeat (first | refine blk_drewN ?_ _ | refine blk_drew ?_ | refine blk_alloc ?_ _)); refine blk_far ?_ NB502_522.out _; (with_reducible repeat (first | refine blk_drewN ?_ _ | refine blk_drew ?_ | refine blk_alloc ?_ _)); refine blk_far ?_ NB502_522.out _; (with_reducible repeat (first | refine blk_drewN ?_ _ | refine blk_drew ?_ | refine blk_alloc ?_ _)); exact BK502.out) hb); have n6_ := Aside0.mk (blk_below (g := gb522) (o := .cells #[.int .i64 t517, .slice Ao73 t518.length co73] 31 (0, 0)) (by (with_reducible repeat (first | refine blk_drewN ?_ _ | refine blk_drew ?_ | refine blk_alloc ?_ _)); refine blk_put (cs := #[.int .i64 t517, .slice none 0 0]) ?_ 1 _ rfl; (with_reducible repeat (first | refine blk_drewN ?_ _ | refine blk_drew ?_ | refine blk_alloc ?_ _)); refine blk_put (cs := #[.int .i64 0, .slice none 0 0]) ?_ 0 _ rfl; (with_reducible repeat (first | refine blk_drewN ?_ _ | refine blk_drew ?_ | refine blk_alloc ?_ _)); exact BK522.out) hb); have n7_ := Aside0.mk (below_step (by repeat (first | (with_reducible first | exact HB.out | apply below_alloc | apply pw_below_drewN | apply below_drew1 | refine below_set ?_ (Aside0.out (by assumption))) | exact HB.out)) hb); clear HO_494001; clear HO_503001; clear HO516; clear HO520; clear BK493; clear BK502; clear BK522; clear HB; have HO_494001 := n0_; have HO_503001 := n1_; have HO516 := n2_; have HO520 := n3_; have BK493 := n4_; have BK502 := n5_; have BK522 := n6_; have HB := n7_; clear n0_ n1_ n2_ n3_ n4_ n5_ n6_ n7_; (try clear hb); (try clear hb2); (try clear hk); (try clear hi)))
             go_meet
             case rel => exact ⟨_, ((t521 != t492)), (by first | rfl | (simp; done) | (simp [*]; done)), H', ⟨by have := HJ8.out; have := HJ37.out; first | omega | exact Nat.le_refl _⟩, ⟨by (with_reducible repeat (first | apply Kd.R_alloc | apply Kd.R_drewN | apply Kd.R_drew)); exact HO_494001.out⟩, ⟨by (with_reducible repeat (first | apply Kd.R_alloc | apply Kd.R_drewN | apply Kd.R_drew)); exact HO_503001.out⟩, ⟨by (with_reducible repeat (first | apply Kd.R_alloc | apply Kd.R_drewN | apply Kd.R_drew)); exact Kd.R_mono HO520.out (fun _ hk => ⟨hk.1.2, hk.2⟩)⟩, ⟨by (with_reducible repeat (first | refine blk_drewN ?_ _ | refine blk_drew ?_ | refine blk_alloc ?_ _)); exact BK493.out⟩, ⟨by (with_reducible repeat (first | refine blk_drewN ?_ _ | refine blk_drew ?_ | refine blk_alloc ?_ _)); exact BK502.out⟩, ⟨by (with_reducible repeat (first | refine blk_drewN ?_ _ | refine blk_drew ?_ | refine blk_alloc ?_ _)); exact BK522.out⟩, ⟨by repeat (first | (with_reducible first | exact HB.out | apply below_alloc | apply pw_below_drewN | apply below_drew1 | refine below_set ?_ (Aside0.out (by assumption))) | exact HB.out)⟩⟩
            ·
             replace c75 := Bool.eq_false_iff.mpr c75
             subst c75
             have H1 : (laws_FnExactMakePuzzle.j2 kj37 t511 true t497 t512) = some r := by rw [if_neg (show ¬ (false = true) by decide)] at H; exact H
             clear H
             have H := H1
             clear H1
             have H' := Aside0.mk H
             clear H
             have hnb82 := NB522_493.out
             have hnc82 := NB493_522.out
             have hnb83 := NB522_502.out
             have hnc83 := NB502_522.out
             have hcz84_0 : w69.cell? ⟨gb522, 0, none⟩ = some (.int .i64 0) := (blk_cell BK522.out 0).trans rfl
             have hcz84_1 : w69.cell? ⟨gb522, 1, none⟩ = some (.slice none 0 0) := (blk_cell BK522.out 1).trans rfl
             have hfz84_0 := blk_frozen BK522.out 0
             have hfz84_1 := blk_frozen BK522.out 1
             have hnb85 := NB493_502.out
             have hnc85 := NB502_493.out
             have hcz86_0 : w69.cell? ⟨gb493, 0, none⟩ = some (.int .i64 t488) := (blk_cell BK493.out 0).trans rfl
             have hcz86_1 : w69.cell? ⟨gb493, 1, none⟩ = some (.slice Ao15 t489.length co15) := (blk_cell BK493.out 1).trans rfl
             have hfz86_0 := blk_frozen BK493.out 0
             have hfz86_1 := blk_frozen BK493.out 1
             go_wp2_with (first | ((with_reducible refine gate_callee (f := 18) rfl ?_); refine goesL_ (some 88) rfl rfl Try.func18 (by kernel_rfl) rfl #[.agg #[.int .i64 t517, .slice Ao73 t518.length co73], .agg #[.int .i64 t488, .slice Ao15 t489.length co15]] rfl (by (try simp only [List.map_toArray, List.map_cons, List.map_nil]); first | done | rfl | (simp only [List.length_drop, List.length_take]; rfl)) ?_; (with_reducible refine (laws_eqPuzzle.calls kj37 t517 _ _ t518 t488 _ _ t489 false _ ?side1 ?side2 ?side3 ?side4 A74.out).mono ?_); (case side1 => refine (Kd.R_reads' (e := 45) (base := w.heap.size) (ok := fun k_ => ((True ∧ some k_ ≠ (.slice Ao15 t489.length co15 : Value).ownBlock) ∧ some k_ ≠ (.slice Ao22 t498.length co22 : Value).ownBlock)) (n := t518.length) (c := co73) ?_).2.2; exact (by (with_reducible repeat (first | apply Kd.R_alloc | apply Kd.R_drewN | apply Kd.R_drew)); exact (Kd.R_mono (Kd.R_far (p := ⟨gb522, 1, none⟩) (Kd.R_far (p := ⟨gb522, 0, none⟩) (Kd.R_types HO520.out BK522.out (by decide)) (fun _ hk => hk.2) (.int .i64 t517)) (fun _ hk => hk.2) (.slice Ao73 t518.length co73)) (fun _ h_ => h_.1)))); (case side2 => exact (Kd.R_reads' HO520.out).2.1); (case side3 => refine (Kd.R_reads' (e := 45) (base := w.heap.size) (ok := fun k_ => (some k_ ≠ (.slice Ao22 t498.length co22 : Value).ownBlock ∧ some k_ ≠ (.slice Ao73 t518.length co73 : Value).ownBlock)) (n := t489.length) (c := co15) ?_).2.2; exact (by (with_reducible repeat (first | apply Kd.R_alloc | apply Kd.R_drewN | apply Kd.R_drew)); exact (Kd.R_mono (Kd.R_far (p := ⟨gb522, 1, none⟩) (Kd.R_far (p := ⟨gb522, 0, none⟩) (Kd.R_types HO_494001.out BK522.out (by decide)) (fun _ hk => hk.2) (.int .i64 t517)) (fun _ hk => hk.2) (.slice Ao73 t518.length co73)) (fun _ h_ => h_.1)))); (case side4 => exact (Kd.R_reads' HO_494001.out).2.1); rintro e w87 ⟨rfl, hb⟩; refine ⟨_, rfl, ?_⟩; have n0_ := Aside0.mk (Kd.R_below (by (with_reducible repeat (first | apply Kd.R_alloc | apply Kd.R_drewN | apply Kd.R_drew)); exact (Kd.R_mono (Kd.R_far (p := ⟨gb522, 1, none⟩) (Kd.R_far (p := ⟨gb522, 0, none⟩) (Kd.R_types HO_494001.out BK522.out (by decide)) (fun _ hk => hk.2) (.int .i64 t517)) (fun _ hk => hk.2) (.slice Ao73 t518.length co73)) (fun _ h_ => h_.1))) hb); have n1_ := Aside0.mk (Kd.R_below (by (with_reducible repeat (first | apply Kd.R_alloc | apply Kd.R_drewN | apply Kd.R_drew)); exact (Kd.R_mono (Kd.R_far (p := ⟨gb522, 1, none⟩) (Kd.R_far (p := ⟨gb522, 0, none⟩) (Kd.R_types HO_503001.out BK522.out (by decide)) (fun _ hk => hk.2) (.int .i64 t517)) (fun _ hk => hk.2) (.slice Ao73 t518.length co73)) (fun _ h_ => h_.1))) hb); have n2_ := Aside0.mk (Kd.R_below (by (with_reducible repeat (first | apply Kd.R_alloc | apply Kd.R_drewN | apply Kd.R_drew)); exact (Kd.R_mono (Kd.R_far (p := ⟨gb522, 1, none⟩) (Kd.R_far (p := ⟨gb522, 0, none⟩) (Kd.R_types HO516.out BK522.out (by decide)) (fun _ hk => hk.2) (.int .i64 t517)) (fun _ hk => hk.2) (.slice Ao73 t518.length co73)) (fun _ h_ => h_.1))) hb); have n3_ := Aside0.mk (Kd.R_below (by (with_reducible repeat (first | apply Kd.R_alloc | apply Kd.R_drewN | apply Kd.R_drew)); exact (Kd.R_mono (Kd.R_far (p := ⟨gb522, 1, none⟩) (Kd.R_far (p := ⟨gb522, 0, none⟩) (Kd.R_types HO520.out BK522.out (by decide)) (fun _ hk => hk.2) (.int .i64 t517)) (fun _ hk => hk.2) (.slice Ao73 t518.length co73)) (fun _ h_ => h_.1))) hb); have n4_ := Aside0.mk (blk_below (g := gb493) (o := .cells #[.int .i64 t488, .slice Ao15 t489.length co15] 31 (0, 0)) (by (with_reducible repeat (first | refine blk_drewN ?_ _ | refine blk_drew ?_ | refine blk_alloc ?_ _)); refine blk_far ?_ NB493_522.out _; (with_reducible repeat (first | refine blk_drewN ?_ _ | refine blk_drew ?_ | refine blk_alloc ?_ _)); refine blk_far ?_ NB493_522.out _; (with_reducible repeat (first | refine blk_drewN ?_ _ | refine blk_drew ?_ | refine blk_alloc ?_ _)); exact BK493.out) hb); have n5_ := Aside0.mk (blk_below (g := gb502) (o := .cells #[.int .i64 t497, .slice Ao22 t498.length co22] 31 (0, 0)) (by (with_reducible repeat (first | refine blk_drewN ?_ _ | refine blk_drew ?_ | refine blk_alloc ?_ _)); refine blk_far ?_ NB502_522.out _; (with_reducible repeat (first | refine blk_drewN ?_ _ | refine blk_drew ?_ | refine blk_alloc ?_ _)); refine blk_far ?_ NB502_522.out _; (with_reducible repeat (first | refine blk_drewN ?_ _ | refine blk_drew ?_ | refine blk_alloc ?_ _)); exact BK502.out) hb); have n6_ := Aside0.mk (blk_below (g := gb522) (o := .cells #[.int .i64 t517, .slice Ao73 t518.length co73] 31 (0, 0)) (by (with_reducible repeat (first | refine blk_drewN ?_ _ | refine blk_drew ?_ | refine blk_alloc ?_ _)); refine blk_put (cs := #[.int .i64 t517, .slice none 0 0]) ?_ 1 _ rfl; (with_reducible repeat (first | refine blk_drewN ?_ _ | refine blk_drew ?_ | refine blk_alloc ?_ _)); refine blk_put (cs := #[.int .i64 0, .slice none 0 0]) ?_ 0 _ rfl; (with_reducible repeat (first | refine blk_drewN ?_ _ | refine blk_drew ?_ | refine blk_alloc ?_ _)); exact BK522.out) hb); have n7_ := Aside0.mk (below_step (by repeat (first | (with_reducible first | exact HB.out | apply below_alloc | apply pw_below_drewN | apply below_drew1 | refine below_set ?_ (Aside0.out (by assumption))) | exact HB.out)) hb); clear HO_494001; clear HO_503001; clear HO516; clear HO520; clear BK493; clear BK502; clear BK522; clear HB; have HO_494001 := n0_; have HO_503001 := n1_; have HO516 := n2_; have HO520 := n3_; have BK493 := n4_; have BK502 := n5_; have BK522 := n6_; have HB := n7_; clear n0_ n1_ n2_ n3_ n4_ n5_ n6_ n7_; (try clear hb); (try clear hb2); (try clear hk); (try clear hi)))
             go_meet
             case rel => exact ⟨_, (true), (by first | rfl | (simp; done) | (simp [*]; done)), H', ⟨by have := HJ8.out; have := HJ37.out; first | omega | exact Nat.le_refl _⟩, ⟨by (with_reducible repeat (first | apply Kd.R_alloc | apply Kd.R_drewN | apply Kd.R_drew)); exact HO_494001.out⟩, ⟨by (with_reducible repeat (first | apply Kd.R_alloc | apply Kd.R_drewN | apply Kd.R_drew)); exact HO_503001.out⟩, ⟨by (with_reducible repeat (first | apply Kd.R_alloc | apply Kd.R_drewN | apply Kd.R_drew)); exact Kd.R_mono HO520.out (fun _ hk => ⟨hk.1.2, hk.2⟩)⟩, ⟨by (with_reducible repeat (first | refine blk_drewN ?_ _ | refine blk_drew ?_ | refine blk_alloc ?_ _)); exact BK493.out⟩, ⟨by (with_reducible repeat (first | refine blk_drewN ?_ _ | refine blk_drew ?_ | refine blk_alloc ?_ _)); exact BK502.out⟩, ⟨by (with_reducible repeat (first | refine blk_drewN ?_ _ | refine blk_drew ?_ | refine blk_alloc ?_ _)); exact BK522.out⟩, ⟨by repeat (first | (with_reducible first | exact HB.out | apply below_alloc | apply pw_below_drewN | apply below_drew1 | refine below_set ?_ (Aside0.out (by assumption))) | exact HB.out)⟩⟩
           case rest =>
            clear HC60
            try clear c1
            try clear c2
            try clear p2
            try clear c3
            try clear c4
            try clear c4b0
            try clear c4b1
            try clear c5
            try clear c6
            try clear c7
            try clear c8
            try clear c17
            try clear c18
            try clear c19
            try clear c20
            try clear c24
            try clear c25
            try clear c26
            try clear c28
            try clear c29
            try clear c30
            try clear c33
            try clear c36
            try clear c42
            try clear c42b0
            try clear c44
            try clear c45
            try clear c49
            try clear c53
            try clear c56
            try clear c56b0
            try clear c57
            try clear c57b0
            try clear c57b1
            try clear c61
            try clear c70
            try clear c71
            try clear c75
            try clear c76
            try clear c77
            try clear c79
            try clear c82
            try clear c83
            try clear c85
            try clear hcz14_0
            try clear hcz14_1
            try clear hcz21_0
            try clear hcz21_1
            try clear hcz26_0
            try clear hcz26_1
            try clear hcz27_0
            try clear hcz27_1
            try clear hcz30_0
            try clear hcz30_1
            try clear hcz31_0
            try clear hcz31_1
            try clear hcz46_0
            try clear hcz46_1
            try clear hcz47_0
            try clear hcz47_1
            try clear hcz50_0
            try clear hcz50_1
            try clear hcz51_0
            try clear hcz51_1
            try clear hcz62_0
            try clear hcz62_1
            try clear hcz64_0
            try clear hcz64_1
            try clear hcz72_0
            try clear hcz72_1
            try clear hcz78_0
            try clear hcz78_1
            try clear hcz80_0
            try clear hcz80_1
            try clear hcz84_0
            try clear hcz84_1
            try clear hcz86_0
            try clear hcz86_1
            try clear hfz14_0
            try clear hfz14_1
            try clear hfz21_0
            try clear hfz21_1
            try clear hfz26_0
            try clear hfz26_1
            try clear hfz27_0
            try clear hfz27_1
            try clear hfz30_0
            try clear hfz30_1
            try clear hfz31_0
            try clear hfz31_1
            try clear hfz46_0
            try clear hfz46_1
            try clear hfz47_0
            try clear hfz47_1
            try clear hfz50_0
            try clear hfz50_1
            try clear hfz51_0
            try clear hfz51_1
            try clear hfz62_0
            try clear hfz62_1
            try clear hfz64_0
            try clear hfz64_1
            try clear hfz72_0
            try clear hfz72_1
            try clear hfz78_0
            try clear hfz78_1
            try clear hfz80_0
            try clear hfz80_1
            try clear hfz84_0
            try clear hfz84_1
            try clear hfz86_0
            try clear hfz86_1
            try clear p2
            obtain ⟨kq, x94_59, rfl, HA, HJ59, HO_494001, HO_503001, HO_523001, BK493, BK502, BK522, HB⟩ := hcut
            have hl503001_59 := (Kd.R_reads' HO_503001.out).1
            rw [hl503001_59] at HO_503001
            (try simp only [hl503001_59])
            (try simp only [hl503001_59] at BK493)
            (try simp only [hl503001_59] at BK502)
            (try simp only [hl503001_59] at BK522)
            (try simp only [hl503001_59] at HO_494001)
            (try simp only [hl503001_59] at HO_523001)
            cases kq with
            | zero => exact absurd HA.out (by simp [laws_FnExactMakePuzzle.j2])
            | succ kj59 =>
             have H := HA.out
             clear HA
             simp only [laws_FnExactMakePuzzle.j2] at H
             by_cases c88 : x94_59 = true
             ·
              subst c88
              have H1 : (none) = some r := by rw [if_pos rfl] at H; exact H
              clear H
              have H := H1
              clear H1
              exact absurd H (by simp)
             ·
              replace c88 := Bool.eq_false_iff.mpr c88
              subst c88
              have H1 : ((laws_heldPuzzle.f kj59 t497 t512 1).bind fun t524 => (if t524 < 0 then (none) else (if t524 = t511 then (some true) else (none)))) = some r := by rw [if_neg (show ¬ (false = true) by decide)] at H; exact H
              clear H
              have H := H1
              clear H1
              replace H := Option.bind_eq_some_iff.mp H
              obtain ⟨t524, A890, H⟩ := H
              replace H : (if t524 < 0 then (none) else (if t524 = t511 then (some true) else (none))) = some r := H
              have A89 := Aside0.mk A890
              clear A890
              by_cases c90 : t524 < 0
              ·
               rw [if_pos c90] at H
               exact absurd H (by simp)
              ·
               rw [if_neg c90] at H
               have c90b0 : decide (t524 < 0) = false := decide_eq_false c90
               clear c90
               by_cases c91 : t524 = t511
               ·
                rw [if_pos c91] at H
                have c91b0 : (t524 == t511) = true := beq_iff_eq.mpr c91
                have c91b1 : (t524 != t511) = false := bne_eq_false_iff_eq.mpr c91
                clear c91
                obtain rfl := Option.some.inj H
                have hnb92 := NB502_493.out
                have hnc92 := NB493_502.out
                have hnb93 := NB502_522.out
                have hnc93 := NB522_502.out
                have hcz94_0 : wc.cell? ⟨gb502, 0, none⟩ = some (.int .i64 t497) := (blk_cell BK502.out 0).trans rfl
                have hcz94_1 : wc.cell? ⟨gb502, 1, none⟩ = some (.slice Ao22 t512.length co22) := (blk_cell BK502.out 1).trans rfl
                have hfz94_0 := blk_frozen BK502.out 0
                have hfz94_1 := blk_frozen BK502.out 1
                go_wp2_with (first | ((with_reducible refine gate_callee (f := 30) rfl ?_); refine goesL_ (some 97) rfl rfl Try.func30 (by kernel_rfl) rfl #[.agg #[.int .i64 t497, .slice Ao22 t512.length co22], .int .i64 1] rfl (by (try simp only [List.map_toArray, List.map_cons, List.map_nil]); first | done | rfl | (simp only [List.length_drop, List.length_take]; rfl)) ?_; (with_reducible refine (laws_heldPuzzle.calls kj59 t497 _ _ t512 1 t524 _ ?side1 ?side2 A89.out).mono ?_); (case side1 => repeat (first | exact (Kd.R_reads' HO_503001.out).2.2 | (with_reducible refine Kd.C_alloc ?_ _) | (with_reducible refine Kd.C_drewN ?_ _) | (with_reducible refine Kd.C_drew ?_))); (case side2 => exact (Kd.R_reads' HO_503001.out).2.1); rintro e w95 ⟨rfl, hb⟩; refine ⟨_, rfl, ?_⟩; have n0_ := Aside0.mk (Kd.R_below (Kd.pR HO_494001.out) hb); have n1_ := Aside0.mk (Kd.R_below (Kd.pR HO_503001.out) hb); have n2_ := Aside0.mk (Kd.R_below (Kd.pR HO_523001.out) hb); have n3_ := Aside0.mk (blk_below (pk BK493.out) hb); have n4_ := Aside0.mk (blk_below (pk BK502.out) hb); have n5_ := Aside0.mk (blk_below (pk BK522.out) hb); have n6_ := Aside0.mk (below_step (by repeat (first | (with_reducible first | exact HB.out | apply below_alloc | apply pw_below_drewN | apply below_drew1 | refine below_set ?_ (Aside0.out (by assumption))) | exact HB.out)) hb); clear HO_494001; clear HO_503001; clear HO_523001; clear BK493; clear BK502; clear BK522; clear HB; have HO_494001 := n0_; have HO_503001 := n1_; have HO_523001 := n2_; have BK493 := n3_; have BK502 := n4_; have BK522 := n5_; have HB := n6_; clear n0_ n1_ n2_ n3_ n4_ n5_ n6_; (try clear hb); (try clear hb2); (try clear hk); (try clear hi)))
                go_ret
                exact ⟨by first | rfl | (simp [errW_none, errW_some] <;> rfl) | (simp [*, errW_none, errW_some] <;> rfl), by repeat (first | (with_reducible first | exact HB.out | apply below_alloc | apply pw_below_drewN | apply below_drew1 | refine below_set ?_ (Aside0.out (by assumption))) | exact HB.out)⟩
               ·
                rw [if_neg c91] at H
                exact absurd H (by simp)
          ·
           rw [if_neg c57] at H
           exact absurd H (by simp)
     ·
      replace c36 := Bool.eq_false_iff.mpr c36
      subst c36
      have H1 : (none) = some r := by rw [if_neg (show ¬ (false = true) by decide)] at H; exact H
      clear H
      have H := H1
      clear H1
      exact absurd H (by simp)

/-- THE ONE PURE STATEMENT of laws_FnExactMakePuzzle: yours. -/
def laws_FnExactMakePuzzle.Pure : Prop := ∀ (l0 : List Int) (a1 : Int) (a2 : Int), l0.length ≤ maxLen → l0.length * 8 ≤ 140737488351232 → (∀ x ∈ l0, (Lit.int .i64 x).wf = true) → (Lit.int .i64 a1).wf = true → (Lit.int .i64 a2).wf = true → ∃ k, laws_FnExactMakePuzzle.f k l0 a1 a2 = some true
theorem laws_FnExactMakePuzzle.walk (P : laws_FnExactMakePuzzle.Pure) (a0 : Option Addr) (len0 cap0 : Nat) (z0 : List Int) (a1 : Int) (a2 : Int) (w : World) (w0 : (a0 = none ∧ len0 = 0 ∧ cap0 = 0 ∧ z0 = []) ∨ ∃ x, a0 = some x ∧ len0 ≤ cap0 ∧ cap0 ≤ maxLen ∧ z0.length = cap0 ∧ (∀ i, i < z0.length → w.cell? (x.add i) = some (.int .i64 (z0.getD i 0))) ∧ ∀ n ∈ z0, (Lit.int .i64 n).wf = true) (y0 : len0 * 8 ≤ 140737488351232) (w1 : (Lit.int .i64 a1).wf = true) (w2 : (Lit.int .i64 a2).wf = true) :
  Calls Try.prog 6 #[.slice a0 len0 cap0, .int .i64 a1, .int .i64 a2] w fun e w' => e = .returned (.bool true) ∧ Below w.heap.size w w' := by
 obtain ⟨l0, rfl, hr0, hm0, hw0, hc0⟩ := ReadsInt.ofRowC w0
 obtain ⟨k, h⟩ := P l0 a1 a2 hm0 y0 hw0 w1 w2
 refine (laws_FnExactMakePuzzle.calls k _ _ l0 a1 a2 true w (Kd.C_of_reads (d := (0 : Int)) (h1 := fun _ => rfl) hr0) hc0 h).mono ?_
 rintro e w' ⟨rfl, hd⟩
 exact ⟨rfl, hd⟩

end Go.Proofs.Ytkgbahokhifojaa.QHid
