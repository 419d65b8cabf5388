/- Contracts of functions of the given program, walked: each call returns what its Lean function says. Conditions: those that stand at each theorem. (Written by a program of this session.) -/
import Derived.Test.YtpiidnmobofaeaaDoorQFnExactParseCrewx0
import Derived.Test.YtpiidnmobofaeaaDoorQFnExactParseCrewx1
import Derived.Test.YtpiidnmobofaeaaDoorQFnExactParseCrewx4
import Derived.Test.YtpiidnmobofaeaaDoorQFnExactParseCrewx5
import Derived.Test.YtpiidnmobofaeaaDoorQFnExactParseCrewx6
namespace Go.Proofs.YtpiidnmobofaeaaDoor.QFnExactParseCrew
open Go.RowKit Go.Proofs.YtpiidnmobofaeaaDoorW.PrintWords Go.Proofs.YtpiidnmobofaeaaDoorW.PrintLast Go.Proofs.YtpiidnmobofaeaaDoorW.PrintMore
attribute [local go_sem] max2_int min2_int max_two min_two max_three min_three max_four min_four   -- for this text's walks alone
set_option linter.unusedVariables false
set_option linter.unusedSimpArgs false

/-! ### laws_FnExactParseCrew: function 12 -/
mutual
def laws_FnExactParseCrew.j0 : Nat → ByteArray → Bool → Bool → List Int → List Bool → Int → List Int → List Bool → Int → Option (Bool)
  | 0, _, _, _, _, _, _, _, _, _ => none
  | k + 1, x0, x4, x32, x319000, x319001, x319002, x328000, x328001, x328002 => if x32 = true then (none) else ((laws_markCrew.f k x328000 x328001 x328002 1).bind fun bt329 => ((laws_heldCrew.f k bt329.2.1 bt329.2.2 x328002 1).bind fun t332 => (if t332 < 0 then (none) else (if t332 = bt329.1 then ((impl_ParseCrew.f k x0).bind fun bt333 => ((laws_eqCrew.f k bt333.1 bt333.2.1 bt333.2.2.1 x319000 x319001 x319002).bind fun t342 => (if t342 = true then (laws_FnExactParseCrew.j1 k bt329.1 (bt333.2.2.2 != x4) bt329.2.1 bt329.2.2 x328002) else (laws_FnExactParseCrew.j1 k bt329.1 true bt329.2.1 bt329.2.2 x328002)))) else (none)))))
def laws_FnExactParseCrew.j1 : Nat → Int → Bool → List Int → List Bool → Int → Option (Bool)
  | 0, _, _, _, _, _ => none
  | k + 1, x7, x57, x328000, x328001, x328002 => if x57 = true then (none) else ((laws_heldCrew.f k x328000 x328001 x328002 1).bind fun t343 => (if t343 < 0 then (none) else (if t343 = x7 then (some true) else (none))))
end
def laws_FnExactParseCrew.f (k : Nat) (a0 : ByteArray) : Option (Bool) := if (a0.size : Int) > 1048576 then (some true) else ((spec_ParseCrew.f k a0).bind fun bt310 => ((impl_ParseCrew.f k a0).bind fun bt319 => ((laws_eqCrew.f k bt319.1 bt319.2.1 bt319.2.2.1 bt310.1 bt310.2.1 bt310.2.2.1).bind fun t328 => (if t328 = true then (laws_FnExactParseCrew.j0 k a0 bt310.2.2.2 (bt319.2.2.2 != bt310.2.2.2) bt310.1 bt310.2.1 bt310.2.2.1 bt319.1 bt319.2.1 bt319.2.2.1) else (laws_FnExactParseCrew.j0 k a0 bt310.2.2.2 true bt310.1 bt310.2.1 bt310.2.2.1 bt319.1 bt319.2.1 bt319.2.2.1)))))
theorem laws_FnExactParseCrew.mono_l : ∀ k, (∀ y0 y1 y2 y3 y4 y5 y6 y7 y8, LeO (laws_FnExactParseCrew.j0 k y0 y1 y2 y3 y4 y5 y6 y7 y8) (laws_FnExactParseCrew.j0 (k + 1) y0 y1 y2 y3 y4 y5 y6 y7 y8)) ∧ (∀ y0 y1 y2 y3 y4, LeO (laws_FnExactParseCrew.j1 k y0 y1 y2 y3 y4) (laws_FnExactParseCrew.j1 (k + 1) y0 y1 y2 y3 y4))
  | 0 => ⟨fun _ _ _ _ _ _ _ _ _ r h => by simp [laws_FnExactParseCrew.j0] at h, fun _ _ _ _ _ r h => by simp [laws_FnExactParseCrew.j1] at h⟩
  | k + 1 => by
    obtain ⟨ih0, ih1⟩ := laws_FnExactParseCrew.mono_l k
    refine ⟨?_, ?_⟩
    · intro y0 y1 y2 y3 y4 y5 y6 y7 y8
      unfold laws_FnExactParseCrew.j0
      repeat' first
      | (with_reducible exact ih0 _ _ _ _ _ _ _ _ _)
      | (with_reducible exact ih1 _ _ _ _ _)
      | (with_reducible exact impl_ParseCrew.mono _ _)
      | (with_reducible exact laws_eqCrew.mono _ _ _ _ _ _ _)
      | (with_reducible exact laws_heldCrew.mono _ _ _ _ _)
      | (with_reducible exact laws_markCrew.mono _ _ _ _ _)
      | (with_reducible exact spec_ParseCrew.mono _ _)
      | (with_reducible exact LeO.refl _)
      | (with_reducible exact LeO.none _)
      | (with_reducible refine LeO.ite ?_ ?_)
      | (with_reducible refine LeO.bind ?_ (fun _ => ?_))
      | exact ih0 _ _ _ _ _ _ _ _ _
      | exact ih1 _ _ _ _ _
      | exact impl_ParseCrew.mono _ _
      | exact laws_eqCrew.mono _ _ _ _ _ _ _
      | exact laws_heldCrew.mono _ _ _ _ _
      | exact laws_markCrew.mono _ _ _ _ _
      | exact spec_ParseCrew.mono _ _
      | exact LeO.none _
      | refine LeO.ite ?_ ?_
      | refine LeO.bind ?_ (fun _ => ?_)
    · intro y0 y1 y2 y3 y4
      unfold laws_FnExactParseCrew.j1
      repeat' first
      | (with_reducible exact ih0 _ _ _ _ _ _ _ _ _)
      | (with_reducible exact ih1 _ _ _ _ _)
      | (with_reducible exact impl_ParseCrew.mono _ _)
      | (with_reducible exact laws_eqCrew.mono _ _ _ _ _ _ _)
      | (with_reducible exact laws_heldCrew.mono _ _ _ _ _)
      | (with_reducible exact laws_markCrew.mono _ _ _ _ _)
      | (with_reducible exact spec_ParseCrew.mono _ _)
      | (with_reducible exact LeO.refl _)
      | (with_reducible exact LeO.none _)
      | (with_reducible refine LeO.ite ?_ ?_)
      | (with_reducible refine LeO.bind ?_ (fun _ => ?_))
      | exact ih0 _ _ _ _ _ _ _ _ _
      | exact ih1 _ _ _ _ _
      | exact impl_ParseCrew.mono _ _
      | exact laws_eqCrew.mono _ _ _ _ _ _ _
      | exact laws_heldCrew.mono _ _ _ _ _
      | exact laws_markCrew.mono _ _ _ _ _
      | exact spec_ParseCrew.mono _ _
      | exact LeO.none _
      | refine LeO.ite ?_ ?_
      | refine LeO.bind ?_ (fun _ => ?_)
theorem laws_FnExactParseCrew.mono : ∀ a0 k, LeO (laws_FnExactParseCrew.f k a0) (laws_FnExactParseCrew.f (k + 1) a0) := by
  intro a0 k
  obtain ⟨ih0, ih1⟩ := laws_FnExactParseCrew.mono_l k
  unfold laws_FnExactParseCrew.f
  repeat' first
      | (with_reducible exact ih0 _ _ _ _ _ _ _ _ _)
      | (with_reducible exact ih1 _ _ _ _ _)
      | (with_reducible exact impl_ParseCrew.mono _ _)
      | (with_reducible exact laws_eqCrew.mono _ _ _ _ _ _ _)
      | (with_reducible exact laws_heldCrew.mono _ _ _ _ _)
      | (with_reducible exact laws_markCrew.mono _ _ _ _ _)
      | (with_reducible exact spec_ParseCrew.mono _ _)
      | (with_reducible exact LeO.refl _)
      | (with_reducible exact LeO.none _)
      | (with_reducible refine LeO.ite ?_ ?_)
      | (with_reducible refine LeO.bind ?_ (fun _ => ?_))
      | exact ih0 _ _ _ _ _ _ _ _ _
      | exact ih1 _ _ _ _ _
      | exact impl_ParseCrew.mono _ _
      | exact laws_eqCrew.mono _ _ _ _ _ _ _
      | exact laws_heldCrew.mono _ _ _ _ _
      | exact laws_markCrew.mono _ _ _ _ _
      | exact spec_ParseCrew.mono _ _
      | exact LeO.none _
      | refine LeO.ite ?_ ?_
      | refine LeO.bind ?_ (fun _ => ?_)
set_option maxHeartbeats 8000000 in
set_option maxRecDepth 100000 in
theorem laws_FnExactParseCrew.calls (k : Nat) (a0 : ByteArray) (r : Bool) (w : World) (h : laws_FnExactParseCrew.f k a0 = some r) (hT : Tab w) :
  Calls Tryd.prog 12 #[.string a0] w fun e w' => e = .returned (.bool r) ∧ Below w.heap.size w w' := by
 have HT := Aside0.mk hT
 clear hT
 have hu65 := Tryd.underlying65
 have HB := Aside0.mk (Below.refl w.heap.size w)
 have H : (if (a0.size : Int) > 1048576 then (some true) else ((spec_ParseCrew.f k a0).bind fun bt310 => ((impl_ParseCrew.f k a0).bind fun bt319 => ((laws_eqCrew.f k bt319.1 bt319.2.1 bt319.2.2.1 bt310.1 bt310.2.1 bt310.2.2.1).bind fun t328 => (if t328 = true then (laws_FnExactParseCrew.j0 k a0 bt310.2.2.2 (bt319.2.2.2 != bt310.2.2.2) bt310.1 bt310.2.1 bt310.2.2.1 bt319.1 bt319.2.1 bt319.2.2.1) else (laws_FnExactParseCrew.j0 k a0 bt310.2.2.2 true bt310.1 bt310.2.1 bt310.2.2.1 bt319.1 bt319.2.1 bt319.2.2.1)))))) = some r := h
 clear h
 by_cases c2 : (a0.size : Int) > 1048576
 ·
  rw [if_pos c2] at H
  have c2b0 : decide (1048576 < (a0.size : Int)) = true := decide_eq_true c2
  have c2b1 : decide (1048576 < a0.size) = true := decide_eq_true (by omega)
  clear c2
  obtain rfl := Option.some.inj H
  go_enter Tryd.func12, Tryd.ntmps12
  go_wp2
  go_ret
  exact ⟨by first | rfl | (simp [errW_none, errW_some] <;> rfl) | (simp [*, errW_none, errW_some] <;> rfl), by repeat (first | (with_reducible first | exact HB.out | apply below_alloc | apply pw_below_drewN | apply below_drew1) | exact HB.out)⟩
 ·
  rw [if_neg c2] at H
  have c2b0 : decide (1048576 < (a0.size : Int)) = false := decide_eq_false c2
  have c2b1 : decide (1048576 < a0.size) = false := decide_eq_false (by omega)
  clear c2
  replace H := Option.bind_eq_some_iff.mp H
  obtain ⟨⟨t310, t313, t316, t317⟩, A30, H⟩ := H
  replace H : ((impl_ParseCrew.f k a0).bind fun bt319 => ((laws_eqCrew.f k bt319.1 bt319.2.1 bt319.2.2.1 t310 t313 t316).bind fun t328 => (if t328 = true then (laws_FnExactParseCrew.j0 k a0 t317 (bt319.2.2.2 != t317) t310 t313 t316 bt319.1 bt319.2.1 bt319.2.2.1) else (laws_FnExactParseCrew.j0 k a0 t317 true t310 t313 t316 bt319.1 bt319.2.1 bt319.2.2.1)))) = some r := H
  have A3 := Aside0.mk A30
  clear A30
  replace H := Option.bind_eq_some_iff.mp H
  obtain ⟨⟨t319, t322, t325, t326⟩, A40, H⟩ := H
  replace H : ((laws_eqCrew.f k t319 t322 t325 t310 t313 t316).bind fun t328 => (if t328 = true then (laws_FnExactParseCrew.j0 k a0 t317 (t326 != t317) t310 t313 t316 t319 t322 t325) else (laws_FnExactParseCrew.j0 k a0 t317 true t310 t313 t316 t319 t322 t325))) = some r := H
  have A4 := Aside0.mk A40
  clear A40
  have HC5 := Aside0.mk H
  clear H
  go_enter Tryd.func12, Tryd.ntmps12
  go_upto_region 5 with (first | ((with_reducible refine gate_callee (f := 54) rfl ?_); refine goesL_ (some 16) rfl rfl Tryd.func54 (by kernel_rfl) rfl #[.string a0] rfl (by (try simp only [List.map_toArray, List.map_cons, List.map_nil]); first | done | rfl | (simp only [List.length_drop, List.length_take]; rfl)) ?_; (with_reducible refine (spec_ParseCrew.calls k a0 t310 t313 t316 t317 _ A3.out).mono ?_); rintro e w6 ⟨v311, v314, rfl, ho0, ho1, hb⟩; refine ⟨_, rfl, ?_⟩; have n0_ := Aside0.mk (Kd.R_lower ho0 (below_size (by repeat (first | (with_reducible first | exact HB.out | apply below_alloc | apply pw_below_drewN | apply below_drew1) | exact HB.out)))); have n1_ := Aside0.mk (Kd.R_lower ho1 (below_size (by repeat (first | (with_reducible first | exact HB.out | apply below_alloc | apply pw_below_drewN | apply below_drew1) | exact HB.out)))); have n2_ := Aside0.mk (below_step (by repeat (first | (with_reducible first | exact HB.out | apply below_alloc | apply pw_below_drewN | apply below_drew1) | exact HB.out)) hb); clear HB; have HO312 := n0_; have HO315 := n1_; have HB := n2_; clear n0_ n1_ n2_; (try clear hb); (try clear hb2); (try clear hk); (try clear hi); (try clear ho0); (try clear ho1)) | ((with_reducible refine gate_dst (N := 3) rfl ?_); refine box_event ?hg (N := 3) ?hd (cs := #[.slice none 0 0, .slice none 0 0, .int .i64 0]) (t := 65) ?hr ?_; (case hd => rfl); (case hg => rfl); (case hr => first | (go_simp; done) | (go_simp; rfl)); intro gb318 hg w7 hbox hb; have n0_ := Aside0.mk (Kd.R_below (Kd.pR HO312.out) hb); have n1_ := Aside0.mk (Kd.R_below (Kd.pR HO315.out) hb); have n2_ := Aside0.mk (below_step (by repeat (first | (with_reducible first | exact HB.out | apply below_alloc | apply pw_below_drewN | apply below_drew1) | exact HB.out)) hb); have n3_ := Aside0.mk (hbox); have n4_ := Aside0.mk ((by rw [hg]; exact (below_size (by repeat (first | (with_reducible first | exact HB.out | apply below_alloc | apply pw_below_drewN | apply below_drew1) | exact HB.out))) : w.heap.size ≤ gb318)); have n5_ := n4_; clear HO312; clear HO315; clear HB; have HO312 := n0_; have HO315 := n1_; have HB := n2_; have BK318 := n3_; have GW318 := n4_; have GE318 := n5_; clear n0_ n1_ n2_ n3_ n4_ n5_; clear hb hbox hg; obtain ⟨Ao8, co8, eo8⟩ := Kd.R_slice HO312.out; subst eo8; have hcz9_0 : w7.cell? ⟨gb318, 0, none⟩ = some (.slice none 0 0) := (blk_cell BK318.out 0).trans rfl; have hcz9_1 : w7.cell? ⟨gb318, 1, none⟩ = some (.slice none 0 0) := (blk_cell BK318.out 1).trans rfl; have hcz9_2 : w7.cell? ⟨gb318, 2, none⟩ = some (.int .i64 0) := (blk_cell BK318.out 2).trans rfl; have hfz9_0 := blk_frozen BK318.out 0; have hfz9_1 := blk_frozen BK318.out 1; have hfz9_2 := blk_frozen BK318.out 2; obtain ⟨Ao10, co10, eo10⟩ := Kd.R_slice HO315.out; subst eo10) | ((with_reducible refine gate_callee (f := 55) rfl ?_); refine goesL_ (some 21) rfl rfl Tryd.func55 (by kernel_rfl) rfl #[.string a0] rfl (by (try simp only [List.map_toArray, List.map_cons, List.map_nil]); first | done | rfl | (simp only [List.length_drop, List.length_take]; rfl)) ?_; (with_reducible refine (impl_ParseCrew.calls k a0 t319 t322 t325 t326 _ A4.out (Tab.up HT.out (by repeat (first | exact Below.refl _ _ | (with_reducible first | exact HB.out | apply below_alloc | apply pw_below_drewN | apply below_drew1 | refine below_set ?_ (Aside0.out (by assumption))) | exact HB.out)))).mono ?_); rintro e w11 ⟨v320, v323, rfl, ho0, ho1, hb⟩; refine ⟨_, rfl, ?_⟩; have n0_ := Aside0.mk (Kd.R_elder' (by (with_reducible repeat (first | apply Kd.R_alloc | apply Kd.R_drewN | apply Kd.R_drew)); exact (Kd.R_mono (Kd.R_far (p := ⟨gb318, 2, none⟩) (Kd.R_far (p := ⟨gb318, 1, none⟩) (Kd.R_far (p := ⟨gb318, 0, none⟩) (Kd.R_types HO312.out BK318.out (by decide)) (fun _ hk => hk.2) (.slice Ao8 t310.length co8)) (fun _ hk => hk.2) (.slice Ao10 t313.length co10)) (fun _ hk => hk.2) (.int .i64 t316)) (fun _ h_ => h_.1))) (Kd.R_base ho0) hb); have n1_ := Aside0.mk (Kd.R_elder' (by (with_reducible repeat (first | apply Kd.R_alloc | apply Kd.R_drewN | apply Kd.R_drew)); exact (Kd.R_mono (Kd.R_far (p := ⟨gb318, 2, none⟩) (Kd.R_far (p := ⟨gb318, 1, none⟩) (Kd.R_far (p := ⟨gb318, 0, none⟩) (Kd.R_types HO315.out BK318.out (by decide)) (fun _ hk => hk.2) (.slice Ao8 t310.length co8)) (fun _ hk => hk.2) (.slice Ao10 t313.length co10)) (fun _ hk => hk.2) (.int .i64 t316)) (fun _ h_ => h_.1))) (Kd.R_base ho1) hb); have n2_ := Aside0.mk (Kd.R_lower (Kd.R_new' ho0 (Kd.R_lt (by (with_reducible repeat (first | apply Kd.R_alloc | apply Kd.R_drewN | apply Kd.R_drew)); exact (Kd.R_mono (Kd.R_far (p := ⟨gb318, 2, none⟩) (Kd.R_far (p := ⟨gb318, 1, none⟩) (Kd.R_far (p := ⟨gb318, 0, none⟩) (Kd.R_types HO312.out BK318.out (by decide)) (fun _ hk => hk.2) (.slice Ao8 t310.length co8)) (fun _ hk => hk.2) (.slice Ao10 t313.length co10)) (fun _ hk => hk.2) (.int .i64 t316)) (fun _ h_ => h_.1))))) (below_size (by repeat (first | (with_reducible first | exact HB.out | apply below_alloc | apply pw_below_drewN | apply below_drew1 | refine below_set ?_ GE318.out) | exact HB.out)))); have n3_ := Aside0.mk (Kd.R_lower (Kd.R_new' ho1 (Kd.R_lt (by (with_reducible repeat (first | apply Kd.R_alloc | apply Kd.R_drewN | apply Kd.R_drew)); exact (Kd.R_mono (Kd.R_far (p := ⟨gb318, 2, none⟩) (Kd.R_far (p := ⟨gb318, 1, none⟩) (Kd.R_far (p := ⟨gb318, 0, none⟩) (Kd.R_types HO315.out BK318.out (by decide)) (fun _ hk => hk.2) (.slice Ao8 t310.length co8)) (fun _ hk => hk.2) (.slice Ao10 t313.length co10)) (fun _ hk => hk.2) (.int .i64 t316)) (fun _ h_ => h_.1))))) (below_size (by repeat (first | (with_reducible first | exact HB.out | apply below_alloc | apply pw_below_drewN | apply below_drew1 | refine below_set ?_ GE318.out) | exact HB.out)))); have n4_ := Aside0.mk (blk_below (g := gb318) (o := .cells #[.slice Ao8 t310.length co8, .slice Ao10 t313.length co10, .int .i64 t316] 65 (0, 0)) (by (with_reducible repeat (first | refine blk_drewN ?_ _ | refine blk_drew ?_ | refine blk_alloc ?_ _)); refine blk_put (cs := #[.slice Ao8 t310.length co8, .slice Ao10 t313.length co10, .int .i64 0]) ?_ 2 _ rfl; (with_reducible repeat (first | refine blk_drewN ?_ _ | refine blk_drew ?_ | refine blk_alloc ?_ _)); refine blk_put (cs := #[.slice Ao8 t310.length co8, .slice none 0 0, .int .i64 0]) ?_ 1 _ rfl; (with_reducible repeat (first | refine blk_drewN ?_ _ | refine blk_drew ?_ | refine blk_alloc ?_ _)); refine blk_put (cs := #[.slice none 0 0, .slice none 0 0, .int .i64 0]) ?_ 0 _ rfl; (with_reducible repeat (first | refine blk_drewN ?_ _ | refine blk_drew ?_ | refine blk_alloc ?_ _)); exact BK318.out) hb); have n5_ := Aside0.mk (below_step (by repeat (first | (with_reducible first | exact HB.out | apply below_alloc | apply pw_below_drewN | apply below_drew1 | refine below_set ?_ GE318.out) | exact HB.out)) hb); clear HO312; clear HO315; clear BK318; clear HB; have HO312 := n0_; have HO315 := n1_; have HO321 := n2_; have HO324 := n3_; have BK318 := n4_; have HB := n5_; clear n0_ n1_ n2_ n3_ n4_ n5_; (try clear hb); (try clear hb2); (try clear hk); (try clear hi); (try clear ho0); (try clear ho1)) | ((with_reducible refine gate_dst (N := 5) rfl ?_); refine box_event ?hg (N := 5) ?hd (cs := #[.slice none 0 0, .slice none 0 0, .int .i64 0]) (t := 65) ?hr ?_; (case hd => rfl); (case hg => rfl); (case hr => first | (go_simp; done) | (go_simp; rfl)); intro gb327 hg w12 hbox hb; have n0_ := Aside0.mk (Kd.R_below (Kd.pR HO312.out) hb); have n1_ := Aside0.mk (Kd.R_below (Kd.pR HO315.out) hb); have n2_ := Aside0.mk (Kd.R_below (Kd.pR HO321.out) hb); have n3_ := Aside0.mk (Kd.R_below (Kd.pR HO324.out) hb); have n4_ := Aside0.mk (blk_below (pk BK318.out) hb); have n5_ := Aside0.mk (below_step (by repeat (first | (with_reducible first | exact HB.out | apply below_alloc | apply pw_below_drewN | apply below_drew1 | refine below_set ?_ GE318.out) | exact HB.out)) hb); have n6_ := Aside0.mk (hbox); have n7_ := Aside0.mk ((by rw [hg]; exact (below_size (by repeat (first | (with_reducible first | exact HB.out | apply below_alloc | apply pw_below_drewN | apply below_drew1 | refine below_set ?_ GE318.out) | exact HB.out))) : w.heap.size ≤ gb327)); have n8_ := n7_; have n9_ := Aside0.mk ((by rw [hg]; exact Nat.ne_of_lt (blk_lt (pk BK318.out)) : gb318 ≠ gb327)); have n10_ := Aside0.mk n9_.out.symm; clear HO312; clear HO315; clear HO321; clear HO324; clear BK318; clear HB; have HO312 := n0_; have HO315 := n1_; have HO321 := n2_; have HO324 := n3_; have BK318 := n4_; have HB := n5_; have BK327 := n6_; have GW327 := n7_; have GE327 := n8_; have NB318_327 := n9_; have NB327_318 := n10_; clear n0_ n1_ n2_ n3_ n4_ n5_ n6_ n7_ n8_ n9_ n10_; clear hb hbox hg; obtain ⟨Ao13, co13, eo13⟩ := Kd.R_slice HO321.out; subst eo13; have hnb14 := NB327_318.out; have hnc14 := NB318_327.out; have hcz15_0 : w12.cell? ⟨gb327, 0, none⟩ = some (.slice none 0 0) := (blk_cell BK327.out 0).trans rfl; have hcz15_1 : w12.cell? ⟨gb327, 1, none⟩ = some (.slice none 0 0) := (blk_cell BK327.out 1).trans rfl; have hcz15_2 : w12.cell? ⟨gb327, 2, none⟩ = some (.int .i64 0) := (blk_cell BK327.out 2).trans rfl; have hfz15_0 := blk_frozen BK327.out 0; have hfz15_1 := blk_frozen BK327.out 1; have hfz15_2 := blk_frozen BK327.out 2; obtain ⟨Ao16, co16, eo16⟩ := Kd.R_slice HO324.out; subst eo16))
  (try simp only [Act.put, List.setIfInBounds_toArray, List.set_cons_zero, List.set_cons_succ])
  go_cut [32] (fun v32 wc => ∃ (kq : Nat) (x32_4 : Bool), v32 = .bool x32_4 ∧ Aside0 (laws_FnExactParseCrew.j0 kq a0 t317 x32_4 t310 t313 t316 t319 t322 t325 = some r) ∧ Aside0 (kq ≤ k) ∧ Aside0 (Kd.R (Kd.int .i64) 3 wc w.heap.size (fun k_ => some k_ ≠ ((.slice Ao13 t319.length co13) : Value).ownBlock) (.slice Ao8 t310.length co8) t310) ∧ Aside0 (Kd.R Kd.bool 4 wc w.heap.size (fun k_ => some k_ ≠ ((.slice Ao16 t322.length co16) : Value).ownBlock) (.slice Ao10 t313.length co10) t313) ∧ Aside0 (Kd.R (Kd.int .i64) 3 wc w.heap.size (fun k_ => some k_ ≠ ((.slice Ao8 t310.length co8) : Value).ownBlock) (.slice Ao13 t319.length co13) t319) ∧ Aside0 (Kd.R Kd.bool 4 wc w.heap.size (fun k_ => some k_ ≠ ((.slice Ao10 t313.length co10) : Value).ownBlock) (.slice Ao16 t322.length co16) t322) ∧ Aside0 (wc.heap[gb318]? = some (.cells #[(.slice Ao8 t310.length co8), (.slice Ao10 t313.length co10), .int .i64 t316] 65 (0, 0))) ∧ Aside0 (wc.heap[gb327]? = some (.cells #[(.slice Ao13 t319.length co13), (.slice Ao16 t322.length co16), .int .i64 t325] 65 (0, 0))) ∧ Aside0 (Below w.heap.size w wc))
  case first =>
   have H := HC5.out
   clear HC5
   replace H := Option.bind_eq_some_iff.mp H
   obtain ⟨t328, A170, H⟩ := H
   replace H : (if t328 = true then (laws_FnExactParseCrew.j0 k a0 t317 (t326 != t317) t310 t313 t316 t319 t322 t325) else (laws_FnExactParseCrew.j0 k a0 t317 true t310 t313 t316 t319 t322 t325)) = some r := H
   have A17 := Aside0.mk A170
   clear A170
   by_cases c18 : t328 = true
   ·
    subst c18
    have H1 : (laws_FnExactParseCrew.j0 k a0 t317 (t326 != t317) t310 t313 t316 t319 t322 t325) = some r := by rw [if_pos rfl] at H; exact H
    clear H
    have H := H1
    clear H1
    have H' := Aside0.mk H
    clear H
    have hnb19 := NB327_318.out
    have hnc19 := NB318_327.out
    have hcz20_0 : w12.cell? ⟨gb327, 0, none⟩ = some (.slice none 0 0) := (blk_cell BK327.out 0).trans rfl
    have hcz20_1 : w12.cell? ⟨gb327, 1, none⟩ = some (.slice none 0 0) := (blk_cell BK327.out 1).trans rfl
    have hcz20_2 : w12.cell? ⟨gb327, 2, none⟩ = some (.int .i64 0) := (blk_cell BK327.out 2).trans rfl
    have hfz20_0 := blk_frozen BK327.out 0
    have hfz20_1 := blk_frozen BK327.out 1
    have hfz20_2 := blk_frozen BK327.out 2
    have hcz21_0 : w12.cell? ⟨gb318, 0, none⟩ = some (.slice Ao8 t310.length co8) := (blk_cell BK318.out 0).trans rfl
    have hcz21_1 : w12.cell? ⟨gb318, 1, none⟩ = some (.slice Ao10 t313.length co10) := (blk_cell BK318.out 1).trans rfl
    have hcz21_2 : w12.cell? ⟨gb318, 2, none⟩ = some (.int .i64 t316) := (blk_cell BK318.out 2).trans rfl
    have hfz21_0 := blk_frozen BK318.out 0
    have hfz21_1 := blk_frozen BK318.out 1
    have hfz21_2 := blk_frozen BK318.out 2
    go_wp2_with (first | ((with_reducible refine gate_callee (f := 37) rfl ?_); refine goesL_ (some 26) rfl rfl Tryd.func37 (by kernel_rfl) rfl #[.agg #[.slice Ao13 t319.length co13, .slice Ao16 t322.length co16, .int .i64 t325], .agg #[.slice Ao8 t310.length co8, .slice Ao10 t313.length co10, .int .i64 t316]] rfl (by (try simp only [List.map_toArray, List.map_cons, List.map_nil]); first | done | rfl | (simp only [List.length_drop, List.length_take]; rfl)) ?_; (with_reducible refine (laws_eqCrew.calls k _ _ t319 _ _ t322 t325 _ _ t310 _ _ t313 t316 true _ ?side1 ?side2 ?side3 ?side4 ?side5 ?side6 ?side7 ?side8 A17.out).mono ?_); (case side1 => refine (Kd.R_reads' (e := 3) (base := w.heap.size) (ok := fun k_ => (True ∧ some k_ ≠ (.slice Ao8 t310.length co8 : Value).ownBlock)) (n := t319.length) (c := co13) ?_).2.2; exact (by (with_reducible repeat (first | apply Kd.R_alloc | apply Kd.R_drewN | apply Kd.R_drew)); exact (Kd.R_mono (Kd.R_far (p := ⟨gb327, 2, none⟩) (Kd.R_far (p := ⟨gb327, 1, none⟩) (Kd.R_far (p := ⟨gb327, 0, none⟩) (Kd.R_types HO321.out BK327.out (by decide)) (fun _ hk => hk.2) (.slice Ao13 t319.length co13)) (fun _ hk => hk.2) (.slice Ao16 t322.length co16)) (fun _ hk => hk.2) (.int .i64 t325)) (fun _ h_ => h_.1)))); (case side2 => exact (Kd.R_reads' HO321.out).2.1); (case side3 => refine (Kd.R_reads' (e := 4) (base := w.heap.size) (ok := fun k_ => (True ∧ some k_ ≠ (.slice Ao10 t313.length co10 : Value).ownBlock)) (n := t322.length) (c := co16) ?_).2.2; exact (by (with_reducible repeat (first | apply Kd.R_alloc | apply Kd.R_drewN | apply Kd.R_drew)); exact (Kd.R_mono (Kd.R_far (p := ⟨gb327, 2, none⟩) (Kd.R_far (p := ⟨gb327, 1, none⟩) (Kd.R_far (p := ⟨gb327, 0, none⟩) (Kd.R_types HO324.out BK327.out (by decide)) (fun _ hk => hk.2) (.slice Ao13 t319.length co13)) (fun _ hk => hk.2) (.slice Ao16 t322.length co16)) (fun _ hk => hk.2) (.int .i64 t325)) (fun _ h_ => h_.1)))); (case side4 => exact (Kd.R_reads' HO324.out).2.1); (case side5 => refine (Kd.R_reads' (e := 3) (base := w.heap.size) (ok := fun k_ => (True ∧ some k_ ≠ (.slice Ao13 t319.length co13 : Value).ownBlock)) (n := t310.length) (c := co8) ?_).2.2; exact (by (with_reducible repeat (first | apply Kd.R_alloc | apply Kd.R_drewN | apply Kd.R_drew)); exact (Kd.R_mono (Kd.R_far (p := ⟨gb327, 2, none⟩) (Kd.R_far (p := ⟨gb327, 1, none⟩) (Kd.R_far (p := ⟨gb327, 0, none⟩) (Kd.R_types HO312.out BK327.out (by decide)) (fun _ hk => hk.2) (.slice Ao13 t319.length co13)) (fun _ hk => hk.2) (.slice Ao16 t322.length co16)) (fun _ hk => hk.2) (.int .i64 t325)) (fun _ h_ => h_.1)))); (case side6 => exact (Kd.R_reads' HO312.out).2.1); (case side7 => refine (Kd.R_reads' (e := 4) (base := w.heap.size) (ok := fun k_ => (True ∧ some k_ ≠ (.slice Ao16 t322.length co16 : Value).ownBlock)) (n := t313.length) (c := co10) ?_).2.2; exact (by (with_reducible repeat (first | apply Kd.R_alloc | apply Kd.R_drewN | apply Kd.R_drew)); exact (Kd.R_mono (Kd.R_far (p := ⟨gb327, 2, none⟩) (Kd.R_far (p := ⟨gb327, 1, none⟩) (Kd.R_far (p := ⟨gb327, 0, none⟩) (Kd.R_types HO315.out BK327.out (by decide)) (fun _ hk => hk.2) (.slice Ao13 t319.length co13)) (fun _ hk => hk.2) (.slice Ao16 t322.length co16)) (fun _ hk => hk.2) (.int .i64 t325)) (fun _ h_ => h_.1)))); (case side8 => exact (Kd.R_reads' HO315.out).2.1); rintro e w22 ⟨rfl, hb⟩; refine ⟨_, rfl, ?_⟩; have n0_ := Aside0.mk (Kd.R_below (by (with_reducible repeat (first | apply Kd.R_alloc | apply Kd.R_drewN | apply Kd.R_drew)); exact (Kd.R_mono (Kd.R_far (p := ⟨gb327, 2, none⟩) (Kd.R_far (p := ⟨gb327, 1, none⟩) (Kd.R_far (p := ⟨gb327, 0, none⟩) (Kd.R_types HO312.out BK327.out (by decide)) (fun _ hk => hk.2) (.slice Ao13 t319.length co13)) (fun _ hk => hk.2) (.slice Ao16 t322.length co16)) (fun _ hk => hk.2) (.int .i64 t325)) (fun _ h_ => h_.1))) hb); have n1_ := Aside0.mk (Kd.R_below (by (with_reducible repeat (first | apply Kd.R_alloc | apply Kd.R_drewN | apply Kd.R_drew)); exact (Kd.R_mono (Kd.R_far (p := ⟨gb327, 2, none⟩) (Kd.R_far (p := ⟨gb327, 1, none⟩) (Kd.R_far (p := ⟨gb327, 0, none⟩) (Kd.R_types HO315.out BK327.out (by decide)) (fun _ hk => hk.2) (.slice Ao13 t319.length co13)) (fun _ hk => hk.2) (.slice Ao16 t322.length co16)) (fun _ hk => hk.2) (.int .i64 t325)) (fun _ h_ => h_.1))) hb); have n2_ := Aside0.mk (Kd.R_below (by (with_reducible repeat (first | apply Kd.R_alloc | apply Kd.R_drewN | apply Kd.R_drew)); exact (Kd.R_mono (Kd.R_far (p := ⟨gb327, 2, none⟩) (Kd.R_far (p := ⟨gb327, 1, none⟩) (Kd.R_far (p := ⟨gb327, 0, none⟩) (Kd.R_types HO321.out BK327.out (by decide)) (fun _ hk => hk.2) (.slice Ao13 t319.length co13)) (fun _ hk => hk.2) (.slice Ao16 t322.length co16)) (fun _ hk => hk.2) (.int .i64 t325)) (fun _ h_ => h_.1))) hb); have n3_ := Aside0.mk (Kd.R_below (by (with_reducible repeat (first | apply Kd.R_alloc | apply Kd.R_drewN | apply Kd.R_drew)); exact (Kd.R_mono (Kd.R_far (p := ⟨gb327, 2, none⟩) (Kd.R_far (p := ⟨gb327, 1, none⟩) (Kd.R_far (p := ⟨gb327, 0, none⟩) (Kd.R_types HO324.out BK327.out (by decide)) (fun _ hk => hk.2) (.slice Ao13 t319.length co13)) (fun _ hk => hk.2) (.slice Ao16 t322.length co16)) (fun _ hk => hk.2) (.int .i64 t325)) (fun _ h_ => h_.1))) hb); have n4_ := Aside0.mk (blk_below (g := gb318) (o := .cells #[.slice Ao8 t310.length co8, .slice Ao10 t313.length co10, .int .i64 t316] 65 (0, 0)) (by (with_reducible repeat (first | refine blk_drewN ?_ _ | refine blk_drew ?_ | refine blk_alloc ?_ _)); refine blk_far ?_ NB318_327.out _; (with_reducible repeat (first | refine blk_drewN ?_ _ | refine blk_drew ?_ | refine blk_alloc ?_ _)); refine blk_far ?_ NB318_327.out _; (with_reducible repeat (first | refine blk_drewN ?_ _ | refine blk_drew ?_ | refine blk_alloc ?_ _)); refine blk_far ?_ NB318_327.out _; (with_reducible repeat (first | refine blk_drewN ?_ _ | refine blk_drew ?_ | refine blk_alloc ?_ _)); exact BK318.out) hb); have n5_ := Aside0.mk (blk_below (g := gb327) (o := .cells #[.slice Ao13 t319.length co13, .slice Ao16 t322.length co16, .int .i64 t325] 65 (0, 0)) (by (with_reducible repeat (first | refine blk_drewN ?_ _ | refine blk_drew ?_ | refine blk_alloc ?_ _)); refine blk_put (cs := #[.slice Ao13 t319.length co13, .slice Ao16 t322.length co16, .int .i64 0]) ?_ 2 _ rfl; (with_reducible repeat (first | refine blk_drewN ?_ _ | refine blk_drew ?_ | refine blk_alloc ?_ _)); refine blk_put (cs := #[.slice Ao13 t319.length co13, .slice none 0 0, .int .i64 0]) ?_ 1 _ rfl; (with_reducible repeat (first | refine blk_drewN ?_ _ | refine blk_drew ?_ | refine blk_alloc ?_ _)); refine blk_put (cs := #[.slice none 0 0, .slice none 0 0, .int .i64 0]) ?_ 0 _ rfl; (with_reducible repeat (first | refine blk_drewN ?_ _ | refine blk_drew ?_ | refine blk_alloc ?_ _)); exact BK327.out) hb); have n6_ := Aside0.mk (below_step (by repeat (first | (with_reducible first | exact HB.out | apply below_alloc | apply pw_below_drewN | apply below_drew1 | refine below_set ?_ (Aside0.out (by assumption))) | exact HB.out)) hb); clear HO312; clear HO315; clear HO321; clear HO324; clear BK318; clear BK327; clear HB; have HO312 := n0_; have HO315 := n1_; have HO321 := n2_; have HO324 := n3_; have BK318 := n4_; have BK327 := n5_; have HB := n6_; clear n0_ n1_ n2_ n3_ n4_ n5_ n6_; (try clear hb); (try clear hb2); (try clear hk); (try clear hi)))
    go_meet
    case rel => exact ⟨_, ((t326 != t317)), (by first | rfl | (simp; done) | (simp [*]; done)), H', ⟨by first | omega | exact Nat.le_refl _⟩, ⟨by (with_reducible repeat (first | apply Kd.R_alloc | apply Kd.R_drewN | apply Kd.R_drew)); exact Kd.R_mono HO312.out (fun _ hk => hk.2)⟩, ⟨by (with_reducible repeat (first | apply Kd.R_alloc | apply Kd.R_drewN | apply Kd.R_drew)); exact Kd.R_mono HO315.out (fun _ hk => hk.2)⟩, ⟨by (with_reducible repeat (first | apply Kd.R_alloc | apply Kd.R_drewN | apply Kd.R_drew)); exact Kd.R_mono HO321.out (fun _ hk => hk.2)⟩, ⟨by (with_reducible repeat (first | apply Kd.R_alloc | apply Kd.R_drewN | apply Kd.R_drew)); exact Kd.R_mono HO324.out (fun _ hk => hk.2)⟩, ⟨by (with_reducible repeat (first | refine blk_drewN ?_ _ | refine blk_drew ?_ | refine blk_alloc ?_ _)); exact BK318.out⟩, ⟨by (with_reducible repeat (first | refine blk_drewN ?_ _ | refine blk_drew ?_ | refine blk_alloc ?_ _)); exact BK327.out⟩, ⟨by repeat (first | (with_reducible first | exact HB.out | apply below_alloc | apply pw_below_drewN | apply below_drew1 | refine below_set ?_ (Aside0.out (by assumption))) | exact HB.out)⟩⟩
   ·
    replace c18 := Bool.eq_false_iff.mpr c18
    subst c18
    have H1 : (laws_FnExactParseCrew.j0 k a0 t317 true t310 t313 t316 t319 t322 t325) = some r := by rw [if_neg (show ¬ (false = true) by decide)] at H; exact H
    clear H
    have H := H1
    clear H1
    have H' := Aside0.mk H
    clear H
    have hnb23 := NB327_318.out
    have hnc23 := NB318_327.out
    have hcz24_0 : w12.cell? ⟨gb327, 0, none⟩ = some (.slice none 0 0) := (blk_cell BK327.out 0).trans rfl
    have hcz24_1 : w12.cell? ⟨gb327, 1, none⟩ = some (.slice none 0 0) := (blk_cell BK327.out 1).trans rfl
    have hcz24_2 : w12.cell? ⟨gb327, 2, none⟩ = some (.int .i64 0) := (blk_cell BK327.out 2).trans rfl
    have hfz24_0 := blk_frozen BK327.out 0
    have hfz24_1 := blk_frozen BK327.out 1
    have hfz24_2 := blk_frozen BK327.out 2
    have hcz25_0 : w12.cell? ⟨gb318, 0, none⟩ = some (.slice Ao8 t310.length co8) := (blk_cell BK318.out 0).trans rfl
    have hcz25_1 : w12.cell? ⟨gb318, 1, none⟩ = some (.slice Ao10 t313.length co10) := (blk_cell BK318.out 1).trans rfl
    have hcz25_2 : w12.cell? ⟨gb318, 2, none⟩ = some (.int .i64 t316) := (blk_cell BK318.out 2).trans rfl
    have hfz25_0 := blk_frozen BK318.out 0
    have hfz25_1 := blk_frozen BK318.out 1
    have hfz25_2 := blk_frozen BK318.out 2
    go_wp2_with (first | ((with_reducible refine gate_callee (f := 37) rfl ?_); refine goesL_ (some 26) rfl rfl Tryd.func37 (by kernel_rfl) rfl #[.agg #[.slice Ao13 t319.length co13, .slice Ao16 t322.length co16, .int .i64 t325], .agg #[.slice Ao8 t310.length co8, .slice Ao10 t313.length co10, .int .i64 t316]] rfl (by (try simp only [List.map_toArray, List.map_cons, List.map_nil]); first | done | rfl | (simp only [List.length_drop, List.length_take]; rfl)) ?_; (with_reducible refine (laws_eqCrew.calls k _ _ t319 _ _ t322 t325 _ _ t310 _ _ t313 t316 false _ ?side1 ?side2 ?side3 ?side4 ?side5 ?side6 ?side7 ?side8 A17.out).mono ?_); (case side1 => refine (Kd.R_reads' (e := 3) (base := w.heap.size) (ok := fun k_ => (True ∧ some k_ ≠ (.slice Ao8 t310.length co8 : Value).ownBlock)) (n := t319.length) (c := co13) ?_).2.2; exact (by (with_reducible repeat (first | apply Kd.R_alloc | apply Kd.R_drewN | apply Kd.R_drew)); exact (Kd.R_mono (Kd.R_far (p := ⟨gb327, 2, none⟩) (Kd.R_far (p := ⟨gb327, 1, none⟩) (Kd.R_far (p := ⟨gb327, 0, none⟩) (Kd.R_types HO321.out BK327.out (by decide)) (fun _ hk => hk.2) (.slice Ao13 t319.length co13)) (fun _ hk => hk.2) (.slice Ao16 t322.length co16)) (fun _ hk => hk.2) (.int .i64 t325)) (fun _ h_ => h_.1)))); (case side2 => exact (Kd.R_reads' HO321.out).2.1); (case side3 => refine (Kd.R_reads' (e := 4) (base := w.heap.size) (ok := fun k_ => (True ∧ some k_ ≠ (.slice Ao10 t313.length co10 : Value).ownBlock)) (n := t322.length) (c := co16) ?_).2.2; exact (by (with_reducible repeat (first | apply Kd.R_alloc | apply Kd.R_drewN | apply Kd.R_drew)); exact (Kd.R_mono (Kd.R_far (p := ⟨gb327, 2, none⟩) (Kd.R_far (p := ⟨gb327, 1, none⟩) (Kd.R_far (p := ⟨gb327, 0, none⟩) (Kd.R_types HO324.out BK327.out (by decide)) (fun _ hk => hk.2) (.slice Ao13 t319.length co13)) (fun _ hk => hk.2) (.slice Ao16 t322.length co16)) (fun _ hk => hk.2) (.int .i64 t325)) (fun _ h_ => h_.1)))); (case side4 => exact (Kd.R_reads' HO324.out).2.1); (case side5 => refine (Kd.R_reads' (e := 3) (base := w.heap.size) (ok := fun k_ => (True ∧ some k_ ≠ (.slice Ao13 t319.length co13 : Value).ownBlock)) (n := t310.length) (c := co8) ?_).2.2; exact (by (with_reducible repeat (first | apply Kd.R_alloc | apply Kd.R_drewN | apply Kd.R_drew)); exact (Kd.R_mono (Kd.R_far (p := ⟨gb327, 2, none⟩) (Kd.R_far (p := ⟨gb327, 1, none⟩) (Kd.R_far (p := ⟨gb327, 0, none⟩) (Kd.R_types HO312.out BK327.out (by decide)) (fun _ hk => hk.2) (.slice Ao13 t319.length co13)) (fun _ hk => hk.2) (.slice Ao16 t322.length co16)) (fun _ hk => hk.2) (.int .i64 t325)) (fun _ h_ => h_.1)))); (case side6 => exact (Kd.R_reads' HO312.out).2.1); (case side7 => refine (Kd.R_reads' (e := 4) (base := w.heap.size) (ok := fun k_ => (True ∧ some k_ ≠ (.slice Ao16 t322.length co16 : Value).ownBlock)) (n := t313.length) (c := co10) ?_).2.2; exact (by (with_reducible repeat (first | apply Kd.R_alloc | apply Kd.R_drewN | apply Kd.R_drew)); exact (Kd.R_mono (Kd.R_far (p := ⟨gb327, 2, none⟩) (Kd.R_far (p := ⟨gb327, 1, none⟩) (Kd.R_far (p := ⟨gb327, 0, none⟩) (Kd.R_types HO315.out BK327.out (by decide)) (fun _ hk => hk.2) (.slice Ao13 t319.length co13)) (fun _ hk => hk.2) (.slice Ao16 t322.length co16)) (fun _ hk => hk.2) (.int .i64 t325)) (fun _ h_ => h_.1)))); (case side8 => exact (Kd.R_reads' HO315.out).2.1); rintro e w26 ⟨rfl, hb⟩; refine ⟨_, rfl, ?_⟩; have n0_ := Aside0.mk (Kd.R_below (by (with_reducible repeat (first | apply Kd.R_alloc | apply Kd.R_drewN | apply Kd.R_drew)); exact (Kd.R_mono (Kd.R_far (p := ⟨gb327, 2, none⟩) (Kd.R_far (p := ⟨gb327, 1, none⟩) (Kd.R_far (p := ⟨gb327, 0, none⟩) (Kd.R_types HO312.out BK327.out (by decide)) (fun _ hk => hk.2) (.slice Ao13 t319.length co13)) (fun _ hk => hk.2) (.slice Ao16 t322.length co16)) (fun _ hk => hk.2) (.int .i64 t325)) (fun _ h_ => h_.1))) hb); have n1_ := Aside0.mk (Kd.R_below (by (with_reducible repeat (first | apply Kd.R_alloc | apply Kd.R_drewN | apply Kd.R_drew)); exact (Kd.R_mono (Kd.R_far (p := ⟨gb327, 2, none⟩) (Kd.R_far (p := ⟨gb327, 1, none⟩) (Kd.R_far (p := ⟨gb327, 0, none⟩) (Kd.R_types HO315.out BK327.out (by decide)) (fun _ hk => hk.2) (.slice Ao13 t319.length co13)) (fun _ hk => hk.2) (.slice Ao16 t322.length co16)) (fun _ hk => hk.2) (.int .i64 t325)) (fun _ h_ => h_.1))) hb); have n2_ := Aside0.mk (Kd.R_below (by (with_reducible repeat (first | apply Kd.R_alloc | apply Kd.R_drewN | apply Kd.R_drew)); exact (Kd.R_mono (Kd.R_far (p := ⟨gb327, 2, none⟩) (Kd.R_far (p := ⟨gb327, 1, none⟩) (Kd.R_far (p := ⟨gb327, 0, none⟩) (Kd.R_types HO321.out BK327.out (by decide)) (fun _ hk => hk.2) (.slice Ao13 t319.length co13)) (fun _ hk => hk.2) (.slice Ao16 t322.length co16)) (fun _ hk => hk.2) (.int .i64 t325)) (fun _ h_ => h_.1))) hb); have n3_ := Aside0.mk (Kd.R_below (by (with_reducible repeat (first | apply Kd.R_alloc | apply Kd.R_drewN | apply Kd.R_drew)); exact (Kd.R_mono (Kd.R_far (p := ⟨gb327, 2, none⟩) (Kd.R_far (p := ⟨gb327, 1, none⟩) (Kd.R_far (p := ⟨gb327, 0, none⟩) (Kd.R_types HO324.out BK327.out (by decide)) (fun _ hk => hk.2) (.slice Ao13 t319.length co13)) (fun _ hk => hk.2) (.slice Ao16 t322.length co16)) (fun _ hk => hk.2) (.int .i64 t325)) (fun _ h_ => h_.1))) hb); have n4_ := Aside0.mk (blk_below (g := gb318) (o := .cells #[.slice Ao8 t310.length co8, .slice Ao10 t313.length co10, .int .i64 t316] 65 (0, 0)) (by (with_reducible repeat (first | refine blk_drewN ?_ _ | refine blk_drew ?_ | refine blk_alloc ?_ _)); refine blk_far ?_ NB318_327.out _; (with_reducible repeat (first | refine blk_drewN ?_ _ | refine blk_drew ?_ | refine blk_alloc ?_ _)); refine blk_far ?_ NB318_327.out _; (with_reducible repeat (first | refine blk_drewN ?_ _ | refine blk_drew ?_ | refine blk_alloc ?_ _)); refine blk_far ?_ NB318_327.out _; (with_reducible repeat (first | refine blk_drewN ?_ _ | refine blk_drew ?_ | refine blk_alloc ?_ _)); exact BK318.out) hb); have n5_ := Aside0.mk (blk_below (g := gb327) (o := .cells #[.slice Ao13 t319.length co13, .slice Ao16 t322.length co16, .int .i64 t325] 65 (0, 0)) (by (with_reducible repeat (first | refine blk_drewN ?_ _ | refine blk_drew ?_ | refine blk_alloc ?_ _)); refine blk_put (cs := #[.slice Ao13 t319.length co13, .slice Ao16 t322.length co16, .int .i64 0]) ?_ 2 _ rfl; (with_reducible repeat (first | refine blk_drewN ?_ _ | refine blk_drew ?_ | refine blk_alloc ?_ _)); refine blk_put (cs := #[.slice Ao13 t319.length co13, .slice none 0 0, .int .i64 0]) ?_ 1 _ rfl; (with_reducible repeat (first | refine blk_drewN ?_ _ | refine blk_drew ?_ | refine blk_alloc ?_ _)); refine blk_put (cs := #[.slice none 0 0, .slice none 0 0, .int .i64 0]) ?_ 0 _ rfl; (with_reducible repeat (first | refine blk_drewN ?_ _ | refine blk_drew ?_ | refine blk_alloc ?_ _)); exact BK327.out) hb); have n6_ := Aside0.mk (below_step (by repeat (first | (with_reducible first | exact HB.out | apply below_alloc | apply pw_below_drewN | apply below_drew1 | refine below_set ?_ (Aside0.out (by assumption))) | exact HB.out)) hb); clear HO312; clear HO315; clear HO321; clear HO324; clear BK318; clear BK327; clear HB; have HO312 := n0_; have HO315 := n1_; have HO321 := n2_; have HO324 := n3_; have BK318 := n4_; have BK327 := n5_; have HB := n6_; clear n0_ n1_ n2_ n3_ n4_ n5_ n6_; (try clear hb); (try clear hb2); (try clear hk); (try clear hi)))
    go_meet
    case rel => exact ⟨_, (true), (by first | rfl | (simp; done) | (simp [*]; done)), H', ⟨by first | omega | exact Nat.le_refl _⟩, ⟨by (with_reducible repeat (first | apply Kd.R_alloc | apply Kd.R_drewN | apply Kd.R_drew)); exact Kd.R_mono HO312.out (fun _ hk => hk.2)⟩, ⟨by (with_reducible repeat (first | apply Kd.R_alloc | apply Kd.R_drewN | apply Kd.R_drew)); exact Kd.R_mono HO315.out (fun _ hk => hk.2)⟩, ⟨by (with_reducible repeat (first | apply Kd.R_alloc | apply Kd.R_drewN | apply Kd.R_drew)); exact Kd.R_mono HO321.out (fun _ hk => hk.2)⟩, ⟨by (with_reducible repeat (first | apply Kd.R_alloc | apply Kd.R_drewN | apply Kd.R_drew)); exact Kd.R_mono HO324.out (fun _ hk => hk.2)⟩, ⟨by (with_reducible repeat (first | refine blk_drewN ?_ _ | refine blk_drew ?_ | refine blk_alloc ?_ _)); exact BK318.out⟩, ⟨by (with_reducible repeat (first | refine blk_drewN ?_ _ | refine blk_drew ?_ | refine blk_alloc ?_ _)); exact BK327.out⟩, ⟨by repeat (first | (with_reducible first | exact HB.out | apply below_alloc | apply pw_below_drewN | apply below_drew1 | refine below_set ?_ (Aside0.out (by assumption))) | exact HB.out)⟩⟩
  case rest =>
   clear HC5
   try clear c1
   try clear c2
   try clear c2b0
   try clear c2b1
   try clear p2
   try clear c3
   try clear c5
   try clear c12
   try clear c14
   try clear c18
   try clear c19
   try clear c23
   try clear hcz15_0
   try clear hcz15_1
   try clear hcz15_2
   try clear hcz20_0
   try clear hcz20_1
   try clear hcz20_2
   try clear hcz21_0
   try clear hcz21_1
   try clear hcz21_2
   try clear hcz24_0
   try clear hcz24_1
   try clear hcz24_2
   try clear hcz25_0
   try clear hcz25_1
   try clear hcz25_2
   try clear hcz9_0
   try clear hcz9_1
   try clear hcz9_2
   try clear hfz15_0
   try clear hfz15_1
   try clear hfz15_2
   try clear hfz20_0
   try clear hfz20_1
   try clear hfz20_2
   try clear hfz21_0
   try clear hfz21_1
   try clear hfz21_2
   try clear hfz24_0
   try clear hfz24_1
   try clear hfz24_2
   try clear hfz25_0
   try clear hfz25_1
   try clear hfz25_2
   try clear hfz9_0
   try clear hfz9_1
   try clear hfz9_2
   obtain ⟨kq, x32_4, rfl, HA, HJ4, HO_319000, HO_319001, HO_328000, HO_328001, BK318, BK327, HB⟩ := hcut
   cases kq with
   | zero => exact absurd HA.out (by simp [laws_FnExactParseCrew.j0])
   | succ kj4 =>
    have H := HA.out
    clear HA
    simp only [laws_FnExactParseCrew.j0] at H
    by_cases c27 : x32_4 = true
    ·
     subst c27
     have H1 : (none) = some r := by rw [if_pos rfl] at H; exact H
     clear H
     have H := H1
     clear H1
     exact absurd H (by simp)
    ·
     replace c27 := Bool.eq_false_iff.mpr c27
     subst c27
     have H1 : ((laws_markCrew.f kj4 t319 t322 t325 1).bind fun bt329 => ((laws_heldCrew.f kj4 bt329.2.1 bt329.2.2 t325 1).bind fun t332 => (if t332 < 0 then (none) else (if t332 = bt329.1 then ((impl_ParseCrew.f kj4 a0).bind fun bt333 => ((laws_eqCrew.f kj4 bt333.1 bt333.2.1 bt333.2.2.1 t310 t313 t316).bind fun t342 => (if t342 = true then (laws_FnExactParseCrew.j1 kj4 bt329.1 (bt333.2.2.2 != t317) bt329.2.1 bt329.2.2 t325) else (laws_FnExactParseCrew.j1 kj4 bt329.1 true bt329.2.1 bt329.2.2 t325)))) else (none))))) = some r := by rw [if_neg (show ¬ (false = true) by decide)] at H; exact H
     clear H
     have H := H1
     clear H1
     replace H := Option.bind_eq_some_iff.mp H
     obtain ⟨⟨t329, t330, t331⟩, A280, H⟩ := H
     replace H : ((laws_heldCrew.f kj4 t330 t331 t325 1).bind fun t332 => (if t332 < 0 then (none) else (if t332 = t329 then ((impl_ParseCrew.f kj4 a0).bind fun bt333 => ((laws_eqCrew.f kj4 bt333.1 bt333.2.1 bt333.2.2.1 t310 t313 t316).bind fun t342 => (if t342 = true then (laws_FnExactParseCrew.j1 kj4 t329 (bt333.2.2.2 != t317) t330 t331 t325) else (laws_FnExactParseCrew.j1 kj4 t329 true t330 t331 t325)))) else (none)))) = some r := H
     have A28 := Aside0.mk A280
     clear A280
     replace H := Option.bind_eq_some_iff.mp H
     obtain ⟨t332, A290, H⟩ := H
     replace H : (if t332 < 0 then (none) else (if t332 = t329 then ((impl_ParseCrew.f kj4 a0).bind fun bt333 => ((laws_eqCrew.f kj4 bt333.1 bt333.2.1 bt333.2.2.1 t310 t313 t316).bind fun t342 => (if t342 = true then (laws_FnExactParseCrew.j1 kj4 t329 (bt333.2.2.2 != t317) t330 t331 t325) else (laws_FnExactParseCrew.j1 kj4 t329 true t330 t331 t325)))) else (none))) = some r := H
     have A29 := Aside0.mk A290
     clear A290
     by_cases c30 : t332 < 0
     ·
      rw [if_pos c30] at H
      exact absurd H (by simp)
     ·
      rw [if_neg c30] at H
      have c30b0 : decide (t332 < 0) = false := decide_eq_false c30
      clear c30
      by_cases c31 : t332 = t329
      ·
       rw [if_pos c31] at H
       have c31b0 : (t332 == t329) = true := beq_iff_eq.mpr c31
       have c31b1 : (t332 != t329) = false := bne_eq_false_iff_eq.mpr c31
       clear c31
       replace H := Option.bind_eq_some_iff.mp H
       obtain ⟨⟨t333, t336, t339, t340⟩, A320, H⟩ := H
       replace H : ((laws_eqCrew.f kj4 t333 t336 t339 t310 t313 t316).bind fun t342 => (if t342 = true then (laws_FnExactParseCrew.j1 kj4 t329 (t340 != t317) t330 t331 t325) else (laws_FnExactParseCrew.j1 kj4 t329 true t330 t331 t325))) = some r := H
       have A32 := Aside0.mk A320
       clear A320
       have HC33 := Aside0.mk H
       clear H
       have hnb34 := NB327_318.out
       have hnc34 := NB318_327.out
       have hcz35_0 : wc.cell? ⟨gb327, 0, none⟩ = some (.slice Ao13 t319.length co13) := (blk_cell BK327.out 0).trans rfl
       have hcz35_1 : wc.cell? ⟨gb327, 1, none⟩ = some (.slice Ao16 t322.length co16) := (blk_cell BK327.out 1).trans rfl
       have hcz35_2 : wc.cell? ⟨gb327, 2, none⟩ = some (.int .i64 t325) := (blk_cell BK327.out 2).trans rfl
       have hfz35_0 := blk_frozen BK327.out 0
       have hfz35_1 := blk_frozen BK327.out 1
       have hfz35_2 := blk_frozen BK327.out 2
       go_upto_region 16 with (first | ((with_reducible refine gate_callee (f := 56) rfl ?_); refine goesL_ (some 35) rfl rfl Tryd.func56 (by kernel_rfl) rfl #[.agg #[.slice Ao13 t319.length co13, .slice Ao16 t322.length co16, .int .i64 t325], .int .i64 1] rfl (by (try simp only [List.map_toArray, List.map_cons, List.map_nil]); first | done | rfl | (simp only [List.length_drop, List.length_take]; rfl)) ?_; (with_reducible refine (laws_markCrew.calls kj4 (fun k_ => some k_ = (.slice Ao13 t319.length co13 : Value).ownBlock) (.slice Ao13 t319.length co13) t319 (fun k_ => some k_ = (.slice Ao16 t322.length co16 : Value).ownBlock) (.slice Ao16 t322.length co16) t322 t325 1 t329 t330 t331 w _ ?side1 ?side2 ?side3 A28.out).mono ?_); (case side1 => repeat (first | (with_reducible first | exact HB.out | apply below_alloc | apply pw_below_drewN | apply below_drew1 | refine below_set ?_ (Aside0.out (by assumption))) | exact HB.out)); (case side2 => exact Kd.R_tight rfl HO_328000.out); (case side3 => exact Kd.R_tight rfl HO_328001.out); rintro e w36 ⟨rfl, hy0, hy1, hb, hkp⟩; refine ⟨_, rfl, ?_⟩; have n0_ := Aside0.mk (Kd.R_mono (ok' := fun k_ => some k_ ≠ (.slice Ao13 t319.length co13 : Value).ownBlock) (Kd.R_keptB ((Kd.R_apart' HO_319000.out (Kd.R_typed HO_328001.out) (by decide))) hkp (fun k_ hk_ hs_ => Or.elim hs_ (fun e_ => (hk_.1) e_) (fun e_ => (hk_.2) e_))) (fun k_ hk_ => hk_.1.1)); have n1_ := Aside0.mk (Kd.R_mono (ok' := fun k_ => some k_ ≠ (.slice Ao16 t322.length co16 : Value).ownBlock) (Kd.R_keptB ((Kd.R_apart' HO_319001.out (Kd.R_typed HO_328000.out) (by decide))) hkp (fun k_ hk_ hs_ => Or.elim hs_ (fun e_ => (hk_.2) e_) (fun e_ => (hk_.1) e_))) (fun k_ hk_ => hk_.1.1)); have n2_ := Aside0.mk (Kd.R_reok rfl hy0 (fun k_ e_ => HO_328000.out.1 k_ e_)); have n3_ := Aside0.mk (Kd.R_reok rfl hy1 (fun k_ e_ => HO_328001.out.1 k_ e_)); have n4_ := Aside0.mk (blk_kept (pk BK318.out) hkp (fun hs_ => Or.elim hs_ (fun e_ => (fun e_ => (Kd.R_ne HO_328000.out BK318.out (by decide)) e_) e_) (fun e_ => (fun e_ => (Kd.R_ne HO_328001.out BK318.out (by decide)) e_) e_))); have n5_ := Aside0.mk (blk_kept (pk BK327.out) hkp (fun hs_ => Or.elim hs_ (fun e_ => (fun e_ => (Kd.R_ne HO_328000.out BK327.out (by decide)) e_) e_) (fun e_ => (fun e_ => (Kd.R_ne HO_328001.out BK327.out (by decide)) e_) e_))); have n6_ := Aside0.mk (hb); clear HO_319000; clear HO_319001; clear HO_328000; clear HO_328001; clear BK318; clear BK327; clear HB; have HO_319000 := n0_; have HO_319001 := n1_; have HO_328000 := n2_; have HO_328001 := n3_; have BK318 := n4_; have BK327 := n5_; have HB := n6_; clear n0_ n1_ n2_ n3_ n4_ n5_ n6_; (try clear hb); (try clear hkp); (try clear hy0); (try clear hy1); have hcz37_0 : w36.cell? ⟨gb327, 0, none⟩ = some (.slice Ao13 t319.length co13) := (blk_cell BK327.out 0).trans rfl; have hcz37_1 : w36.cell? ⟨gb327, 1, none⟩ = some (.slice Ao16 t322.length co16) := (blk_cell BK327.out 1).trans rfl; have hcz37_2 : w36.cell? ⟨gb327, 2, none⟩ = some (.int .i64 t325) := (blk_cell BK327.out 2).trans rfl; have hfz37_0 := blk_frozen BK327.out 0; have hfz37_1 := blk_frozen BK327.out 1; have hfz37_2 := blk_frozen BK327.out 2) | ((with_reducible refine gate_callee (f := 57) rfl ?_); refine goesL_ (some 38) rfl rfl Tryd.func57 (by kernel_rfl) rfl #[.agg #[.slice Ao13 t330.length co13, .slice Ao16 t331.length co16, .int .i64 t325], .int .i64 1] rfl (by (try simp only [List.map_toArray, List.map_cons, List.map_nil]); first | done | (rw [show t330.length = t319.length from (Kd.R_reads' HO_328000.out).1.symm, show t331.length = t322.length from (Kd.R_reads' HO_328001.out).1.symm] <;> rfl) | rfl | (simp only [List.length_drop, List.length_take]; rfl)) ?_; (with_reducible refine (laws_heldCrew.calls kj4 _ _ t330 _ _ t331 t325 1 t332 _ ?side1 ?side2 ?side3 ?side4 A29.out).mono ?_); (case side1 => repeat (first | exact (Kd.R_reads' HO_328000.out).2.2 | (with_reducible refine Kd.C_alloc ?_ _) | (with_reducible refine Kd.C_drewN ?_ _) | (with_reducible refine Kd.C_drew ?_))); (case side2 => rw [show t330.length = t319.length from (Kd.R_reads' HO_328000.out).1.symm]; exact (Kd.R_reads' HO_328000.out).2.1); (case side3 => repeat (first | exact (Kd.R_reads' HO_328001.out).2.2 | (with_reducible refine Kd.C_alloc ?_ _) | (with_reducible refine Kd.C_drewN ?_ _) | (with_reducible refine Kd.C_drew ?_))); (case side4 => rw [show t331.length = t322.length from (Kd.R_reads' HO_328001.out).1.symm]; exact (Kd.R_reads' HO_328001.out).2.1); rintro e w38 ⟨rfl, hb⟩; refine ⟨_, rfl, ?_⟩; have n0_ := Aside0.mk (Kd.R_below (Kd.pR HO_319000.out) hb); have n1_ := Aside0.mk (Kd.R_below (Kd.pR HO_319001.out) hb); have n2_ := Aside0.mk (Kd.R_below (Kd.pR HO_328000.out) hb); have n3_ := Aside0.mk (Kd.R_below (Kd.pR HO_328001.out) hb); have n4_ := Aside0.mk (blk_below (pk BK318.out) hb); have n5_ := Aside0.mk (blk_below (pk BK327.out) hb); have n6_ := Aside0.mk (below_step (by repeat (first | (with_reducible first | exact HB.out | apply below_alloc | apply pw_below_drewN | apply below_drew1 | refine below_set ?_ (Aside0.out (by assumption))) | exact HB.out)) hb); clear HO_319000; clear HO_319001; clear HO_328000; clear HO_328001; clear BK318; clear BK327; clear HB; have HO_319000 := n0_; have HO_319001 := n1_; have HO_328000 := n2_; have HO_328001 := n3_; have BK318 := n4_; have BK327 := n5_; have HB := n6_; clear n0_ n1_ n2_ n3_ n4_ n5_ n6_; (try clear hb); (try clear hb2); (try clear hk); (try clear hi)) | ((with_reducible refine gate_callee (f := 55) rfl ?_); refine goesL_ (some 46) rfl rfl Tryd.func55 (by kernel_rfl) rfl #[.string a0] rfl (by (try simp only [List.map_toArray, List.map_cons, List.map_nil]); first | done | rfl | (simp only [List.length_drop, List.length_take]; rfl)) ?_; (with_reducible refine (impl_ParseCrew.calls kj4 a0 t333 t336 t339 t340 _ A32.out (Tab.up HT.out (by repeat (first | exact Below.refl _ _ | (with_reducible first | exact HB.out | apply below_alloc | apply pw_below_drewN | apply below_drew1 | refine below_set ?_ (Aside0.out (by assumption))) | exact HB.out)))).mono ?_); rintro e w39 ⟨v334, v337, rfl, ho0, ho1, hb⟩; refine ⟨_, rfl, ?_⟩; have n0_ := Aside0.mk (Kd.R_elder' (Kd.pR HO_319000.out) (Kd.R_base ho0) hb); have n1_ := Aside0.mk (Kd.R_elder' (Kd.pR HO_319001.out) (Kd.R_base ho1) hb); have n2_ := Aside0.mk (Kd.R_elder' (Kd.pR HO_328000.out) (Kd.R_base ho0) hb); have n3_ := Aside0.mk (Kd.R_elder' (Kd.pR HO_328001.out) (Kd.R_base ho1) hb); have n4_ := Aside0.mk (Kd.R_lower (Kd.R_new' (Kd.R_new' ho0 (Kd.R_lt (Kd.pR HO_319000.out))) (Kd.R_lt (Kd.pR HO_328000.out))) (below_size (by repeat (first | (with_reducible first | exact HB.out | apply below_alloc | apply pw_below_drewN | apply below_drew1 | refine below_set ?_ (Aside0.out (by assumption))) | exact HB.out)))); have n5_ := Aside0.mk (Kd.R_lower (Kd.R_new' (Kd.R_new' ho1 (Kd.R_lt (Kd.pR HO_319001.out))) (Kd.R_lt (Kd.pR HO_328001.out))) (below_size (by repeat (first | (with_reducible first | exact HB.out | apply below_alloc | apply pw_below_drewN | apply below_drew1 | refine below_set ?_ (Aside0.out (by assumption))) | exact HB.out)))); have n6_ := Aside0.mk (blk_below (pk BK318.out) hb); have n7_ := Aside0.mk (blk_below (pk BK327.out) hb); have n8_ := Aside0.mk (below_step (by repeat (first | (with_reducible first | exact HB.out | apply below_alloc | apply pw_below_drewN | apply below_drew1 | refine below_set ?_ (Aside0.out (by assumption))) | exact HB.out)) hb); clear HO_319000; clear HO_319001; clear HO_328000; clear HO_328001; clear BK318; clear BK327; clear HB; have HO_319000 := n0_; have HO_319001 := n1_; have HO_328000 := n2_; have HO_328001 := n3_; have HO335 := n4_; have HO338 := n5_; have BK318 := n6_; have BK327 := n7_; have HB := n8_; clear n0_ n1_ n2_ n3_ n4_ n5_ n6_ n7_ n8_; (try clear hb); (try clear hb2); (try clear hk); (try clear hi); (try clear ho0); (try clear ho1)) | ((with_reducible refine gate_dst (N := 9) rfl ?_); refine box_event ?hg (N := 9) ?hd (cs := #[.slice none 0 0, .slice none 0 0, .int .i64 0]) (t := 65) ?hr ?_; (case hd => rfl); (case hg => rfl); (case hr => first | (go_simp; done) | (go_simp; rfl)); intro gb341 hg w40 hbox hb; have n0_ := Aside0.mk (Kd.R_below (Kd.pR HO_319000.out) hb); have n1_ := Aside0.mk (Kd.R_below (Kd.pR HO_319001.out) hb); have n2_ := Aside0.mk (Kd.R_below (Kd.pR HO_328000.out) hb); have n3_ := Aside0.mk (Kd.R_below (Kd.pR HO_328001.out) hb); have n4_ := Aside0.mk (Kd.R_below (Kd.pR HO335.out) hb); have n5_ := Aside0.mk (Kd.R_below (Kd.pR HO338.out) hb); have n6_ := Aside0.mk (blk_below (pk BK318.out) hb); have n7_ := Aside0.mk (blk_below (pk BK327.out) hb); have n8_ := Aside0.mk (below_step (by repeat (first | (with_reducible first | exact HB.out | apply below_alloc | apply pw_below_drewN | apply below_drew1 | refine below_set ?_ (Aside0.out (by assumption))) | exact HB.out)) hb); have n9_ := Aside0.mk (hbox); have n10_ := Aside0.mk ((by rw [hg]; exact (below_size (by repeat (first | (with_reducible first | exact HB.out | apply below_alloc | apply pw_below_drewN | apply below_drew1 | refine below_set ?_ (Aside0.out (by assumption))) | exact HB.out))) : w.heap.size ≤ gb341)); have n11_ := n10_; have n12_ := Aside0.mk ((by rw [hg]; exact Nat.ne_of_lt (blk_lt (pk BK318.out)) : gb318 ≠ gb341)); have n13_ := Aside0.mk n12_.out.symm; have n14_ := Aside0.mk ((by rw [hg]; exact Nat.ne_of_lt (blk_lt (pk BK327.out)) : gb327 ≠ gb341)); have n15_ := Aside0.mk n14_.out.symm; clear HO_319000; clear HO_319001; clear HO_328000; clear HO_328001; clear HO335; clear HO338; clear BK318; clear BK327; clear HB; have HO_319000 := n0_; have HO_319001 := n1_; have HO_328000 := n2_; have HO_328001 := n3_; have HO335 := n4_; have HO338 := n5_; have BK318 := n6_; have BK327 := n7_; have HB := n8_; have BK341 := n9_; have GW341 := n10_; have GE341 := n11_; have NB318_341 := n12_; have NB341_318 := n13_; have NB327_341 := n14_; have NB341_327 := n15_; clear n0_ n1_ n2_ n3_ n4_ n5_ n6_ n7_ n8_ n9_ n10_ n11_ n12_ n13_ n14_ n15_; clear hb hbox hg; obtain ⟨Ao41, co41, eo41⟩ := Kd.R_slice HO335.out; subst eo41; have hnb42 := NB341_318.out; have hnc42 := NB318_341.out; have hnb43 := NB341_327.out; have hnc43 := NB327_341.out; have hcz44_0 : w40.cell? ⟨gb341, 0, none⟩ = some (.slice none 0 0) := (blk_cell BK341.out 0).trans rfl; have hcz44_1 : w40.cell? ⟨gb341, 1, none⟩ = some (.slice none 0 0) := (blk_cell BK341.out 1).trans rfl; have hcz44_2 : w40.cell? ⟨gb341, 2, none⟩ = some (.int .i64 0) := (blk_cell BK341.out 2).trans rfl; have hfz44_0 := blk_frozen BK341.out 0; have hfz44_1 := blk_frozen BK341.out 1; have hfz44_2 := blk_frozen BK341.out 2; obtain ⟨Ao45, co45, eo45⟩ := Kd.R_slice HO338.out; subst eo45))
       (try simp only [Act.put, List.setIfInBounds_toArray, List.set_cons_zero, List.set_cons_succ])
       go_cut [57] (fun v57 wc => ∃ (kq : Nat) (x57_32 : Bool), v57 = .bool x57_32 ∧ Aside0 (laws_FnExactParseCrew.j1 kq t329 x57_32 t330 t331 t325 = some r) ∧ Aside0 (kq ≤ kj4) ∧ Aside0 (Kd.R (Kd.int .i64) 3 wc w.heap.size (fun k_ => some k_ ≠ ((.slice Ao13 t319.length co13) : Value).ownBlock ∧ some k_ ≠ ((.slice Ao41 t333.length co41) : Value).ownBlock) (.slice Ao8 t310.length co8) t310) ∧ Aside0 (Kd.R Kd.bool 4 wc w.heap.size (fun k_ => some k_ ≠ ((.slice Ao16 t322.length co16) : Value).ownBlock ∧ some k_ ≠ ((.slice Ao45 t336.length co45) : Value).ownBlock) (.slice Ao10 t313.length co10) t313) ∧ Aside0 (Kd.R (Kd.int .i64) 3 wc w.heap.size (fun k_ => some k_ ≠ ((.slice Ao8 t310.length co8) : Value).ownBlock ∧ some k_ ≠ ((.slice Ao41 t333.length co41) : Value).ownBlock) (.slice Ao13 t319.length co13) t330) ∧ Aside0 (Kd.R Kd.bool 4 wc w.heap.size (fun k_ => some k_ ≠ ((.slice Ao10 t313.length co10) : Value).ownBlock ∧ some k_ ≠ ((.slice Ao45 t336.length co45) : Value).ownBlock) (.slice Ao16 t322.length co16) t331) ∧ Aside0 (Kd.R (Kd.int .i64) 3 wc w.heap.size (fun k_ => some k_ ≠ ((.slice Ao8 t310.length co8) : Value).ownBlock ∧ some k_ ≠ ((.slice Ao13 t319.length co13) : Value).ownBlock) (.slice Ao41 t333.length co41) t333) ∧ Aside0 (Kd.R Kd.bool 4 wc w.heap.size (fun k_ => some k_ ≠ ((.slice Ao10 t313.length co10) : Value).ownBlock ∧ some k_ ≠ ((.slice Ao16 t322.length co16) : Value).ownBlock) (.slice Ao45 t336.length co45) t336) ∧ Aside0 (wc.heap[gb318]? = some (.cells #[(.slice Ao8 t310.length co8), (.slice Ao10 t313.length co10), .int .i64 t316] 65 (0, 0))) ∧ Aside0 (wc.heap[gb327]? = some (.cells #[(.slice Ao13 t319.length co13), (.slice Ao16 t322.length co16), .int .i64 t325] 65 (0, 0))) ∧ Aside0 (wc.heap[gb341]? = some (.cells #[(.slice Ao41 t333.length co41), (.slice Ao45 t336.length co45), .int .i64 t339] 65 (0, 0))) ∧ Aside0 (Below w.heap.size w wc))
       case first =>
        have H := HC33.out
        clear HC33
        replace H := Option.bind_eq_some_iff.mp H
        obtain ⟨t342, A460, H⟩ := H
        replace H : (if t342 = true then (laws_FnExactParseCrew.j1 kj4 t329 (t340 != t317) t330 t331 t325) else (laws_FnExactParseCrew.j1 kj4 t329 true t330 t331 t325)) = some r := H
        have A46 := Aside0.mk A460
        clear A460
        by_cases c47 : t342 = true
        ·
         subst c47
         have H1 : (laws_FnExactParseCrew.j1 kj4 t329 (t340 != t317) t330 t331 t325) = some r := by rw [if_pos rfl] at H; exact H
         clear H
         have H := H1
         clear H1
         have H' := Aside0.mk H
         clear H
         have hnb48 := NB341_318.out
         have hnc48 := NB318_341.out
         have hnb49 := NB341_327.out
         have hnc49 := NB327_341.out
         have hcz50_0 : w40.cell? ⟨gb341, 0, none⟩ = some (.slice none 0 0) := (blk_cell BK341.out 0).trans rfl
         have hcz50_1 : w40.cell? ⟨gb341, 1, none⟩ = some (.slice none 0 0) := (blk_cell BK341.out 1).trans rfl
         have hcz50_2 : w40.cell? ⟨gb341, 2, none⟩ = some (.int .i64 0) := (blk_cell BK341.out 2).trans rfl
         have hfz50_0 := blk_frozen BK341.out 0
         have hfz50_1 := blk_frozen BK341.out 1
         have hfz50_2 := blk_frozen BK341.out 2
         have hnb51 := NB318_327.out
         have hnc51 := NB327_318.out
         have hcz52_0 : w40.cell? ⟨gb318, 0, none⟩ = some (.slice Ao8 t310.length co8) := (blk_cell BK318.out 0).trans rfl
         have hcz52_1 : w40.cell? ⟨gb318, 1, none⟩ = some (.slice Ao10 t313.length co10) := (blk_cell BK318.out 1).trans rfl
         have hcz52_2 : w40.cell? ⟨gb318, 2, none⟩ = some (.int .i64 t316) := (blk_cell BK318.out 2).trans rfl
         have hfz52_0 := blk_frozen BK318.out 0
         have hfz52_1 := blk_frozen BK318.out 1
         have hfz52_2 := blk_frozen BK318.out 2
         go_wp2_with (first | ((with_reducible refine gate_callee (f := 37) rfl ?_); refine goesL_ (some 51) rfl rfl Tryd.func37 (by kernel_rfl) rfl #[.agg #[.slice Ao41 t333.length co41, .slice Ao45 t336.length co45, .int .i64 t339], .agg #[.slice Ao8 t310.length co8, .slice Ao10 t313.length co10, .int .i64 t316]] rfl (by (try simp only [List.map_toArray, List.map_cons, List.map_nil]); first | done | rfl | (simp only [List.length_drop, List.length_take]; rfl)) ?_; (with_reducible refine (laws_eqCrew.calls kj4 _ _ t333 _ _ t336 t339 _ _ t310 _ _ t313 t316 true _ ?side1 ?side2 ?side3 ?side4 ?side5 ?side6 ?side7 ?side8 A46.out).mono ?_); (case side1 => refine (Kd.R_reads' (e := 3) (base := w.heap.size) (ok := fun k_ => ((True ∧ some k_ ≠ (.slice Ao8 t310.length co8 : Value).ownBlock) ∧ some k_ ≠ (.slice Ao13 t319.length co13 : Value).ownBlock)) (n := t333.length) (c := co41) ?_).2.2; exact (by (with_reducible repeat (first | apply Kd.R_alloc | apply Kd.R_drewN | apply Kd.R_drew)); exact (Kd.R_mono (Kd.R_far (p := ⟨gb341, 2, none⟩) (Kd.R_far (p := ⟨gb341, 1, none⟩) (Kd.R_far (p := ⟨gb341, 0, none⟩) (Kd.R_types HO335.out BK341.out (by decide)) (fun _ hk => hk.2) (.slice Ao41 t333.length co41)) (fun _ hk => hk.2) (.slice Ao45 t336.length co45)) (fun _ hk => hk.2) (.int .i64 t339)) (fun _ h_ => h_.1)))); (case side2 => exact (Kd.R_reads' HO335.out).2.1); (case side3 => refine (Kd.R_reads' (e := 4) (base := w.heap.size) (ok := fun k_ => ((True ∧ some k_ ≠ (.slice Ao10 t313.length co10 : Value).ownBlock) ∧ some k_ ≠ (.slice Ao16 t322.length co16 : Value).ownBlock)) (n := t336.length) (c := co45) ?_).2.2; exact (by (with_reducible repeat (first | apply Kd.R_alloc | apply Kd.R_drewN | apply Kd.R_drew)); exact (Kd.R_mono (Kd.R_far (p := ⟨gb341, 2, none⟩) (Kd.R_far (p := ⟨gb341, 1, none⟩) (Kd.R_far (p := ⟨gb341, 0, none⟩) (Kd.R_types HO338.out BK341.out (by decide)) (fun _ hk => hk.2) (.slice Ao41 t333.length co41)) (fun _ hk => hk.2) (.slice Ao45 t336.length co45)) (fun _ hk => hk.2) (.int .i64 t339)) (fun _ h_ => h_.1)))); (case side4 => exact (Kd.R_reads' HO338.out).2.1); (case side5 => refine (Kd.R_reads' (e := 3) (base := w.heap.size) (ok := fun k_ => (some k_ ≠ (.slice Ao13 t319.length co13 : Value).ownBlock ∧ some k_ ≠ (.slice Ao41 t333.length co41 : Value).ownBlock)) (n := t310.length) (c := co8) ?_).2.2; exact (by (with_reducible repeat (first | apply Kd.R_alloc | apply Kd.R_drewN | apply Kd.R_drew)); exact (Kd.R_mono (Kd.R_far (p := ⟨gb341, 2, none⟩) (Kd.R_far (p := ⟨gb341, 1, none⟩) (Kd.R_far (p := ⟨gb341, 0, none⟩) (Kd.R_types HO_319000.out BK341.out (by decide)) (fun _ hk => hk.2) (.slice Ao41 t333.length co41)) (fun _ hk => hk.2) (.slice Ao45 t336.length co45)) (fun _ hk => hk.2) (.int .i64 t339)) (fun _ h_ => h_.1)))); (case side6 => exact (Kd.R_reads' HO_319000.out).2.1); (case side7 => refine (Kd.R_reads' (e := 4) (base := w.heap.size) (ok := fun k_ => (some k_ ≠ (.slice Ao16 t322.length co16 : Value).ownBlock ∧ some k_ ≠ (.slice Ao45 t336.length co45 : Value).ownBlock)) (n := t313.length) (c := co10) ?_).2.2; exact (by (with_reducible repeat (first | apply Kd.R_alloc | apply Kd.R_drewN | apply Kd.R_drew)); exact (Kd.R_mono (Kd.R_far (p := ⟨gb341, 2, none⟩) (Kd.R_far (p := ⟨gb341, 1, none⟩) (Kd.R_far (p := ⟨gb341, 0, none⟩) (Kd.R_types HO_319001.out BK341.out (by decide)) (fun _ hk => hk.2) (.slice Ao41 t333.length co41)) (fun _ hk => hk.2) (.slice Ao45 t336.length co45)) (fun _ hk => hk.2) (.int .i64 t339)) (fun _ h_ => h_.1)))); (case side8 => exact (Kd.R_reads' HO_319001.out).2.1); rintro e w53 ⟨rfl, hb⟩; refine ⟨_, rfl, ?_⟩; have n0_ := Aside0.mk (Kd.R_below (by (with_reducible repeat (first | apply Kd.R_alloc | apply Kd.R_drewN | apply Kd.R_drew)); exact (Kd.R_mono (Kd.R_far (p := ⟨gb341, 2, none⟩) (Kd.R_far (p := ⟨gb341, 1, none⟩) (Kd.R_far (p := ⟨gb341, 0, none⟩) (Kd.R_types HO_319000.out BK341.out (by decide)) (fun _ hk => hk.2) (.slice Ao41 t333.length co41)) (fun _ hk => hk.2) (.slice Ao45 t336.length co45)) (fun _ hk => hk.2) (.int .i64 t339)) (fun _ h_ => h_.1))) hb); have n1_ := Aside0.mk (Kd.R_below (by (with_reducible repeat (first | apply Kd.R_alloc | apply Kd.R_drewN | apply Kd.R_drew)); exact (Kd.R_mono (Kd.R_far (p := ⟨gb341, 2, none⟩) (Kd.R_far (p := ⟨gb341, 1, none⟩) (Kd.R_far (p := ⟨gb341, 0, none⟩) (Kd.R_types HO_319001.out BK341.out (by decide)) (fun _ hk => hk.2) (.slice Ao41 t333.length co41)) (fun _ hk => hk.2) (.slice Ao45 t336.length co45)) (fun _ hk => hk.2) (.int .i64 t339)) (fun _ h_ => h_.1))) hb); have n2_ := Aside0.mk (Kd.R_below (by (with_reducible repeat (first | apply Kd.R_alloc | apply Kd.R_drewN | apply Kd.R_drew)); exact (Kd.R_mono (Kd.R_far (p := ⟨gb341, 2, none⟩) (Kd.R_far (p := ⟨gb341, 1, none⟩) (Kd.R_far (p := ⟨gb341, 0, none⟩) (Kd.R_types HO_328000.out BK341.out (by decide)) (fun _ hk => hk.2) (.slice Ao41 t333.length co41)) (fun _ hk => hk.2) (.slice Ao45 t336.length co45)) (fun _ hk => hk.2) (.int .i64 t339)) (fun _ h_ => h_.1))) hb); have n3_ := Aside0.mk (Kd.R_below (by (with_reducible repeat (first | apply Kd.R_alloc | apply Kd.R_drewN | apply Kd.R_drew)); exact (Kd.R_mono (Kd.R_far (p := ⟨gb341, 2, none⟩) (Kd.R_far (p := ⟨gb341, 1, none⟩) (Kd.R_far (p := ⟨gb341, 0, none⟩) (Kd.R_types HO_328001.out BK341.out (by decide)) (fun _ hk => hk.2) (.slice Ao41 t333.length co41)) (fun _ hk => hk.2) (.slice Ao45 t336.length co45)) (fun _ hk => hk.2) (.int .i64 t339)) (fun _ h_ => h_.1))) hb); have n4_ := Aside0.mk (Kd.R_below (by (with_reducible repeat (first | apply Kd.R_alloc | apply Kd.R_drewN | apply Kd.R_drew)); exact (Kd.R_mono (Kd.R_far (p := ⟨gb341, 2, none⟩) (Kd.R_far (p := ⟨gb341, 1, none⟩) (Kd.R_far (p := ⟨gb341, 0, none⟩) (Kd.R_types HO335.out BK341.out (by decide)) (fun _ hk => hk.2) (.slice Ao41 t333.length co41)) (fun _ hk => hk.2) (.slice Ao45 t336.length co45)) (fun _ hk => hk.2) (.int .i64 t339)) (fun _ h_ => h_.1))) hb); have n5_ := Aside0.mk (Kd.R_below (by (with_reducible repeat (first | apply Kd.R_alloc | apply Kd.R_drewN | apply Kd.R_drew)); exact (Kd.R_mono (Kd.R_far (p := ⟨gb341, 2, none⟩) (Kd.R_far (p := ⟨gb341, 1, none⟩) (Kd.R_far (p := ⟨gb341, 0, none⟩) (Kd.R_types HO338.out BK341.out (by decide)) (fun _ hk => hk.2) (.slice Ao41 t333.length co41)) (fun _ hk => hk.2) (.slice Ao45 t336.length co45)) (fun _ hk => hk.2) (.int .i64 t339)) (fun _ h_ => h_.1))) hb); have n6_ := Aside0.mk (blk_below (g := gb318) (o := .cells #[.slice Ao8 t310.length co8, .slice Ao10 t313.length co10, .int .i64 t316] 65 (0, 0)) (by (with_reducible repeat (first | refine blk_drewN ?_ _ | refine blk_drew ?_ | refine blk_alloc ?_ _)); refine blk_far ?_ NB318_341.out _; (with_reducible repeat (first | refine blk_drewN ?_ _ | refine blk_drew ?_ | refine blk_alloc ?_ _)); refine blk_far ?_ NB318_341.out _; (with_reducible repeat (first | refine blk_drewN ?_ _ | refine blk_drew ?_ | refine blk_alloc ?_ _)); refine blk_far ?_ NB318_341.out _; (with_reducible repeat (first | refine blk_drewN ?_ _ | refine blk_drew ?_ | refine blk_alloc ?_ _)); exact BK318.out) hb); have n7_ := Aside0.mk (blk_below (g := gb327) (o := .cells #[.slice Ao13 t319.length co13, .slice Ao16 t322.length co16, .int .i64 t325] 65 (0, 0)) (by (with_reducible repeat (first | refine blk_drewN ?_ _ | refine blk_drew ?_ | refine blk_alloc ?_ _)); refine blk_far ?_ NB327_341.out _; (with_reducible repeat (first | refine blk_drewN ?_ _ | refine blk_drew ?_ | refine blk_alloc ?_ _)); refine blk_far ?_ NB327_341.out _; (with_reducible repeat (first | refine blk_drewN ?_ _ | refine blk_drew ?_ | refine blk_alloc ?_ _)); refine blk_far ?_ NB327_341.out _; (with_reducible repeat (first | refine blk_drewN ?_ _ | refine blk_drew ?_ | refine blk_alloc ?_ _)); exact BK327.out) hb); have n8_ := Aside0.mk (blk_below (g := gb341) (o := .cells #[.slice Ao41 t333.length co41, .slice Ao45 t336.length co45, .int .i64 t339] 65 (0, 0)) (by (with_reducible repeat (first | refine blk_drewN ?_ _ | refine blk_drew ?_ | refine blk_alloc ?_ _)); refine blk_put (cs := #[.slice Ao41 t333.length co41, .slice Ao45 t336.length co45, .int .i64 0]) ?_ 2 _ rfl; (with_reducible repeat (first | refine blk_drewN ?_ _ | refine blk_drew ?_ | refine blk_alloc ?_ _)); refine blk_put (cs := #[.slice Ao41 t333.length co41, .slice none 0 0, .int .i64 0]) ?_ 1 _ rfl; (with_reducible repeat (first | refine blk_drewN ?_ _ | refine blk_drew ?_ | refine blk_alloc ?_ _)); refine blk_put (cs := #[.slice none 0 0, .slice none 0 0, .int .i64 0]) ?_ 0 _ rfl; (with_reducible repeat (first | refine blk_drewN ?_ _ | refine blk_drew ?_ | refine blk_alloc ?_ _)); exact BK341.out) hb); have n9_ := Aside0.mk (below_step (by repeat (first | (with_reducible first | exact HB.out | apply below_alloc | apply pw_below_drewN | apply below_drew1 | refine below_set ?_ (Aside0.out (by assumption))) | exact HB.out)) hb); clear HO_319000; clear HO_319001; clear HO_328000; clear HO_328001; clear HO335; clear HO338; clear BK318; clear BK327; clear BK341; clear HB; have HO_319000 := n0_; have HO_319001 := n1_; have HO_328000 := n2_; have HO_328001 := n3_; have HO335 := n4_; have HO338 := n5_; have BK318 := n6_; have BK327 := n7_; have BK341 := n8_; have HB := n9_; clear n0_ n1_ n2_ n3_ n4_ n5_ n6_ n7_ n8_ n9_; (try clear hb); (try clear hb2); (try clear hk); (try clear hi)))
         go_meet
         case rel => exact ⟨_, ((t340 != t317)), (by first | rfl | (simp; done) | (simp [*]; done)), H', ⟨by have := HJ4.out; first | omega | exact Nat.le_refl _⟩, ⟨by (with_reducible repeat (first | apply Kd.R_alloc | apply Kd.R_drewN | apply Kd.R_drew)); exact HO_319000.out⟩, ⟨by (with_reducible repeat (first | apply Kd.R_alloc | apply Kd.R_drewN | apply Kd.R_drew)); exact HO_319001.out⟩, ⟨by (with_reducible repeat (first | apply Kd.R_alloc | apply Kd.R_drewN | apply Kd.R_drew)); exact HO_328000.out⟩, ⟨by (with_reducible repeat (first | apply Kd.R_alloc | apply Kd.R_drewN | apply Kd.R_drew)); exact HO_328001.out⟩, ⟨by (with_reducible repeat (first | apply Kd.R_alloc | apply Kd.R_drewN | apply Kd.R_drew)); exact Kd.R_mono HO335.out (fun _ hk => ⟨hk.1.2, hk.2⟩)⟩, ⟨by (with_reducible repeat (first | apply Kd.R_alloc | apply Kd.R_drewN | apply Kd.R_drew)); exact Kd.R_mono HO338.out (fun _ hk => ⟨hk.1.2, hk.2⟩)⟩, ⟨by (with_reducible repeat (first | refine blk_drewN ?_ _ | refine blk_drew ?_ | refine blk_alloc ?_ _)); exact BK318.out⟩, ⟨by (with_reducible repeat (first | refine blk_drewN ?_ _ | refine blk_drew ?_ | refine blk_alloc ?_ _)); exact BK327.out⟩, ⟨by (with_reducible repeat (first | refine blk_drewN ?_ _ | refine blk_drew ?_ | refine blk_alloc ?_ _)); exact BK341.out⟩, ⟨by repeat (first | (with_reducible first | exact HB.out | apply below_alloc | apply pw_below_drewN | apply below_drew1 | refine below_set ?_ (Aside0.out (by assumption))) | exact HB.out)⟩⟩
        ·
         replace c47 := Bool.eq_false_iff.mpr c47
         subst c47
         have H1 : (laws_FnExactParseCrew.j1 kj4 t329 true t330 t331 t325) = some r := by rw [if_neg (show ¬ (false = true) by decide)] at H; exact H
         clear H
         have H := H1
         clear H1
         have H' := Aside0.mk H
         clear H
         have hnb54 := NB341_318.out
         have hnc54 := NB318_341.out
         have hnb55 := NB341_327.out
         have hnc55 := NB327_341.out
         have hcz56_0 : w40.cell? ⟨gb341, 0, none⟩ = some (.slice none 0 0) := (blk_cell BK341.out 0).trans rfl
         have hcz56_1 : w40.cell? ⟨gb341, 1, none⟩ = some (.slice none 0 0) := (blk_cell BK341.out 1).trans rfl
         have hcz56_2 : w40.cell? ⟨gb341, 2, none⟩ = some (.int .i64 0) := (blk_cell BK341.out 2).trans rfl
         have hfz56_0 := blk_frozen BK341.out 0
         have hfz56_1 := blk_frozen BK341.out 1
         have hfz56_2 := blk_frozen BK341.out 2
         have hnb57 := NB318_327.out
         have hnc57 := NB327_318.out
         have hcz58_0 : w40.cell? ⟨gb318, 0, none⟩ = some (.slice Ao8 t310.length co8) := (blk_cell BK318.out 0).trans rfl
         have hcz58_1 : w40.cell? ⟨gb318, 1, none⟩ = some (.slice Ao10 t313.length co10) := (blk_cell BK318.out 1).trans rfl
         have hcz58_2 : w40.cell? ⟨gb318, 2, none⟩ = some (.int .i64 t316) := (blk_cell BK318.out 2).trans rfl
         have hfz58_0 := blk_frozen BK318.out 0
         have hfz58_1 := blk_frozen BK318.out 1
         have hfz58_2 := blk_frozen BK318.out 2
         go_wp2_with (first | ((with_reducible refine gate_callee (f := 37) rfl ?_); refine goesL_ (some 51) rfl rfl Tryd.func37 (by kernel_rfl) rfl #[.agg #[.slice Ao41 t333.length co41, .slice Ao45 t336.length co45, .int .i64 t339], .agg #[.slice Ao8 t310.length co8, .slice Ao10 t313.length co10, .int .i64 t316]] rfl (by (try simp only [List.map_toArray, List.map_cons, List.map_nil]); first | done | rfl | (simp only [List.length_drop, List.length_take]; rfl)) ?_; (with_reducible refine (laws_eqCrew.calls kj4 _ _ t333 _ _ t336 t339 _ _ t310 _ _ t313 t316 false _ ?side1 ?side2 ?side3 ?side4 ?side5 ?side6 ?side7 ?side8 A46.out).mono ?_); (case side1 => refine (Kd.R_reads' (e := 3) (base := w.heap.size) (ok := fun k_ => ((True ∧ some k_ ≠ (.slice Ao8 t310.length co8 : Value).ownBlock) ∧ some k_ ≠ (.slice Ao13 t319.length co13 : Value).ownBlock)) (n := t333.length) (c := co41) ?_).2.2; exact (by (with_reducible repeat (first | apply Kd.R_alloc | apply Kd.R_drewN | apply Kd.R_drew)); exact (Kd.R_mono (Kd.R_far (p := ⟨gb341, 2, none⟩) (Kd.R_far (p := ⟨gb341, 1, none⟩) (Kd.R_far (p := ⟨gb341, 0, none⟩) (Kd.R_types HO335.out BK341.out (by decide)) (fun _ hk => hk.2) (.slice Ao41 t333.length co41)) (fun _ hk => hk.2) (.slice Ao45 t336.length co45)) (fun _ hk => hk.2) (.int .i64 t339)) (fun _ h_ => h_.1)))); (case side2 => exact (Kd.R_reads' HO335.out).2.1); (case side3 => refine (Kd.R_reads' (e := 4) (base := w.heap.size) (ok := fun k_ => ((True ∧ some k_ ≠ (.slice Ao10 t313.length co10 : Value).ownBlock) ∧ some k_ ≠ (.slice Ao16 t322.length co16 : Value).ownBlock)) (n := t336.length) (c := co45) ?_).2.2; exact (by (with_reducible repeat (first | apply Kd.R_alloc | apply Kd.R_drewN | apply Kd.R_drew)); exact (Kd.R_mono (Kd.R_far (p := ⟨gb341, 2, none⟩) (Kd.R_far (p := ⟨gb341, 1, none⟩) (Kd.R_far (p := ⟨gb341, 0, none⟩) (Kd.R_types HO338.out BK341.out (by decide)) (fun _ hk => hk.2) (.slice Ao41 t333.length co41)) (fun _ hk => hk.2) (.slice Ao45 t336.length co45)) (fun _ hk => hk.2) (.int .i64 t339)) (fun _ h_ => h_.1)))); (case side4 => exact (Kd.R_reads' HO338.out).2.1); (case side5 => refine (Kd.R_reads' (e := 3) (base := w.heap.size) (ok := fun k_ => (some k_ ≠ (.slice Ao13 t319.length co13 : Value).ownBlock ∧ some k_ ≠ (.slice Ao41 t333.length co41 : Value).ownBlock)) (n := t310.length) (c := co8) ?_).2.2; exact (by (with_reducible repeat (first | apply Kd.R_alloc | apply Kd.R_drewN | apply Kd.R_drew)); exact (Kd.R_mono (Kd.R_far (p := ⟨gb341, 2, none⟩) (Kd.R_far (p := ⟨gb341, 1, none⟩) (Kd.R_far (p := ⟨gb341, 0, none⟩) (Kd.R_types HO_319000.out BK341.out (by decide)) (fun _ hk => hk.2) (.slice Ao41 t333.length co41)) (fun _ hk => hk.2) (.slice Ao45 t336.length co45)) (fun _ hk => hk.2) (.int .i64 t339)) (fun _ h_ => h_.1)))); (case side6 => exact (Kd.R_reads' HO_319000.out).2.1); (case side7 => refine (Kd.R_reads' (e := 4) (base := w.heap.size) (ok := fun k_ => (some k_ ≠ (.slice Ao16 t322.length co16 : Value).ownBlock ∧ some k_ ≠ (.slice Ao45 t336.length co45 : Value).ownBlock)) (n := t313.length) (c := co10) ?_).2.2; exact (by (with_reducible repeat (first | apply Kd.R_alloc | apply Kd.R_drewN | apply Kd.R_drew)); exact (Kd.R_mono (Kd.R_far (p := ⟨gb341, 2, none⟩) (Kd.R_far (p := ⟨gb341, 1, none⟩) (Kd.R_far (p := ⟨gb341, 0, none⟩) (Kd.R_types HO_319001.out BK341.out (by decide)) (fun _ hk => hk.2) (.slice Ao41 t333.length co41)) (fun _ hk => hk.2) (.slice Ao45 t336.length co45)) (fun _ hk => hk.2) (.int .i64 t339)) (fun _ h_ => h_.1)))); (case side8 => exact (Kd.R_reads' HO_319001.out).2.1); rintro e w59 ⟨rfl, hb⟩; refine ⟨_, rfl, ?_⟩; have n0_ := Aside0.mk (Kd.R_below (by (with_reducible repeat (first | apply Kd.R_alloc | apply Kd.R_drewN | apply Kd.R_drew)); exact (Kd.R_mono (Kd.R_far (p := ⟨gb341, 2, none⟩) (Kd.R_far (p := ⟨gb341, 1, none⟩) (Kd.R_far (p := ⟨gb341, 0, none⟩) (Kd.R_types HO_319000.out BK341.out (by decide)) (fun _ hk => hk.2) (.slice Ao41 t333.length co41)) (fun _ hk => hk.2) (.slice Ao45 t336.length co45)) (fun _ hk => hk.2) (.int .i64 t339)) (fun _ h_ => h_.1))) hb); have n1_ := Aside0.mk (Kd.R_below (by (with_reducible repeat (first | apply Kd.R_alloc | apply Kd.R_drewN | apply Kd.R_drew)); exact (Kd.R_mono (Kd.R_far (p := ⟨gb341, 2, none⟩) (Kd.R_far (p := ⟨gb341, 1, none⟩) (Kd.R_far (p := ⟨gb341, 0, none⟩) (Kd.R_types HO_319001.out BK341.out (by decide)) (fun _ hk => hk.2) (.slice Ao41 t333.length co41)) (fun _ hk => hk.2) (.slice Ao45 t336.length co45)) (fun _ hk => hk.2) (.int .i64 t339)) (fun _ h_ => h_.1))) hb); have n2_ := Aside0.mk (Kd.R_below (by (with_reducible repeat (first | apply Kd.R_alloc | apply Kd.R_drewN | apply Kd.R_drew)); exact (Kd.R_mono (Kd.R_far (p := ⟨gb341, 2, none⟩) (Kd.R_far (p := ⟨gb341, 1, none⟩) (Kd.R_far (p := ⟨gb341, 0, none⟩) (Kd.R_types HO_328000.out BK341.out (by decide)) (fun _ hk => hk.2) (.slice Ao41 t333.length co41)) (fun _ hk => hk.2) (.slice Ao45 t336.length co45)) (fun _ hk => hk.2) (.int .i64 t339)) (fun _ h_ => h_.1))) hb); have n3_ := Aside0.mk (Kd.R_below (by (with_reducible repeat (first | apply Kd.R_alloc | apply Kd.R_drewN | apply Kd.R_drew)); exact (Kd.R_mono (Kd.R_far (p := ⟨gb341, 2, none⟩) (Kd.R_far (p := ⟨gb341, 1, none⟩) (Kd.R_far (p := ⟨gb341, 0, none⟩) (Kd.R_types HO_328001.out BK341.out (by decide)) (fun _ hk => hk.2) (.slice Ao41 t333.length co41)) (fun _ hk => hk.2) (.slice Ao45 t336.length co45)) (fun _ hk => hk.2) (.int .i64 t339)) (fun _ h_ => h_.1))) hb); have n4_ := Aside0.mk (Kd.R_below (by (with_reducible repeat (first | apply Kd.R_alloc | apply Kd.R_drewN | apply Kd.R_drew)); exact (Kd.R_mono (Kd.R_far (p := ⟨gb341, 2, none⟩) (Kd.R_far (p := ⟨gb341, 1, none⟩) (Kd.R_far (p := ⟨gb341, 0, none⟩) (Kd.R_types HO335.out BK341.out (by decide)) (fun _ hk => hk.2) (.slice Ao41 t333.length co41)) (fun _ hk => hk.2) (.slice Ao45 t336.length co45)) (fun _ hk => hk.2) (.int .i64 t339)) (fun _ h_ => h_.1))) hb); have n5_ := Aside0.mk (Kd.R_below (by (with_reducible repeat (first | apply Kd.R_alloc | apply Kd.R_drewN | apply Kd.R_drew)); exact (Kd.R_mono (Kd.R_far (p := ⟨gb341, 2, none⟩) (Kd.R_far (p := ⟨gb341, 1, none⟩) (Kd.R_far (p := ⟨gb341, 0, none⟩) (Kd.R_types HO338.out BK341.out (by decide)) (fun _ hk => hk.2) (.slice Ao41 t333.length co41)) (fun _ hk => hk.2) (.slice Ao45 t336.length co45)) (fun _ hk => hk.2) (.int .i64 t339)) (fun _ h_ => h_.1))) hb); have n6_ := Aside0.mk (blk_below (g := gb318) (o := .cells #[.slice Ao8 t310.length co8, .slice Ao10 t313.length co10, .int .i64 t316] 65 (0, 0)) (by (with_reducible repeat (first | refine blk_drewN ?_ _ | refine blk_drew ?_ | refine blk_alloc ?_ _)); refine blk_far ?_ NB318_341.out _; (with_reducible repeat (first | refine blk_drewN ?_ _ | refine blk_drew ?_ | refine blk_alloc ?_ _)); refine blk_far ?_ NB318_341.out _; (with_reducible repeat (first | refine blk_drewN ?_ _ | refine blk_drew ?_ | refine blk_alloc ?_ _)); refine blk_far ?_ NB318_341.out _; (with_reducible repeat (first | refine blk_drewN ?_ _ | refine blk_drew ?_ | refine blk_alloc ?_ _)); exact BK318.out) hb); have n7_ := Aside0.mk (blk_below (g := gb327) (o := .cells #[.slice Ao13 t319.length co13, .slice Ao16 t322.length co16, .int .i64 t325] 65 (0, 0)) (by (with_reducible repeat (first | refine blk_drewN ?_ _ | refine blk_drew ?_ | refine blk_alloc ?_ _)); refine blk_far ?_ NB327_341.out _; (with_reducible repeat (first | refine blk_drewN ?_ _ | refine blk_drew ?_ | refine blk_alloc ?_ _)); refine blk_far ?_ NB327_341.out _; (with_reducible repeat (first | refine blk_drewN ?_ _ | refine blk_drew ?_ | refine blk_alloc ?_ _)); refine blk_far ?_ NB327_341.out _; (with_reducible repeat (first | refine blk_drewN ?_ _ | refine blk_drew ?_ | refine blk_alloc ?_ _)); exact BK327.out) hb); have n8_ := Aside0.mk (blk_below (g := gb341) (o := .cells #[.slice Ao41 t333.length co41, .slice Ao45 t336.length co45, .int .i64 t339] 65 (0, 0)) (by (with_reducible repeat (first | refine blk_drewN ?_ _ | refine blk_drew ?_ | refine blk_alloc ?_ _)); refine blk_put (cs := #[.slice Ao41 t333.length co41, .slice Ao45 t336.length co45, .int .i64 0]) ?_ 2 _ rfl; (with_reducible repeat (first | refine blk_drewN ?_ _ | refine blk_drew ?_ | refine blk_alloc ?_ _)); refine blk_put (cs := #[.slice Ao41 t333.length co41, .slice none 0 0, .int .i64 0]) ?_ 1 _ rfl; (with_reducible repeat (first | refine blk_drewN ?_ _ | refine blk_drew ?_ | refine blk_alloc ?_ _)); refine blk_put (cs := #[.slice none 0 0, .slice none 0 0, .int .i64 0]) ?_ 0 _ rfl; (with_reducible repeat (first | refine blk_drewN ?_ _ | refine blk_drew ?_ | refine blk_alloc ?_ _)); exact BK341.out) hb); have n9_ := Aside0.mk (below_step (by repeat (first | (with_reducible first | exact HB.out | apply below_alloc | apply pw_below_drewN | apply below_drew1 | refine below_set ?_ (Aside0.out (by assumption))) | exact HB.out)) hb); clear HO_319000; clear HO_319001; clear HO_328000; clear HO_328001; clear HO335; clear HO338; clear BK318; clear BK327; clear BK341; clear HB; have HO_319000 := n0_; have HO_319001 := n1_; have HO_328000 := n2_; have HO_328001 := n3_; have HO335 := n4_; have HO338 := n5_; have BK318 := n6_; have BK327 := n7_; have BK341 := n8_; have HB := n9_; clear n0_ n1_ n2_ n3_ n4_ n5_ n6_ n7_ n8_ n9_; (try clear hb); (try clear hb2); (try clear hk); (try clear hi)))
         go_meet
         case rel => exact ⟨_, (true), (by first | rfl | (simp; done) | (simp [*]; done)), H', ⟨by have := HJ4.out; first | omega | exact Nat.le_refl _⟩, ⟨by (with_reducible repeat (first | apply Kd.R_alloc | apply Kd.R_drewN | apply Kd.R_drew)); exact HO_319000.out⟩, ⟨by (with_reducible repeat (first | apply Kd.R_alloc | apply Kd.R_drewN | apply Kd.R_drew)); exact HO_319001.out⟩, ⟨by (with_reducible repeat (first | apply Kd.R_alloc | apply Kd.R_drewN | apply Kd.R_drew)); exact HO_328000.out⟩, ⟨by (with_reducible repeat (first | apply Kd.R_alloc | apply Kd.R_drewN | apply Kd.R_drew)); exact HO_328001.out⟩, ⟨by (with_reducible repeat (first | apply Kd.R_alloc | apply Kd.R_drewN | apply Kd.R_drew)); exact Kd.R_mono HO335.out (fun _ hk => ⟨hk.1.2, hk.2⟩)⟩, ⟨by (with_reducible repeat (first | apply Kd.R_alloc | apply Kd.R_drewN | apply Kd.R_drew)); exact Kd.R_mono HO338.out (fun _ hk => ⟨hk.1.2, hk.2⟩)⟩, ⟨by (with_reducible repeat (first | refine blk_drewN ?_ _ | refine blk_drew ?_ | refine blk_alloc ?_ _)); exact BK318.out⟩, ⟨by (with_reducible repeat (first | refine blk_drewN ?_ _ | refine blk_drew ?_ | refine blk_alloc ?_ _)); exact BK327.out⟩, ⟨by (with_reducible repeat (first | refine blk_drewN ?_ _ | refine blk_drew ?_ | refine blk_alloc ?_ _)); exact BK341.out⟩, ⟨by repeat (first | (with_reducible first | exact HB.out | apply below_alloc | apply pw_below_drewN | apply below_drew1 | refine below_set ?_ (Aside0.out (by assumption))) | exact HB.out)⟩⟩
       case rest =>
        clear HC33
        try clear c1
        try clear c2
        try clear c2b0
        try clear c2b1
        try clear p2
        try clear c3
        try clear c4
        try clear c5
        try clear c12
        try clear c14
        try clear c18
        try clear c19
        try clear c23
        try clear c27
        try clear c30
        try clear c30b0
        try clear c31
        try clear c31b0
        try clear c31b1
        try clear c34
        try clear c37
        try clear c42
        try clear c43
        try clear c47
        try clear c48
        try clear c49
        try clear c51
        try clear c54
        try clear c55
        try clear c56
        try clear c57
        try clear hcz15_0
        try clear hcz15_1
        try clear hcz15_2
        try clear hcz20_0
        try clear hcz20_1
        try clear hcz20_2
        try clear hcz21_0
        try clear hcz21_1
        try clear hcz21_2
        try clear hcz24_0
        try clear hcz24_1
        try clear hcz24_2
        try clear hcz25_0
        try clear hcz25_1
        try clear hcz25_2
        try clear hcz35_0
        try clear hcz35_1
        try clear hcz35_2
        try clear hcz37_0
        try clear hcz37_1
        try clear hcz37_2
        try clear hcz44_0
        try clear hcz44_1
        try clear hcz44_2
        try clear hcz50_0
        try clear hcz50_1
        try clear hcz50_2
        try clear hcz52_0
        try clear hcz52_1
        try clear hcz52_2
        try clear hcz56_0
        try clear hcz56_1
        try clear hcz56_2
        try clear hcz58_0
        try clear hcz58_1
        try clear hcz58_2
        try clear hcz9_0
        try clear hcz9_1
        try clear hcz9_2
        try clear hfz15_0
        try clear hfz15_1
        try clear hfz15_2
        try clear hfz20_0
        try clear hfz20_1
        try clear hfz20_2
        try clear hfz21_0
        try clear hfz21_1
        try clear hfz21_2
        try clear hfz24_0
        try clear hfz24_1
        try clear hfz24_2
        try clear hfz25_0
        try clear hfz25_1
        try clear hfz25_2
        try clear hfz35_0
        try clear hfz35_1
        try clear hfz35_2
        try clear hfz37_0
        try clear hfz37_1
        try clear hfz37_2
        try clear hfz44_0
        try clear hfz44_1
        try clear hfz44_2
        try clear hfz50_0
        try clear hfz50_1
        try clear hfz50_2
        try clear hfz52_0
        try clear hfz52_1
        try clear hfz52_2
        try clear hfz56_0
        try clear hfz56_1
        try clear hfz56_2
        try clear hfz58_0
        try clear hfz58_1
        try clear hfz58_2
        try clear hfz9_0
        try clear hfz9_1
        try clear hfz9_2
        try clear p2
        obtain ⟨kq, x57_32, rfl, HA, HJ32, HO_319000, HO_319001, HO_328000, HO_328001, HO_342000, HO_342001, BK318, BK327, BK341, HB⟩ := hcut
        have hl328000_32 := (Kd.R_reads' HO_328000.out).1
        rw [hl328000_32] at HO_328000
        (try simp only [hl328000_32])
        (try simp only [hl328000_32] at BK318)
        (try simp only [hl328000_32] at BK327)
        (try simp only [hl328000_32] at BK341)
        (try simp only [hl328000_32] at HO_319000)
        (try simp only [hl328000_32] at HO_319001)
        (try simp only [hl328000_32] at HO_328001)
        (try simp only [hl328000_32] at HO_342000)
        (try simp only [hl328000_32] at HO_342001)
        have hl328001_32 := (Kd.R_reads' HO_328001.out).1
        rw [hl328001_32] at HO_328001
        (try simp only [hl328001_32])
        (try simp only [hl328001_32] at BK318)
        (try simp only [hl328001_32] at BK327)
        (try simp only [hl328001_32] at BK341)
        (try simp only [hl328001_32] at HO_319000)
        (try simp only [hl328001_32] at HO_319001)
        (try simp only [hl328001_32] at HO_328000)
        (try simp only [hl328001_32] at HO_342000)
        (try simp only [hl328001_32] at HO_342001)
        cases kq with
        | zero => exact absurd HA.out (by simp [laws_FnExactParseCrew.j1])
        | succ kj32 =>
         have H := HA.out
         clear HA
         simp only [laws_FnExactParseCrew.j1] at H
         by_cases c60 : x57_32 = true
         ·
          subst c60
          have H1 : (none) = some r := by rw [if_pos rfl] at H; exact H
          clear H
          have H := H1
          clear H1
          exact absurd H (by simp)
         ·
          replace c60 := Bool.eq_false_iff.mpr c60
          subst c60
          have H1 : ((laws_heldCrew.f kj32 t330 t331 t325 1).bind fun t343 => (if t343 < 0 then (none) else (if t343 = t329 then (some true) else (none)))) = some r := by rw [if_neg (show ¬ (false = true) by decide)] at H; exact H
          clear H
          have H := H1
          clear H1
          replace H := Option.bind_eq_some_iff.mp H
          obtain ⟨t343, A610, H⟩ := H
          replace H : (if t343 < 0 then (none) else (if t343 = t329 then (some true) else (none))) = some r := H
          have A61 := Aside0.mk A610
          clear A610
          by_cases c62 : t343 < 0
          ·
           rw [if_pos c62] at H
           exact absurd H (by simp)
          ·
           rw [if_neg c62] at H
           have c62b0 : decide (t343 < 0) = false := decide_eq_false c62
           clear c62
           by_cases c63 : t343 = t329
           ·
            rw [if_pos c63] at H
            have c63b0 : (t343 == t329) = true := beq_iff_eq.mpr c63
            have c63b1 : (t343 != t329) = false := bne_eq_false_iff_eq.mpr c63
            clear c63
            obtain rfl := Option.some.inj H
            have hnb64 := NB327_318.out
            have hnc64 := NB318_327.out
            have hnb65 := NB327_341.out
            have hnc65 := NB341_327.out
            have hcz66_0 : wc.cell? ⟨gb327, 0, none⟩ = some (.slice Ao13 t330.length co13) := (blk_cell BK327.out 0).trans rfl
            have hcz66_1 : wc.cell? ⟨gb327, 1, none⟩ = some (.slice Ao16 t331.length co16) := (blk_cell BK327.out 1).trans rfl
            have hcz66_2 : wc.cell? ⟨gb327, 2, none⟩ = some (.int .i64 t325) := (blk_cell BK327.out 2).trans rfl
            have hfz66_0 := blk_frozen BK327.out 0
            have hfz66_1 := blk_frozen BK327.out 1
            have hfz66_2 := blk_frozen BK327.out 2
            go_wp2_with (first | ((with_reducible refine gate_callee (f := 57) rfl ?_); refine goesL_ (some 60) rfl rfl Tryd.func57 (by kernel_rfl) rfl #[.agg #[.slice Ao13 t330.length co13, .slice Ao16 t331.length co16, .int .i64 t325], .int .i64 1] rfl (by (try simp only [List.map_toArray, List.map_cons, List.map_nil]); first | done | rfl | (simp only [List.length_drop, List.length_take]; rfl)) ?_; (with_reducible refine (laws_heldCrew.calls kj32 _ _ t330 _ _ t331 t325 1 t343 _ ?side1 ?side2 ?side3 ?side4 A61.out).mono ?_); (case side1 => repeat (first | exact (Kd.R_reads' HO_328000.out).2.2 | (with_reducible refine Kd.C_alloc ?_ _) | (with_reducible refine Kd.C_drewN ?_ _) | (with_reducible refine Kd.C_drew ?_))); (case side2 => exact (Kd.R_reads' HO_328000.out).2.1); (case side3 => repeat (first | exact (Kd.R_reads' HO_328001.out).2.2 | (with_reducible refine Kd.C_alloc ?_ _) | (with_reducible refine Kd.C_drewN ?_ _) | (with_reducible refine Kd.C_drew ?_))); (case side4 => exact (Kd.R_reads' HO_328001.out).2.1); rintro e w67 ⟨rfl, hb⟩; refine ⟨_, rfl, ?_⟩; have n0_ := Aside0.mk (Kd.R_below (Kd.pR HO_319000.out) hb); have n1_ := Aside0.mk (Kd.R_below (Kd.pR HO_319001.out) hb); have n2_ := Aside0.mk (Kd.R_below (Kd.pR HO_328000.out) hb); have n3_ := Aside0.mk (Kd.R_below (Kd.pR HO_328001.out) hb); have n4_ := Aside0.mk (Kd.R_below (Kd.pR HO_342000.out) hb); have n5_ := Aside0.mk (Kd.R_below (Kd.pR HO_342001.out) hb); have n6_ := Aside0.mk (blk_below (pk BK318.out) hb); have n7_ := Aside0.mk (blk_below (pk BK327.out) hb); have n8_ := Aside0.mk (blk_below (pk BK341.out) hb); have n9_ := Aside0.mk (below_step (by repeat (first | (with_reducible first | exact HB.out | apply below_alloc | apply pw_below_drewN | apply below_drew1 | refine below_set ?_ (Aside0.out (by assumption))) | exact HB.out)) hb); clear HO_319000; clear HO_319001; clear HO_328000; clear HO_328001; clear HO_342000; clear HO_342001; clear BK318; clear BK327; clear BK341; clear HB; have HO_319000 := n0_; have HO_319001 := n1_; have HO_328000 := n2_; have HO_328001 := n3_; have HO_342000 := n4_; have HO_342001 := n5_; have BK318 := n6_; have BK327 := n7_; have BK341 := n8_; have HB := n9_; clear n0_ n1_ n2_ n3_ n4_ n5_ n6_ n7_ n8_ n9_; (try clear hb); (try clear hb2); (try clear hk); (try clear hi)))
            go_ret
            exact ⟨by first | rfl | (simp [errW_none, errW_some] <;> rfl) | (simp [*, errW_none, errW_some] <;> rfl), by repeat (first | (with_reducible first | exact HB.out | apply below_alloc | apply pw_below_drewN | apply below_drew1 | refine below_set ?_ (Aside0.out (by assumption))) | exact HB.out)⟩
           ·
            rw [if_neg c63] at H
            exact absurd H (by simp)
      ·
       rw [if_neg c31] at H
       exact absurd H (by simp)

/-- THE ONE PURE STATEMENT of laws_FnExactParseCrew: yours. -/
def laws_FnExactParseCrew.Pure : Prop := ∀ (a0 : ByteArray), a0.size ≤ 140737488351232 → ∃ k, laws_FnExactParseCrew.f k a0 = some true
theorem laws_FnExactParseCrew.walk (P : laws_FnExactParseCrew.Pure) (a0 : ByteArray) (w : World) (w0 : a0.size ≤ 140737488351232) (hT : Tab w) :
  Calls Tryd.prog 12 #[.string a0] w fun e w' => e = .returned (.bool true) ∧ Below w.heap.size w w' := by
 obtain ⟨k, h⟩ := P a0 w0
 refine (laws_FnExactParseCrew.calls k a0 true w h hT).mono ?_
 rintro e w' ⟨rfl, hd⟩
 exact ⟨rfl, hd⟩

end Go.Proofs.YtpiidnmobofaeaaDoor.QFnExactParseCrew
