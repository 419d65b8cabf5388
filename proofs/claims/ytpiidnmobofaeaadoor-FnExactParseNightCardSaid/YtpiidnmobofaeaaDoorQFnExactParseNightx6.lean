/- Contracts of functions of the given program, walked: each call returns what its Lean function says. Conditions: those that stand at each theorem. (Written by a program of this session.) -/
import Derived.Test.YtpiidnmobofaeaaDoorQFnExactParseNightx0
import Derived.Test.YtpiidnmobofaeaaDoorQFnExactParseNightx1
import Derived.Test.YtpiidnmobofaeaaDoorQFnExactParseNightx4
import Derived.Test.YtpiidnmobofaeaaDoorQFnExactParseNightx5
namespace Go.Proofs.YtpiidnmobofaeaaDoor.QFnExactParseNight
open Go.RowKit Go.Proofs.YtpiidnmobofaeaaDoorW.PrintWords Go.Proofs.YtpiidnmobofaeaaDoorW.PrintLast Go.Proofs.YtpiidnmobofaeaaDoorW.PrintMore
attribute [local go_sem] max2_int min2_int max_two min_two max_three min_three max_four min_four   -- for this text's walks alone
set_option linter.unusedVariables false
set_option linter.unusedSimpArgs false

/-! ### laws_FnExactParseNight: function 9 -/
mutual
def laws_FnExactParseNight.j0 : Nat → ByteArray → Bool → Bool → List Int → Int → Int → List Int → Int → Int → Option (Bool)
  | 0, _, _, _, _, _, _, _, _, _ => none
  | k + 1, x0, x4, x32, x270000, x270001, x270002, x277000, x277001, x277002 => if x32 = true then (none) else ((laws_markNight.f k x277000 x277001 x277002 1).bind fun bt278 => ((laws_heldNight.f k bt278.2 x277001 x277002 1).bind fun t280 => (if t280 < 0 then (none) else (if t280 = bt278.1 then ((impl_ParseNight.f k x0).bind fun bt281 => ((laws_eqNight.f k bt281.1 bt281.2.1 bt281.2.2.1 x270000 x270001 x270002).bind fun t288 => (if t288 = true then (laws_FnExactParseNight.j1 k bt278.1 (bt281.2.2.2 != x4) bt278.2 x277001 x277002) else (laws_FnExactParseNight.j1 k bt278.1 true bt278.2 x277001 x277002)))) else (none)))))
def laws_FnExactParseNight.j1 : Nat → Int → Bool → List Int → Int → Int → Option (Bool)
  | 0, _, _, _, _, _ => none
  | k + 1, x7, x57, x277000, x277001, x277002 => if x57 = true then (none) else ((laws_heldNight.f k x277000 x277001 x277002 1).bind fun t289 => (if t289 < 0 then (none) else (if t289 = x7 then (some true) else (none))))
end
def laws_FnExactParseNight.f (k : Nat) (a0 : ByteArray) : Option (Bool) := if (a0.size : Int) > 1048576 then (some true) else ((spec_ParseNight.f k a0).bind fun bt263 => ((impl_ParseNight.f k a0).bind fun bt270 => ((laws_eqNight.f k bt270.1 bt270.2.1 bt270.2.2.1 bt263.1 bt263.2.1 bt263.2.2.1).bind fun t277 => (if t277 = true then (laws_FnExactParseNight.j0 k a0 bt263.2.2.2 (bt270.2.2.2 != bt263.2.2.2) bt263.1 bt263.2.1 bt263.2.2.1 bt270.1 bt270.2.1 bt270.2.2.1) else (laws_FnExactParseNight.j0 k a0 bt263.2.2.2 true bt263.1 bt263.2.1 bt263.2.2.1 bt270.1 bt270.2.1 bt270.2.2.1)))))
theorem laws_FnExactParseNight.mono_l : ∀ k, (∀ y0 y1 y2 y3 y4 y5 y6 y7 y8, LeO (laws_FnExactParseNight.j0 k y0 y1 y2 y3 y4 y5 y6 y7 y8) (laws_FnExactParseNight.j0 (k + 1) y0 y1 y2 y3 y4 y5 y6 y7 y8)) ∧ (∀ y0 y1 y2 y3 y4, LeO (laws_FnExactParseNight.j1 k y0 y1 y2 y3 y4) (laws_FnExactParseNight.j1 (k + 1) y0 y1 y2 y3 y4))
  | 0 => ⟨fun _ _ _ _ _ _ _ _ _ r h => by simp [laws_FnExactParseNight.j0] at h, fun _ _ _ _ _ r h => by simp [laws_FnExactParseNight.j1] at h⟩
  | k + 1 => by
    obtain ⟨ih0, ih1⟩ := laws_FnExactParseNight.mono_l k
    refine ⟨?_, ?_⟩
    · intro y0 y1 y2 y3 y4 y5 y6 y7 y8
      unfold laws_FnExactParseNight.j0
      repeat' first
      | (with_reducible exact ih0 _ _ _ _ _ _ _ _ _)
      | (with_reducible exact ih1 _ _ _ _ _)
      | (with_reducible exact impl_ParseNight.mono _ _)
      | (with_reducible exact laws_eqNight.mono _ _ _ _ _ _ _)
      | (with_reducible exact laws_heldNight.mono _ _ _ _ _)
      | (with_reducible exact laws_markNight.mono _ _ _ _ _)
      | (with_reducible exact spec_ParseNight.mono _ _)
      | (with_reducible exact LeO.refl _)
      | (with_reducible exact LeO.none _)
      | (with_reducible refine LeO.ite ?_ ?_)
      | (with_reducible refine LeO.bind ?_ (fun _ => ?_))
      | exact ih0 _ _ _ _ _ _ _ _ _
      | exact ih1 _ _ _ _ _
      | exact impl_ParseNight.mono _ _
      | exact laws_eqNight.mono _ _ _ _ _ _ _
      | exact laws_heldNight.mono _ _ _ _ _
      | exact laws_markNight.mono _ _ _ _ _
      | exact spec_ParseNight.mono _ _
      | exact LeO.none _
      | refine LeO.ite ?_ ?_
      | refine LeO.bind ?_ (fun _ => ?_)
    · intro y0 y1 y2 y3 y4
      unfold laws_FnExactParseNight.j1
      repeat' first
      | (with_reducible exact ih0 _ _ _ _ _ _ _ _ _)
      | (with_reducible exact ih1 _ _ _ _ _)
      | (with_reducible exact impl_ParseNight.mono _ _)
      | (with_reducible exact laws_eqNight.mono _ _ _ _ _ _ _)
      | (with_reducible exact laws_heldNight.mono _ _ _ _ _)
      | (with_reducible exact laws_markNight.mono _ _ _ _ _)
      | (with_reducible exact spec_ParseNight.mono _ _)
      | (with_reducible exact LeO.refl _)
      | (with_reducible exact LeO.none _)
      | (with_reducible refine LeO.ite ?_ ?_)
      | (with_reducible refine LeO.bind ?_ (fun _ => ?_))
      | exact ih0 _ _ _ _ _ _ _ _ _
      | exact ih1 _ _ _ _ _
      | exact impl_ParseNight.mono _ _
      | exact laws_eqNight.mono _ _ _ _ _ _ _
      | exact laws_heldNight.mono _ _ _ _ _
      | exact laws_markNight.mono _ _ _ _ _
      | exact spec_ParseNight.mono _ _
      | exact LeO.none _
      | refine LeO.ite ?_ ?_
      | refine LeO.bind ?_ (fun _ => ?_)
theorem laws_FnExactParseNight.mono : ∀ a0 k, LeO (laws_FnExactParseNight.f k a0) (laws_FnExactParseNight.f (k + 1) a0) := by
  intro a0 k
  obtain ⟨ih0, ih1⟩ := laws_FnExactParseNight.mono_l k
  unfold laws_FnExactParseNight.f
  repeat' first
      | (with_reducible exact ih0 _ _ _ _ _ _ _ _ _)
      | (with_reducible exact ih1 _ _ _ _ _)
      | (with_reducible exact impl_ParseNight.mono _ _)
      | (with_reducible exact laws_eqNight.mono _ _ _ _ _ _ _)
      | (with_reducible exact laws_heldNight.mono _ _ _ _ _)
      | (with_reducible exact laws_markNight.mono _ _ _ _ _)
      | (with_reducible exact spec_ParseNight.mono _ _)
      | (with_reducible exact LeO.refl _)
      | (with_reducible exact LeO.none _)
      | (with_reducible refine LeO.ite ?_ ?_)
      | (with_reducible refine LeO.bind ?_ (fun _ => ?_))
      | exact ih0 _ _ _ _ _ _ _ _ _
      | exact ih1 _ _ _ _ _
      | exact impl_ParseNight.mono _ _
      | exact laws_eqNight.mono _ _ _ _ _ _ _
      | exact laws_heldNight.mono _ _ _ _ _
      | exact laws_markNight.mono _ _ _ _ _
      | exact spec_ParseNight.mono _ _
      | exact LeO.none _
      | refine LeO.ite ?_ ?_
      | refine LeO.bind ?_ (fun _ => ?_)
set_option maxHeartbeats 8000000 in
set_option maxRecDepth 100000 in
theorem laws_FnExactParseNight.calls (k : Nat) (a0 : ByteArray) (r : Bool) (w : World) (h : laws_FnExactParseNight.f k a0 = some r) (hT : Tab w) :
  Calls Tryd.prog 9 #[.string a0] w fun e w' => e = .returned (.bool r) ∧ Below w.heap.size w w' := by
 have HT := Aside0.mk hT
 clear hT
 have hu36 := Tryd.underlying36
 have HB := Aside0.mk (Below.refl w.heap.size w)
 have H : (if (a0.size : Int) > 1048576 then (some true) else ((spec_ParseNight.f k a0).bind fun bt263 => ((impl_ParseNight.f k a0).bind fun bt270 => ((laws_eqNight.f k bt270.1 bt270.2.1 bt270.2.2.1 bt263.1 bt263.2.1 bt263.2.2.1).bind fun t277 => (if t277 = true then (laws_FnExactParseNight.j0 k a0 bt263.2.2.2 (bt270.2.2.2 != bt263.2.2.2) bt263.1 bt263.2.1 bt263.2.2.1 bt270.1 bt270.2.1 bt270.2.2.1) else (laws_FnExactParseNight.j0 k a0 bt263.2.2.2 true bt263.1 bt263.2.1 bt263.2.2.1 bt270.1 bt270.2.1 bt270.2.2.1)))))) = some r := h
 clear h
 by_cases c2 : (a0.size : Int) > 1048576
 ·
  rw [if_pos c2] at H
  have c2b0 : decide (1048576 < (a0.size : Int)) = true := decide_eq_true c2
  have c2b1 : decide (1048576 < a0.size) = true := decide_eq_true (by omega)
  clear c2
  obtain rfl := Option.some.inj H
  go_enter Tryd.func9, Tryd.ntmps9
  go_wp2
  go_ret
  exact ⟨by first | rfl | (simp [errW_none, errW_some] <;> rfl) | (simp [*, errW_none, errW_some] <;> rfl), by repeat (first | (with_reducible first | exact HB.out | apply below_alloc | apply pw_below_drewN | apply below_drew1) | exact HB.out)⟩
 ·
  rw [if_neg c2] at H
  have c2b0 : decide (1048576 < (a0.size : Int)) = false := decide_eq_false c2
  have c2b1 : decide (1048576 < a0.size) = false := decide_eq_false (by omega)
  clear c2
  replace H := Option.bind_eq_some_iff.mp H
  obtain ⟨⟨t263, t266, t267, t268⟩, A30, H⟩ := H
  replace H : ((impl_ParseNight.f k a0).bind fun bt270 => ((laws_eqNight.f k bt270.1 bt270.2.1 bt270.2.2.1 t263 t266 t267).bind fun t277 => (if t277 = true then (laws_FnExactParseNight.j0 k a0 t268 (bt270.2.2.2 != t268) t263 t266 t267 bt270.1 bt270.2.1 bt270.2.2.1) else (laws_FnExactParseNight.j0 k a0 t268 true t263 t266 t267 bt270.1 bt270.2.1 bt270.2.2.1)))) = some r := H
  have A3 := Aside0.mk A30
  clear A30
  replace H := Option.bind_eq_some_iff.mp H
  obtain ⟨⟨t270, t273, t274, t275⟩, A40, H⟩ := H
  replace H : ((laws_eqNight.f k t270 t273 t274 t263 t266 t267).bind fun t277 => (if t277 = true then (laws_FnExactParseNight.j0 k a0 t268 (t275 != t268) t263 t266 t267 t270 t273 t274) else (laws_FnExactParseNight.j0 k a0 t268 true t263 t266 t267 t270 t273 t274))) = some r := H
  have A4 := Aside0.mk A40
  clear A40
  have HC5 := Aside0.mk H
  clear H
  go_enter Tryd.func9, Tryd.ntmps9
  go_upto_region 5 with (first | ((with_reducible refine gate_callee (f := 42) rfl ?_); refine goesL_ (some 16) rfl rfl Tryd.func42 (by kernel_rfl) rfl #[.string a0] rfl (by (try simp only [List.map_toArray, List.map_cons, List.map_nil]); first | done | rfl | (simp only [List.length_drop, List.length_take]; rfl)) ?_; (with_reducible refine (spec_ParseNight.calls k a0 t263 t266 t267 t268 _ A3.out).mono ?_); rintro e w6 ⟨v264, rfl, ho0, hb⟩; refine ⟨_, rfl, ?_⟩; have n0_ := Aside0.mk (Kd.R_lower ho0 (below_size (by repeat (first | (with_reducible first | exact HB.out | apply below_alloc | apply pw_below_drewN | apply below_drew1) | exact HB.out)))); have n1_ := Aside0.mk (below_step (by repeat (first | (with_reducible first | exact HB.out | apply below_alloc | apply pw_below_drewN | apply below_drew1) | exact HB.out)) hb); clear HB; have HO265 := n0_; have HB := n1_; clear n0_ n1_; (try clear hb); (try clear hb2); (try clear hk); (try clear hi); (try clear ho0)) | ((with_reducible refine gate_dst (N := 3) rfl ?_); refine box_event ?hg (N := 3) ?hd (cs := #[.slice none 0 0, .int .i64 0, .int .i64 0]) (t := 36) ?hr ?_; (case hd => rfl); (case hg => rfl); (case hr => first | (go_simp; done) | (go_simp; rfl)); intro gb269 hg w7 hbox hb; have n0_ := Aside0.mk (Kd.R_below (Kd.pR HO265.out) hb); have n1_ := Aside0.mk (below_step (by repeat (first | (with_reducible first | exact HB.out | apply below_alloc | apply pw_below_drewN | apply below_drew1) | exact HB.out)) hb); have n2_ := Aside0.mk (hbox); have n3_ := Aside0.mk ((by rw [hg]; exact (below_size (by repeat (first | (with_reducible first | exact HB.out | apply below_alloc | apply pw_below_drewN | apply below_drew1) | exact HB.out))) : w.heap.size ≤ gb269)); have n4_ := n3_; clear HO265; clear HB; have HO265 := n0_; have HB := n1_; have BK269 := n2_; have GW269 := n3_; have GE269 := n4_; clear n0_ n1_ n2_ n3_ n4_; clear hb hbox hg; obtain ⟨Ao8, co8, eo8⟩ := Kd.R_slice HO265.out; subst eo8; have hcz9_0 : w7.cell? ⟨gb269, 0, none⟩ = some (.slice none 0 0) := (blk_cell BK269.out 0).trans rfl; have hcz9_1 : w7.cell? ⟨gb269, 1, none⟩ = some (.int .i64 0) := (blk_cell BK269.out 1).trans rfl; have hcz9_2 : w7.cell? ⟨gb269, 2, none⟩ = some (.int .i64 0) := (blk_cell BK269.out 2).trans rfl; have hfz9_0 := blk_frozen BK269.out 0; have hfz9_1 := blk_frozen BK269.out 1; have hfz9_2 := blk_frozen BK269.out 2) | ((with_reducible refine gate_callee (f := 43) rfl ?_); refine goesL_ (some 21) rfl rfl Tryd.func43 (by kernel_rfl) rfl #[.string a0] rfl (by (try simp only [List.map_toArray, List.map_cons, List.map_nil]); first | done | rfl | (simp only [List.length_drop, List.length_take]; rfl)) ?_; (with_reducible refine (impl_ParseNight.calls k a0 t270 t273 t274 t275 _ A4.out (Tab.up HT.out (by repeat (first | exact Below.refl _ _ | (with_reducible first | exact HB.out | apply below_alloc | apply pw_below_drewN | apply below_drew1 | refine below_set ?_ (Aside0.out (by assumption))) | exact HB.out)))).mono ?_); rintro e w10 ⟨v271, rfl, ho0, hb⟩; refine ⟨_, rfl, ?_⟩; have n0_ := Aside0.mk (Kd.R_elder' (by (with_reducible repeat (first | apply Kd.R_alloc | apply Kd.R_drewN | apply Kd.R_drew)); exact (Kd.R_mono (Kd.R_far (p := ⟨gb269, 2, none⟩) (Kd.R_far (p := ⟨gb269, 1, none⟩) (Kd.R_far (p := ⟨gb269, 0, none⟩) (Kd.R_types HO265.out BK269.out (by decide)) (fun _ hk => hk.2) (.slice Ao8 t263.length co8)) (fun _ hk => hk.2) (.int .i64 t266)) (fun _ hk => hk.2) (.int .i64 t267)) (fun _ h_ => h_.1))) (Kd.R_base ho0) hb); have n1_ := Aside0.mk (Kd.R_lower (Kd.R_new' ho0 (Kd.R_lt (by (with_reducible repeat (first | apply Kd.R_alloc | apply Kd.R_drewN | apply Kd.R_drew)); exact (Kd.R_mono (Kd.R_far (p := ⟨gb269, 2, none⟩) (Kd.R_far (p := ⟨gb269, 1, none⟩) (Kd.R_far (p := ⟨gb269, 0, none⟩) (Kd.R_types HO265.out BK269.out (by decide)) (fun _ hk => hk.2) (.slice Ao8 t263.length co8)) (fun _ hk => hk.2) (.int .i64 t266)) (fun _ hk => hk.2) (.int .i64 t267)) (fun _ h_ => h_.1))))) (below_size (by repeat (first | (with_reducible first | exact HB.out | apply below_alloc | apply pw_below_drewN | apply below_drew1 | refine below_set ?_ GE269.out) | exact HB.out)))); have n2_ := Aside0.mk (blk_below (g := gb269) (o := .cells #[.slice Ao8 t263.length co8, .int .i64 t266, .int .i64 t267] 36 (0, 0)) (by (with_reducible repeat (first | refine blk_drewN ?_ _ | refine blk_drew ?_ | refine blk_alloc ?_ _)); refine blk_put (cs := #[.slice Ao8 t263.length co8, .int .i64 t266, .int .i64 0]) ?_ 2 _ rfl; (with_reducible repeat (first | refine blk_drewN ?_ _ | refine blk_drew ?_ | refine blk_alloc ?_ _)); refine blk_put (cs := #[.slice Ao8 t263.length co8, .int .i64 0, .int .i64 0]) ?_ 1 _ rfl; (with_reducible repeat (first | refine blk_drewN ?_ _ | refine blk_drew ?_ | refine blk_alloc ?_ _)); refine blk_put (cs := #[.slice none 0 0, .int .i64 0, .int .i64 0]) ?_ 0 _ rfl; (with_reducible repeat (first | refine blk_drewN ?_ _ | refine blk_drew ?_ | refine blk_alloc ?_ _)); exact BK269.out) hb); have n3_ := Aside0.mk (below_step (by repeat (first | (with_reducible first | exact HB.out | apply below_alloc | apply pw_below_drewN | apply below_drew1 | refine below_set ?_ GE269.out) | exact HB.out)) hb); clear HO265; clear BK269; clear HB; have HO265 := n0_; have HO272 := n1_; have BK269 := n2_; have HB := n3_; clear n0_ n1_ n2_ n3_; (try clear hb); (try clear hb2); (try clear hk); (try clear hi); (try clear ho0)) | ((with_reducible refine gate_dst (N := 5) rfl ?_); refine box_event ?hg (N := 5) ?hd (cs := #[.slice none 0 0, .int .i64 0, .int .i64 0]) (t := 36) ?hr ?_; (case hd => rfl); (case hg => rfl); (case hr => first | (go_simp; done) | (go_simp; rfl)); intro gb276 hg w11 hbox hb; have n0_ := Aside0.mk (Kd.R_below (Kd.pR HO265.out) hb); have n1_ := Aside0.mk (Kd.R_below (Kd.pR HO272.out) hb); have n2_ := Aside0.mk (blk_below (pk BK269.out) hb); have n3_ := Aside0.mk (below_step (by repeat (first | (with_reducible first | exact HB.out | apply below_alloc | apply pw_below_drewN | apply below_drew1 | refine below_set ?_ GE269.out) | exact HB.out)) hb); have n4_ := Aside0.mk (hbox); have n5_ := Aside0.mk ((by rw [hg]; exact (below_size (by repeat (first | (with_reducible first | exact HB.out | apply below_alloc | apply pw_below_drewN | apply below_drew1 | refine below_set ?_ GE269.out) | exact HB.out))) : w.heap.size ≤ gb276)); have n6_ := n5_; have n7_ := Aside0.mk ((by rw [hg]; exact Nat.ne_of_lt (blk_lt (pk BK269.out)) : gb269 ≠ gb276)); have n8_ := Aside0.mk n7_.out.symm; clear HO265; clear HO272; clear BK269; clear HB; have HO265 := n0_; have HO272 := n1_; have BK269 := n2_; have HB := n3_; have BK276 := n4_; have GW276 := n5_; have GE276 := n6_; have NB269_276 := n7_; have NB276_269 := n8_; clear n0_ n1_ n2_ n3_ n4_ n5_ n6_ n7_ n8_; clear hb hbox hg; obtain ⟨Ao12, co12, eo12⟩ := Kd.R_slice HO272.out; subst eo12; have hnb13 := NB276_269.out; have hnc13 := NB269_276.out; have hcz14_0 : w11.cell? ⟨gb276, 0, none⟩ = some (.slice none 0 0) := (blk_cell BK276.out 0).trans rfl; have hcz14_1 : w11.cell? ⟨gb276, 1, none⟩ = some (.int .i64 0) := (blk_cell BK276.out 1).trans rfl; have hcz14_2 : w11.cell? ⟨gb276, 2, none⟩ = some (.int .i64 0) := (blk_cell BK276.out 2).trans rfl; have hfz14_0 := blk_frozen BK276.out 0; have hfz14_1 := blk_frozen BK276.out 1; have hfz14_2 := blk_frozen BK276.out 2))
  (try simp only [Act.put, List.setIfInBounds_toArray, List.set_cons_zero, List.set_cons_succ])
  go_cut [32] (fun v32 wc => ∃ (kq : Nat) (x32_4 : Bool), v32 = .bool x32_4 ∧ Aside0 (laws_FnExactParseNight.j0 kq a0 t268 x32_4 t263 t266 t267 t270 t273 t274 = some r) ∧ Aside0 (kq ≤ k) ∧ Aside0 (Kd.R (Kd.int .i64) 3 wc w.heap.size (fun k_ => some k_ ≠ ((.slice Ao12 t270.length co12) : Value).ownBlock) (.slice Ao8 t263.length co8) t263) ∧ Aside0 (Kd.R (Kd.int .i64) 3 wc w.heap.size (fun k_ => some k_ ≠ ((.slice Ao8 t263.length co8) : Value).ownBlock) (.slice Ao12 t270.length co12) t270) ∧ Aside0 (wc.heap[gb269]? = some (.cells #[(.slice Ao8 t263.length co8), .int .i64 t266, .int .i64 t267] 36 (0, 0))) ∧ Aside0 (wc.heap[gb276]? = some (.cells #[(.slice Ao12 t270.length co12), .int .i64 t273, .int .i64 t274] 36 (0, 0))) ∧ Aside0 (Below w.heap.size w wc))
  case first =>
   have H := HC5.out
   clear HC5
   replace H := Option.bind_eq_some_iff.mp H
   obtain ⟨t277, A150, H⟩ := H
   replace H : (if t277 = true then (laws_FnExactParseNight.j0 k a0 t268 (t275 != t268) t263 t266 t267 t270 t273 t274) else (laws_FnExactParseNight.j0 k a0 t268 true t263 t266 t267 t270 t273 t274)) = some r := H
   have A15 := Aside0.mk A150
   clear A150
   by_cases c16 : t277 = true
   ·
    subst c16
    have H1 : (laws_FnExactParseNight.j0 k a0 t268 (t275 != t268) t263 t266 t267 t270 t273 t274) = some r := by rw [if_pos rfl] at H; exact H
    clear H
    have H := H1
    clear H1
    have H' := Aside0.mk H
    clear H
    have hnb17 := NB276_269.out
    have hnc17 := NB269_276.out
    have hcz18_0 : w11.cell? ⟨gb276, 0, none⟩ = some (.slice none 0 0) := (blk_cell BK276.out 0).trans rfl
    have hcz18_1 : w11.cell? ⟨gb276, 1, none⟩ = some (.int .i64 0) := (blk_cell BK276.out 1).trans rfl
    have hcz18_2 : w11.cell? ⟨gb276, 2, none⟩ = some (.int .i64 0) := (blk_cell BK276.out 2).trans rfl
    have hfz18_0 := blk_frozen BK276.out 0
    have hfz18_1 := blk_frozen BK276.out 1
    have hfz18_2 := blk_frozen BK276.out 2
    have hcz19_0 : w11.cell? ⟨gb269, 0, none⟩ = some (.slice Ao8 t263.length co8) := (blk_cell BK269.out 0).trans rfl
    have hcz19_1 : w11.cell? ⟨gb269, 1, none⟩ = some (.int .i64 t266) := (blk_cell BK269.out 1).trans rfl
    have hcz19_2 : w11.cell? ⟨gb269, 2, none⟩ = some (.int .i64 t267) := (blk_cell BK269.out 2).trans rfl
    have hfz19_0 := blk_frozen BK269.out 0
    have hfz19_1 := blk_frozen BK269.out 1
    have hfz19_2 := blk_frozen BK269.out 2
    go_wp2_with (first | ((with_reducible refine gate_callee (f := 22) rfl ?_); refine goesL_ (some 26) rfl rfl Tryd.func22 (by kernel_rfl) rfl #[.agg #[.slice Ao12 t270.length co12, .int .i64 t273, .int .i64 t274], .agg #[.slice Ao8 t263.length co8, .int .i64 t266, .int .i64 t267]] rfl (by (try simp only [List.map_toArray, List.map_cons, List.map_nil]); first | done | rfl | (simp only [List.length_drop, List.length_take]; rfl)) ?_; (with_reducible refine (laws_eqNight.calls k _ _ t270 t273 t274 _ _ t263 t266 t267 true _ ?side1 ?side2 ?side3 ?side4 A15.out).mono ?_); (case side1 => refine (Kd.R_reads' (e := 3) (base := w.heap.size) (ok := fun k_ => (True ∧ some k_ ≠ (.slice Ao8 t263.length co8 : Value).ownBlock)) (n := t270.length) (c := co12) ?_).2.2; exact (by (with_reducible repeat (first | apply Kd.R_alloc | apply Kd.R_drewN | apply Kd.R_drew)); exact (Kd.R_mono (Kd.R_far (p := ⟨gb276, 2, none⟩) (Kd.R_far (p := ⟨gb276, 1, none⟩) (Kd.R_far (p := ⟨gb276, 0, none⟩) (Kd.R_types HO272.out BK276.out (by decide)) (fun _ hk => hk.2) (.slice Ao12 t270.length co12)) (fun _ hk => hk.2) (.int .i64 t273)) (fun _ hk => hk.2) (.int .i64 t274)) (fun _ h_ => h_.1)))); (case side2 => exact (Kd.R_reads' HO272.out).2.1); (case side3 => refine (Kd.R_reads' (e := 3) (base := w.heap.size) (ok := fun k_ => (True ∧ some k_ ≠ (.slice Ao12 t270.length co12 : Value).ownBlock)) (n := t263.length) (c := co8) ?_).2.2; exact (by (with_reducible repeat (first | apply Kd.R_alloc | apply Kd.R_drewN | apply Kd.R_drew)); exact (Kd.R_mono (Kd.R_far (p := ⟨gb276, 2, none⟩) (Kd.R_far (p := ⟨gb276, 1, none⟩) (Kd.R_far (p := ⟨gb276, 0, none⟩) (Kd.R_types HO265.out BK276.out (by decide)) (fun _ hk => hk.2) (.slice Ao12 t270.length co12)) (fun _ hk => hk.2) (.int .i64 t273)) (fun _ hk => hk.2) (.int .i64 t274)) (fun _ h_ => h_.1)))); (case side4 => exact (Kd.R_reads' HO265.out).2.1); rintro e w20 ⟨rfl, hb⟩; refine ⟨_, rfl, ?_⟩; have n0_ := Aside0.mk (Kd.R_below (by (with_reducible repeat (first | apply Kd.R_alloc | apply Kd.R_drewN | apply Kd.R_drew)); exact (Kd.R_mono (Kd.R_far (p := ⟨gb276, 2, none⟩) (Kd.R_far (p := ⟨gb276, 1, none⟩) (Kd.R_far (p := ⟨gb276, 0, none⟩) (Kd.R_types HO265.out BK276.out (by decide)) (fun _ hk => hk.2) (.slice Ao12 t270.length co12)) (fun _ hk => hk.2) (.int .i64 t273)) (fun _ hk => hk.2) (.int .i64 t274)) (fun _ h_ => h_.1))) hb); have n1_ := Aside0.mk (Kd.R_below (by (with_reducible repeat (first | apply Kd.R_alloc | apply Kd.R_drewN | apply Kd.R_drew)); exact (Kd.R_mono (Kd.R_far (p := ⟨gb276, 2, none⟩) (Kd.R_far (p := ⟨gb276, 1, none⟩) (Kd.R_far (p := ⟨gb276, 0, none⟩) (Kd.R_types HO272.out BK276.out (by decide)) (fun _ hk => hk.2) (.slice Ao12 t270.length co12)) (fun _ hk => hk.2) (.int .i64 t273)) (fun _ hk => hk.2) (.int .i64 t274)) (fun _ h_ => h_.1))) hb); have n2_ := Aside0.mk (blk_below (g := gb269) (o := .cells #[.slice Ao8 t263.length co8, .int .i64 t266, .int .i64 t267] 36 (0, 0)) (by (with_reducible repeat (first | refine blk_drewN ?_ _ | refine blk_drew ?_ | refine blk_alloc ?_ _)); refine blk_far ?_ NB269_276.out _; (with_reducible repeat (first | refine blk_drewN ?_ _ | refine blk_drew ?_ | refine blk_alloc ?_ _)); refine blk_far ?_ NB269_276.out _; (with_reducible repeat (first | refine blk_drewN ?_ _ | refine blk_drew ?_ | refine blk_alloc ?_ _)); refine blk_far ?_ NB269_276.out _; (with_reducible repeat (first | refine blk_drewN ?_ _ | refine blk_drew ?_ | refine blk_alloc ?_ _)); exact BK269.out) hb); have n3_ := Aside0.mk (blk_below (g := gb276) (o := .cells #[.slice Ao12 t270.length co12, .int .i64 t273, .int .i64 t274] 36 (0, 0)) (by (with_reducible repeat (first | refine blk_drewN ?_ _ | refine blk_drew ?_ | refine blk_alloc ?_ _)); refine blk_put (cs := #[.slice Ao12 t270.length co12, .int .i64 t273, .int .i64 0]) ?_ 2 _ rfl; (with_reducible repeat (first | refine blk_drewN ?_ _ | refine blk_drew ?_ | refine blk_alloc ?_ _)); refine blk_put (cs := #[.slice Ao12 t270.length co12, .int .i64 0, .int .i64 0]) ?_ 1 _ rfl; (with_reducible repeat (first | refine blk_drewN ?_ _ | refine blk_drew ?_ | refine blk_alloc ?_ _)); refine blk_put (cs := #[.slice none 0 0, .int .i64 0, .int .i64 0]) ?_ 0 _ rfl; (with_reducible repeat (first | refine blk_drewN ?_ _ | refine blk_drew ?_ | refine blk_alloc ?_ _)); exact BK276.out) hb); have n4_ := Aside0.mk (below_step (by repeat (first | (with_reducible first | exact HB.out | apply below_alloc | apply pw_below_drewN | apply below_drew1 | refine below_set ?_ (Aside0.out (by assumption))) | exact HB.out)) hb); clear HO265; clear HO272; clear BK269; clear BK276; clear HB; have HO265 := n0_; have HO272 := n1_; have BK269 := n2_; have BK276 := n3_; have HB := n4_; clear n0_ n1_ n2_ n3_ n4_; (try clear hb); (try clear hb2); (try clear hk); (try clear hi)))
    go_meet
    case rel => exact ⟨_, ((t275 != t268)), (by first | rfl | (simp; done) | (simp [*]; done)), H', ⟨by first | omega | exact Nat.le_refl _⟩, ⟨by (with_reducible repeat (first | apply Kd.R_alloc | apply Kd.R_drewN | apply Kd.R_drew)); exact Kd.R_mono HO265.out (fun _ hk => hk.2)⟩, ⟨by (with_reducible repeat (first | apply Kd.R_alloc | apply Kd.R_drewN | apply Kd.R_drew)); exact Kd.R_mono HO272.out (fun _ hk => hk.2)⟩, ⟨by (with_reducible repeat (first | refine blk_drewN ?_ _ | refine blk_drew ?_ | refine blk_alloc ?_ _)); exact BK269.out⟩, ⟨by (with_reducible repeat (first | refine blk_drewN ?_ _ | refine blk_drew ?_ | refine blk_alloc ?_ _)); exact BK276.out⟩, ⟨by repeat (first | (with_reducible first | exact HB.out | apply below_alloc | apply pw_below_drewN | apply below_drew1 | refine below_set ?_ (Aside0.out (by assumption))) | exact HB.out)⟩⟩
   ·
    replace c16 := Bool.eq_false_iff.mpr c16
    subst c16
    have H1 : (laws_FnExactParseNight.j0 k a0 t268 true t263 t266 t267 t270 t273 t274) = some r := by rw [if_neg (show ¬ (false = true) by decide)] at H; exact H
    clear H
    have H := H1
    clear H1
    have H' := Aside0.mk H
    clear H
    have hnb21 := NB276_269.out
    have hnc21 := NB269_276.out
    have hcz22_0 : w11.cell? ⟨gb276, 0, none⟩ = some (.slice none 0 0) := (blk_cell BK276.out 0).trans rfl
    have hcz22_1 : w11.cell? ⟨gb276, 1, none⟩ = some (.int .i64 0) := (blk_cell BK276.out 1).trans rfl
    have hcz22_2 : w11.cell? ⟨gb276, 2, none⟩ = some (.int .i64 0) := (blk_cell BK276.out 2).trans rfl
    have hfz22_0 := blk_frozen BK276.out 0
    have hfz22_1 := blk_frozen BK276.out 1
    have hfz22_2 := blk_frozen BK276.out 2
    have hcz23_0 : w11.cell? ⟨gb269, 0, none⟩ = some (.slice Ao8 t263.length co8) := (blk_cell BK269.out 0).trans rfl
    have hcz23_1 : w11.cell? ⟨gb269, 1, none⟩ = some (.int .i64 t266) := (blk_cell BK269.out 1).trans rfl
    have hcz23_2 : w11.cell? ⟨gb269, 2, none⟩ = some (.int .i64 t267) := (blk_cell BK269.out 2).trans rfl
    have hfz23_0 := blk_frozen BK269.out 0
    have hfz23_1 := blk_frozen BK269.out 1
    have hfz23_2 := blk_frozen BK269.out 2
    go_wp2_with (first | ((with_reducible refine gate_callee (f := 22) rfl ?_); refine goesL_ (some 26) rfl rfl Tryd.func22 (by kernel_rfl) rfl #[.agg #[.slice Ao12 t270.length co12, .int .i64 t273, .int .i64 t274], .agg #[.slice Ao8 t263.length co8, .int .i64 t266, .int .i64 t267]] rfl (by (try simp only [List.map_toArray, List.map_cons, List.map_nil]); first | done | rfl | (simp only [List.length_drop, List.length_take]; rfl)) ?_; (with_reducible refine (laws_eqNight.calls k _ _ t270 t273 t274 _ _ t263 t266 t267 false _ ?side1 ?side2 ?side3 ?side4 A15.out).mono ?_); (case side1 => refine (Kd.R_reads' (e := 3) (base := w.heap.size) (ok := fun k_ => (True ∧ some k_ ≠ (.slice Ao8 t263.length co8 : Value).ownBlock)) (n := t270.length) (c := co12) ?_).2.2; exact (by (with_reducible repeat (first | apply Kd.R_alloc | apply Kd.R_drewN | apply Kd.R_drew)); exact (Kd.R_mono (Kd.R_far (p := ⟨gb276, 2, none⟩) (Kd.R_far (p := ⟨gb276, 1, none⟩) (Kd.R_far (p := ⟨gb276, 0, none⟩) (Kd.R_types HO272.out BK276.out (by decide)) (fun _ hk => hk.2) (.slice Ao12 t270.length co12)) (fun _ hk => hk.2) (.int .i64 t273)) (fun _ hk => hk.2) (.int .i64 t274)) (fun _ h_ => h_.1)))); (case side2 => exact (Kd.R_reads' HO272.out).2.1); (case side3 => refine (Kd.R_reads' (e := 3) (base := w.heap.size) (ok := fun k_ => (True ∧ some k_ ≠ (.slice Ao12 t270.length co12 : Value).ownBlock)) (n := t263.length) (c := co8) ?_).2.2; exact (by (with_reducible repeat (first | apply Kd.R_alloc | apply Kd.R_drewN | apply Kd.R_drew)); exact (Kd.R_mono (Kd.R_far (p := ⟨gb276, 2, none⟩) (Kd.R_far (p := ⟨gb276, 1, none⟩) (Kd.R_far (p := ⟨gb276, 0, none⟩) (Kd.R_types HO265.out BK276.out (by decide)) (fun _ hk => hk.2) (.slice Ao12 t270.length co12)) (fun _ hk => hk.2) (.int .i64 t273)) (fun _ hk => hk.2) (.int .i64 t274)) (fun _ h_ => h_.1)))); (case side4 => exact (Kd.R_reads' HO265.out).2.1); rintro e w24 ⟨rfl, hb⟩; refine ⟨_, rfl, ?_⟩; have n0_ := Aside0.mk (Kd.R_below (by (with_reducible repeat (first | apply Kd.R_alloc | apply Kd.R_drewN | apply Kd.R_drew)); exact (Kd.R_mono (Kd.R_far (p := ⟨gb276, 2, none⟩) (Kd.R_far (p := ⟨gb276, 1, none⟩) (Kd.R_far (p := ⟨gb276, 0, none⟩) (Kd.R_types HO265.out BK276.out (by decide)) (fun _ hk => hk.2) (.slice Ao12 t270.length co12)) (fun _ hk => hk.2) (.int .i64 t273)) (fun _ hk => hk.2) (.int .i64 t274)) (fun _ h_ => h_.1))) hb); have n1_ := Aside0.mk (Kd.R_below (by (with_reducible repeat (first | apply Kd.R_alloc | apply Kd.R_drewN | apply Kd.R_drew)); exact (Kd.R_mono (Kd.R_far (p := ⟨gb276, 2, none⟩) (Kd.R_far (p := ⟨gb276, 1, none⟩) (Kd.R_far (p := ⟨gb276, 0, none⟩) (Kd.R_types HO272.out BK276.out (by decide)) (fun _ hk => hk.2) (.slice Ao12 t270.length co12)) (fun _ hk => hk.2) (.int .i64 t273)) (fun _ hk => hk.2) (.int .i64 t274)) (fun _ h_ => h_.1))) hb); have n2_ := Aside0.mk (blk_below (g := gb269) (o := .cells #[.slice Ao8 t263.length co8, .int .i64 t266, .int .i64 t267] 36 (0, 0)) (by (with_reducible repeat (first | refine blk_drewN ?_ _ | refine blk_drew ?_ | refine blk_alloc ?_ _)); refine blk_far ?_ NB269_276.out _; (with_reducible repeat (first | refine blk_drewN ?_ _ | refine blk_drew ?_ | refine blk_alloc ?_ _)); refine blk_far ?_ NB269_276.out _; (with_reducible repeat (first | refine blk_drewN ?_ _ | refine blk_drew ?_ | refine blk_alloc ?_ _)); refine blk_far ?_ NB269_276.out _; (with_reducible repeat (first | refine blk_drewN ?_ _ | refine blk_drew ?_ | refine blk_alloc ?_ _)); exact BK269.out) hb); have n3_ := Aside0.mk (blk_below (g := gb276) (o := .cells #[.slice Ao12 t270.length co12, .int .i64 t273, .int .i64 t274] 36 (0, 0)) (by (with_reducible repeat (first | refine blk_drewN ?_ _ | refine blk_drew ?_ | refine blk_alloc ?_ _)); refine blk_put (cs := #[.slice Ao12 t270.length co12, .int .i64 t273, .int .i64 0]) ?_ 2 _ rfl; (with_reducible repeat (first | refine blk_drewN ?_ _ | refine blk_drew ?_ | refine blk_alloc ?_ _)); refine blk_put (cs := #[.slice Ao12 t270.length co12, .int .i64 0, .int .i64 0]) ?_ 1 _ rfl; (with_reducible repeat (first | refine blk_drewN ?_ _ | refine blk_drew ?_ | refine blk_alloc ?_ _)); refine blk_put (cs := #[.slice none 0 0, .int .i64 0, .int .i64 0]) ?_ 0 _ rfl; (with_reducible repeat (first | refine blk_drewN ?_ _ | refine blk_drew ?_ | refine blk_alloc ?_ _)); exact BK276.out) hb); have n4_ := Aside0.mk (below_step (by repeat (first | (with_reducible first | exact HB.out | apply below_alloc | apply pw_below_drewN | apply below_drew1 | refine below_set ?_ (Aside0.out (by assumption))) | exact HB.out)) hb); clear HO265; clear HO272; clear BK269; clear BK276; clear HB; have HO265 := n0_; have HO272 := n1_; have BK269 := n2_; have BK276 := n3_; have HB := n4_; clear n0_ n1_ n2_ n3_ n4_; (try clear hb); (try clear hb2); (try clear hk); (try clear hi)))
    go_meet
    case rel => exact ⟨_, (true), (by first | rfl | (simp; done) | (simp [*]; done)), H', ⟨by first | omega | exact Nat.le_refl _⟩, ⟨by (with_reducible repeat (first | apply Kd.R_alloc | apply Kd.R_drewN | apply Kd.R_drew)); exact Kd.R_mono HO265.out (fun _ hk => hk.2)⟩, ⟨by (with_reducible repeat (first | apply Kd.R_alloc | apply Kd.R_drewN | apply Kd.R_drew)); exact Kd.R_mono HO272.out (fun _ hk => hk.2)⟩, ⟨by (with_reducible repeat (first | refine blk_drewN ?_ _ | refine blk_drew ?_ | refine blk_alloc ?_ _)); exact BK269.out⟩, ⟨by (with_reducible repeat (first | refine blk_drewN ?_ _ | refine blk_drew ?_ | refine blk_alloc ?_ _)); exact BK276.out⟩, ⟨by repeat (first | (with_reducible first | exact HB.out | apply below_alloc | apply pw_below_drewN | apply below_drew1 | refine below_set ?_ (Aside0.out (by assumption))) | exact HB.out)⟩⟩
  case rest =>
   clear HC5
   try clear c1
   try clear c2
   try clear c2b0
   try clear c2b1
   try clear p2
   try clear c4
   try clear c9
   try clear c13
   try clear c16
   try clear c17
   try clear c21
   try clear c22
   try clear hcz14_0
   try clear hcz14_1
   try clear hcz14_2
   try clear hcz18_0
   try clear hcz18_1
   try clear hcz18_2
   try clear hcz19_0
   try clear hcz19_1
   try clear hcz19_2
   try clear hcz22_0
   try clear hcz22_1
   try clear hcz22_2
   try clear hcz23_0
   try clear hcz23_1
   try clear hcz23_2
   try clear hcz9_0
   try clear hcz9_1
   try clear hcz9_2
   try clear hfz14_0
   try clear hfz14_1
   try clear hfz14_2
   try clear hfz18_0
   try clear hfz18_1
   try clear hfz18_2
   try clear hfz19_0
   try clear hfz19_1
   try clear hfz19_2
   try clear hfz22_0
   try clear hfz22_1
   try clear hfz22_2
   try clear hfz23_0
   try clear hfz23_1
   try clear hfz23_2
   try clear hfz9_0
   try clear hfz9_1
   try clear hfz9_2
   obtain ⟨kq, x32_4, rfl, HA, HJ4, HO_270000, HO_277000, BK269, BK276, HB⟩ := hcut
   cases kq with
   | zero => exact absurd HA.out (by simp [laws_FnExactParseNight.j0])
   | succ kj4 =>
    have H := HA.out
    clear HA
    simp only [laws_FnExactParseNight.j0] at H
    by_cases c25 : x32_4 = true
    ·
     subst c25
     have H1 : (none) = some r := by rw [if_pos rfl] at H; exact H
     clear H
     have H := H1
     clear H1
     exact absurd H (by simp)
    ·
     replace c25 := Bool.eq_false_iff.mpr c25
     subst c25
     have H1 : ((laws_markNight.f kj4 t270 t273 t274 1).bind fun bt278 => ((laws_heldNight.f kj4 bt278.2 t273 t274 1).bind fun t280 => (if t280 < 0 then (none) else (if t280 = bt278.1 then ((impl_ParseNight.f kj4 a0).bind fun bt281 => ((laws_eqNight.f kj4 bt281.1 bt281.2.1 bt281.2.2.1 t263 t266 t267).bind fun t288 => (if t288 = true then (laws_FnExactParseNight.j1 kj4 bt278.1 (bt281.2.2.2 != t268) bt278.2 t273 t274) else (laws_FnExactParseNight.j1 kj4 bt278.1 true bt278.2 t273 t274)))) else (none))))) = some r := by rw [if_neg (show ¬ (false = true) by decide)] at H; exact H
     clear H
     have H := H1
     clear H1
     replace H := Option.bind_eq_some_iff.mp H
     obtain ⟨⟨t278, t279⟩, A260, H⟩ := H
     replace H : ((laws_heldNight.f kj4 t279 t273 t274 1).bind fun t280 => (if t280 < 0 then (none) else (if t280 = t278 then ((impl_ParseNight.f kj4 a0).bind fun bt281 => ((laws_eqNight.f kj4 bt281.1 bt281.2.1 bt281.2.2.1 t263 t266 t267).bind fun t288 => (if t288 = true then (laws_FnExactParseNight.j1 kj4 t278 (bt281.2.2.2 != t268) t279 t273 t274) else (laws_FnExactParseNight.j1 kj4 t278 true t279 t273 t274)))) else (none)))) = some r := H
     have A26 := Aside0.mk A260
     clear A260
     replace H := Option.bind_eq_some_iff.mp H
     obtain ⟨t280, A270, H⟩ := H
     replace H : (if t280 < 0 then (none) else (if t280 = t278 then ((impl_ParseNight.f kj4 a0).bind fun bt281 => ((laws_eqNight.f kj4 bt281.1 bt281.2.1 bt281.2.2.1 t263 t266 t267).bind fun t288 => (if t288 = true then (laws_FnExactParseNight.j1 kj4 t278 (bt281.2.2.2 != t268) t279 t273 t274) else (laws_FnExactParseNight.j1 kj4 t278 true t279 t273 t274)))) else (none))) = some r := H
     have A27 := Aside0.mk A270
     clear A270
     by_cases c28 : t280 < 0
     ·
      rw [if_pos c28] at H
      exact absurd H (by simp)
     ·
      rw [if_neg c28] at H
      have c28b0 : decide (t280 < 0) = false := decide_eq_false c28
      clear c28
      by_cases c29 : t280 = t278
      ·
       rw [if_pos c29] at H
       have c29b0 : (t280 == t278) = true := beq_iff_eq.mpr c29
       have c29b1 : (t280 != t278) = false := bne_eq_false_iff_eq.mpr c29
       clear c29
       replace H := Option.bind_eq_some_iff.mp H
       obtain ⟨⟨t281, t284, t285, t286⟩, A300, H⟩ := H
       replace H : ((laws_eqNight.f kj4 t281 t284 t285 t263 t266 t267).bind fun t288 => (if t288 = true then (laws_FnExactParseNight.j1 kj4 t278 (t286 != t268) t279 t273 t274) else (laws_FnExactParseNight.j1 kj4 t278 true t279 t273 t274))) = some r := H
       have A30 := Aside0.mk A300
       clear A300
       have HC31 := Aside0.mk H
       clear H
       have hnb32 := NB276_269.out
       have hnc32 := NB269_276.out
       have hcz33_0 : wc.cell? ⟨gb276, 0, none⟩ = some (.slice Ao12 t270.length co12) := (blk_cell BK276.out 0).trans rfl
       have hcz33_1 : wc.cell? ⟨gb276, 1, none⟩ = some (.int .i64 t273) := (blk_cell BK276.out 1).trans rfl
       have hcz33_2 : wc.cell? ⟨gb276, 2, none⟩ = some (.int .i64 t274) := (blk_cell BK276.out 2).trans rfl
       have hfz33_0 := blk_frozen BK276.out 0
       have hfz33_1 := blk_frozen BK276.out 1
       have hfz33_2 := blk_frozen BK276.out 2
       go_upto_region 16 with (first | ((with_reducible refine gate_callee (f := 44) rfl ?_); refine goesL_ (some 35) rfl rfl Tryd.func44 (by kernel_rfl) rfl #[.agg #[.slice Ao12 t270.length co12, .int .i64 t273, .int .i64 t274], .int .i64 1] rfl (by (try simp only [List.map_toArray, List.map_cons, List.map_nil]); first | done | rfl | (simp only [List.length_drop, List.length_take]; rfl)) ?_; (with_reducible refine (laws_markNight.calls kj4 (fun k_ => some k_ = (.slice Ao12 t270.length co12 : Value).ownBlock) (.slice Ao12 t270.length co12) t270 t273 t274 1 t278 t279 w _ ?side1 ?side2 A26.out).mono ?_); (case side1 => repeat (first | (with_reducible first | exact HB.out | apply below_alloc | apply pw_below_drewN | apply below_drew1 | refine below_set ?_ (Aside0.out (by assumption))) | exact HB.out)); (case side2 => exact Kd.R_tight rfl HO_277000.out); rintro e w34 ⟨rfl, hy0, hb, hkp⟩; refine ⟨_, rfl, ?_⟩; have n0_ := Aside0.mk (Kd.R_mono (ok' := fun k_ => some k_ ≠ (.slice Ao12 t270.length co12 : Value).ownBlock) (Kd.R_keptB (HO_270000.out) hkp (fun k_ hk_ hs_ => (hk_) hs_)) (fun k_ hk_ => hk_.1)); have n1_ := Aside0.mk (Kd.R_reok rfl hy0 (fun k_ e_ => HO_277000.out.1 k_ e_)); have n2_ := Aside0.mk (blk_kept (pk BK269.out) hkp (fun hs_ => (fun e_ => (Kd.R_ne HO_277000.out BK269.out (by decide)) e_) hs_)); have n3_ := Aside0.mk (blk_kept (pk BK276.out) hkp (fun hs_ => (fun e_ => (Kd.R_ne HO_277000.out BK276.out (by decide)) e_) hs_)); have n4_ := Aside0.mk (hb); clear HO_270000; clear HO_277000; clear BK269; clear BK276; clear HB; have HO_270000 := n0_; have HO_277000 := n1_; have BK269 := n2_; have BK276 := n3_; have HB := n4_; clear n0_ n1_ n2_ n3_ n4_; (try clear hb); (try clear hkp); (try clear hy0); have hcz35_0 : w34.cell? ⟨gb276, 0, none⟩ = some (.slice Ao12 t270.length co12) := (blk_cell BK276.out 0).trans rfl; have hcz35_1 : w34.cell? ⟨gb276, 1, none⟩ = some (.int .i64 t273) := (blk_cell BK276.out 1).trans rfl; have hcz35_2 : w34.cell? ⟨gb276, 2, none⟩ = some (.int .i64 t274) := (blk_cell BK276.out 2).trans rfl; have hfz35_0 := blk_frozen BK276.out 0; have hfz35_1 := blk_frozen BK276.out 1; have hfz35_2 := blk_frozen BK276.out 2) | ((with_reducible refine gate_callee (f := 45) rfl ?_); refine goesL_ (some 38) rfl rfl Tryd.func45 (by kernel_rfl) rfl #[.agg #[.slice Ao12 t279.length co12, .int .i64 t273, .int .i64 t274], .int .i64 1] rfl (by (try simp only [List.map_toArray, List.map_cons, List.map_nil]); first | done | (rw [show t279.length = t270.length from (Kd.R_reads' HO_277000.out).1.symm] <;> rfl) | rfl | (simp only [List.length_drop, List.length_take]; rfl)) ?_; (with_reducible refine (laws_heldNight.calls kj4 _ _ t279 t273 t274 1 t280 _ ?side1 ?side2 A27.out).mono ?_); (case side1 => repeat (first | exact (Kd.R_reads' HO_277000.out).2.2 | (with_reducible refine Kd.C_alloc ?_ _) | (with_reducible refine Kd.C_drewN ?_ _) | (with_reducible refine Kd.C_drew ?_))); (case side2 => rw [show t279.length = t270.length from (Kd.R_reads' HO_277000.out).1.symm]; exact (Kd.R_reads' HO_277000.out).2.1); rintro e w36 ⟨rfl, hb⟩; refine ⟨_, rfl, ?_⟩; have n0_ := Aside0.mk (Kd.R_below (Kd.pR HO_270000.out) hb); have n1_ := Aside0.mk (Kd.R_below (Kd.pR HO_277000.out) hb); have n2_ := Aside0.mk (blk_below (pk BK269.out) hb); have n3_ := Aside0.mk (blk_below (pk BK276.out) hb); have n4_ := Aside0.mk (below_step (by repeat (first | (with_reducible first | exact HB.out | apply below_alloc | apply pw_below_drewN | apply below_drew1 | refine below_set ?_ (Aside0.out (by assumption))) | exact HB.out)) hb); clear HO_270000; clear HO_277000; clear BK269; clear BK276; clear HB; have HO_270000 := n0_; have HO_277000 := n1_; have BK269 := n2_; have BK276 := n3_; have HB := n4_; clear n0_ n1_ n2_ n3_ n4_; (try clear hb); (try clear hb2); (try clear hk); (try clear hi)) | ((with_reducible refine gate_callee (f := 43) rfl ?_); refine goesL_ (some 46) rfl rfl Tryd.func43 (by kernel_rfl) rfl #[.string a0] rfl (by (try simp only [List.map_toArray, List.map_cons, List.map_nil]); first | done | rfl | (simp only [List.length_drop, List.length_take]; rfl)) ?_; (with_reducible refine (impl_ParseNight.calls kj4 a0 t281 t284 t285 t286 _ A30.out (Tab.up HT.out (by repeat (first | exact Below.refl _ _ | (with_reducible first | exact HB.out | apply below_alloc | apply pw_below_drewN | apply below_drew1 | refine below_set ?_ (Aside0.out (by assumption))) | exact HB.out)))).mono ?_); rintro e w37 ⟨v282, rfl, ho0, hb⟩; refine ⟨_, rfl, ?_⟩; have n0_ := Aside0.mk (Kd.R_elder' (Kd.pR HO_270000.out) (Kd.R_base ho0) hb); have n1_ := Aside0.mk (Kd.R_elder' (Kd.pR HO_277000.out) (Kd.R_base ho0) hb); have n2_ := Aside0.mk (Kd.R_lower (Kd.R_new' (Kd.R_new' ho0 (Kd.R_lt (Kd.pR HO_270000.out))) (Kd.R_lt (Kd.pR HO_277000.out))) (below_size (by repeat (first | (with_reducible first | exact HB.out | apply below_alloc | apply pw_below_drewN | apply below_drew1 | refine below_set ?_ (Aside0.out (by assumption))) | exact HB.out)))); have n3_ := Aside0.mk (blk_below (pk BK269.out) hb); have n4_ := Aside0.mk (blk_below (pk BK276.out) hb); have n5_ := Aside0.mk (below_step (by repeat (first | (with_reducible first | exact HB.out | apply below_alloc | apply pw_below_drewN | apply below_drew1 | refine below_set ?_ (Aside0.out (by assumption))) | exact HB.out)) hb); clear HO_270000; clear HO_277000; clear BK269; clear BK276; clear HB; have HO_270000 := n0_; have HO_277000 := n1_; have HO283 := n2_; have BK269 := n3_; have BK276 := n4_; have HB := n5_; clear n0_ n1_ n2_ n3_ n4_ n5_; (try clear hb); (try clear hb2); (try clear hk); (try clear hi); (try clear ho0)) | ((with_reducible refine gate_dst (N := 9) rfl ?_); refine box_event ?hg (N := 9) ?hd (cs := #[.slice none 0 0, .int .i64 0, .int .i64 0]) (t := 36) ?hr ?_; (case hd => rfl); (case hg => rfl); (case hr => first | (go_simp; done) | (go_simp; rfl)); intro gb287 hg w38 hbox hb; have n0_ := Aside0.mk (Kd.R_below (Kd.pR HO_270000.out) hb); have n1_ := Aside0.mk (Kd.R_below (Kd.pR HO_277000.out) hb); have n2_ := Aside0.mk (Kd.R_below (Kd.pR HO283.out) hb); have n3_ := Aside0.mk (blk_below (pk BK269.out) hb); have n4_ := Aside0.mk (blk_below (pk BK276.out) hb); have n5_ := Aside0.mk (below_step (by repeat (first | (with_reducible first | exact HB.out | apply below_alloc | apply pw_below_drewN | apply below_drew1 | refine below_set ?_ (Aside0.out (by assumption))) | exact HB.out)) hb); have n6_ := Aside0.mk (hbox); have n7_ := Aside0.mk ((by rw [hg]; exact (below_size (by repeat (first | (with_reducible first | exact HB.out | apply below_alloc | apply pw_below_drewN | apply below_drew1 | refine below_set ?_ (Aside0.out (by assumption))) | exact HB.out))) : w.heap.size ≤ gb287)); have n8_ := n7_; have n9_ := Aside0.mk ((by rw [hg]; exact Nat.ne_of_lt (blk_lt (pk BK269.out)) : gb269 ≠ gb287)); have n10_ := Aside0.mk n9_.out.symm; have n11_ := Aside0.mk ((by rw [hg]; exact Nat.ne_of_lt (blk_lt (pk BK276.out)) : gb276 ≠ gb287)); have n12_ := Aside0.mk n11_.out.symm; clear HO_270000; clear HO_277000; clear HO283; clear BK269; clear BK276; clear HB; have HO_270000 := n0_; have HO_277000 := n1_; have HO283 := n2_; have BK269 := n3_; have BK276 := n4_; have HB := n5_; have BK287 := n6_; have GW287 := n7_; have GE287 := n8_; have NB269_287 := n9_; have NB287_269 := n10_; have NB276_287 := n11_; have NB287_276 := n12_; clear n0_ n1_ n2_ n3_ n4_ n5_ n6_ n7_ n8_ n9_ n10_ n11_ n12_; clear hb hbox hg; obtain ⟨Ao39, co39, eo39⟩ := Kd.R_slice HO283.out; subst eo39; have hnb40 := NB287_269.out; have hnc40 := NB269_287.out; have hnb41 := NB287_276.out; have hnc41 := NB276_287.out; have hcz42_0 : w38.cell? ⟨gb287, 0, none⟩ = some (.slice none 0 0) := (blk_cell BK287.out 0).trans rfl; have hcz42_1 : w38.cell? ⟨gb287, 1, none⟩ = some (.int .i64 0) := (blk_cell BK287.out 1).trans rfl; have hcz42_2 : w38.cell? ⟨gb287, 2, none⟩ = some (.int .i64 0) := (blk_cell BK287.out 2).trans rfl; have hfz42_0 := blk_frozen BK287.out 0; have hfz42_1 := blk_frozen BK287.out 1; have hfz42_2 := blk_frozen BK287.out 2))
       (try simp only [Act.put, List.setIfInBounds_toArray, List.set_cons_zero, List.set_cons_succ])
       go_cut [57] (fun v57 wc => ∃ (kq : Nat) (x57_30 : Bool), v57 = .bool x57_30 ∧ Aside0 (laws_FnExactParseNight.j1 kq t278 x57_30 t279 t273 t274 = some r) ∧ Aside0 (kq ≤ kj4) ∧ Aside0 (Kd.R (Kd.int .i64) 3 wc w.heap.size (fun k_ => some k_ ≠ ((.slice Ao12 t270.length co12) : Value).ownBlock ∧ some k_ ≠ ((.slice Ao39 t281.length co39) : Value).ownBlock) (.slice Ao8 t263.length co8) t263) ∧ Aside0 (Kd.R (Kd.int .i64) 3 wc w.heap.size (fun k_ => some k_ ≠ ((.slice Ao8 t263.length co8) : Value).ownBlock ∧ some k_ ≠ ((.slice Ao39 t281.length co39) : Value).ownBlock) (.slice Ao12 t270.length co12) t279) ∧ Aside0 (Kd.R (Kd.int .i64) 3 wc w.heap.size (fun k_ => some k_ ≠ ((.slice Ao8 t263.length co8) : Value).ownBlock ∧ some k_ ≠ ((.slice Ao12 t270.length co12) : Value).ownBlock) (.slice Ao39 t281.length co39) t281) ∧ Aside0 (wc.heap[gb269]? = some (.cells #[(.slice Ao8 t263.length co8), .int .i64 t266, .int .i64 t267] 36 (0, 0))) ∧ Aside0 (wc.heap[gb276]? = some (.cells #[(.slice Ao12 t270.length co12), .int .i64 t273, .int .i64 t274] 36 (0, 0))) ∧ Aside0 (wc.heap[gb287]? = some (.cells #[(.slice Ao39 t281.length co39), .int .i64 t284, .int .i64 t285] 36 (0, 0))) ∧ Aside0 (Below w.heap.size w wc))
       case first =>
        have H := HC31.out
        clear HC31
        replace H := Option.bind_eq_some_iff.mp H
        obtain ⟨t288, A430, H⟩ := H
        replace H : (if t288 = true then (laws_FnExactParseNight.j1 kj4 t278 (t286 != t268) t279 t273 t274) else (laws_FnExactParseNight.j1 kj4 t278 true t279 t273 t274)) = some r := H
        have A43 := Aside0.mk A430
        clear A430
        by_cases c44 : t288 = true
        ·
         subst c44
         have H1 : (laws_FnExactParseNight.j1 kj4 t278 (t286 != t268) t279 t273 t274) = some r := by rw [if_pos rfl] at H; exact H
         clear H
         have H := H1
         clear H1
         have H' := Aside0.mk H
         clear H
         have hnb45 := NB287_269.out
         have hnc45 := NB269_287.out
         have hnb46 := NB287_276.out
         have hnc46 := NB276_287.out
         have hcz47_0 : w38.cell? ⟨gb287, 0, none⟩ = some (.slice none 0 0) := (blk_cell BK287.out 0).trans rfl
         have hcz47_1 : w38.cell? ⟨gb287, 1, none⟩ = some (.int .i64 0) := (blk_cell BK287.out 1).trans rfl
         have hcz47_2 : w38.cell? ⟨gb287, 2, none⟩ = some (.int .i64 0) := (blk_cell BK287.out 2).trans rfl
         have hfz47_0 := blk_frozen BK287.out 0
         have hfz47_1 := blk_frozen BK287.out 1
         have hfz47_2 := blk_frozen BK287.out 2
         have hnb48 := NB269_276.out
         have hnc48 := NB276_269.out
         have hcz49_0 : w38.cell? ⟨gb269, 0, none⟩ = some (.slice Ao8 t263.length co8) := (blk_cell BK269.out 0).trans rfl
         have hcz49_1 : w38.cell? ⟨gb269, 1, none⟩ = some (.int .i64 t266) := (blk_cell BK269.out 1).trans rfl
         have hcz49_2 : w38.cell? ⟨gb269, 2, none⟩ = some (.int .i64 t267) := (blk_cell BK269.out 2).trans rfl
         have hfz49_0 := blk_frozen BK269.out 0
         have hfz49_1 := blk_frozen BK269.out 1
         have hfz49_2 := blk_frozen BK269.out 2
         go_wp2_with (first | ((with_reducible refine gate_callee (f := 22) rfl ?_); refine goesL_ (some 51) rfl rfl Tryd.func22 (by kernel_rfl) rfl #[.agg #[.slice Ao39 t281.length co39, .int .i64 t284, .int .i64 t285], .agg #[.slice Ao8 t263.length co8, .int .i64 t266, .int .i64 t267]] rfl (by (try simp only [List.map_toArray, List.map_cons, List.map_nil]); first | done | rfl | (simp only [List.length_drop, List.length_take]; rfl)) ?_; (with_reducible refine (laws_eqNight.calls kj4 _ _ t281 t284 t285 _ _ t263 t266 t267 true _ ?side1 ?side2 ?side3 ?side4 A43.out).mono ?_); (case side1 => refine (Kd.R_reads' (e := 3) (base := w.heap.size) (ok := fun k_ => ((True ∧ some k_ ≠ (.slice Ao8 t263.length co8 : Value).ownBlock) ∧ some k_ ≠ (.slice Ao12 t270.length co12 : Value).ownBlock)) (n := t281.length) (c := co39) ?_).2.2; exact (by (with_reducible repeat (first | apply Kd.R_alloc | apply Kd.R_drewN | apply Kd.R_drew)); exact (Kd.R_mono (Kd.R_far (p := ⟨gb287, 2, none⟩) (Kd.R_far (p := ⟨gb287, 1, none⟩) (Kd.R_far (p := ⟨gb287, 0, none⟩) (Kd.R_types HO283.out BK287.out (by decide)) (fun _ hk => hk.2) (.slice Ao39 t281.length co39)) (fun _ hk => hk.2) (.int .i64 t284)) (fun _ hk => hk.2) (.int .i64 t285)) (fun _ h_ => h_.1)))); (case side2 => exact (Kd.R_reads' HO283.out).2.1); (case side3 => refine (Kd.R_reads' (e := 3) (base := w.heap.size) (ok := fun k_ => (some k_ ≠ (.slice Ao12 t270.length co12 : Value).ownBlock ∧ some k_ ≠ (.slice Ao39 t281.length co39 : Value).ownBlock)) (n := t263.length) (c := co8) ?_).2.2; exact (by (with_reducible repeat (first | apply Kd.R_alloc | apply Kd.R_drewN | apply Kd.R_drew)); exact (Kd.R_mono (Kd.R_far (p := ⟨gb287, 2, none⟩) (Kd.R_far (p := ⟨gb287, 1, none⟩) (Kd.R_far (p := ⟨gb287, 0, none⟩) (Kd.R_types HO_270000.out BK287.out (by decide)) (fun _ hk => hk.2) (.slice Ao39 t281.length co39)) (fun _ hk => hk.2) (.int .i64 t284)) (fun _ hk => hk.2) (.int .i64 t285)) (fun _ h_ => h_.1)))); (case side4 => exact (Kd.R_reads' HO_270000.out).2.1); rintro e w50 ⟨rfl, hb⟩; refine ⟨_, rfl, ?_⟩; have n0_ := Aside0.mk (Kd.R_below (by (with_reducible repeat (first | apply Kd.R_alloc | apply Kd.R_drewN | apply Kd.R_drew)); exact (Kd.R_mono (Kd.R_far (p := ⟨gb287, 2, none⟩) (Kd.R_far (p := ⟨gb287, 1, none⟩) (Kd.R_far (p := ⟨gb287, 0, none⟩) (Kd.R_types HO_270000.out BK287.out (by decide)) (fun _ hk => hk.2) (.slice Ao39 t281.length co39)) (fun _ hk => hk.2) (.int .i64 t284)) (fun _ hk => hk.2) (.int .i64 t285)) (fun _ h_ => h_.1))) hb); have n1_ := Aside0.mk (Kd.R_below (by (with_reducible repeat (first | apply Kd.R_alloc | apply Kd.R_drewN | apply Kd.R_drew)); exact (Kd.R_mono (Kd.R_far (p := ⟨gb287, 2, none⟩) (Kd.R_far (p := ⟨gb287, 1, none⟩) (Kd.R_far (p := ⟨gb287, 0, none⟩) (Kd.R_types HO_277000.out BK287.out (by decide)) (fun _ hk => hk.2) (.slice Ao39 t281.length co39)) (fun _ hk => hk.2) (.int .i64 t284)) (fun _ hk => hk.2) (.int .i64 t285)) (fun _ h_ => h_.1))) hb); have n2_ := Aside0.mk (Kd.R_below (by (with_reducible repeat (first | apply Kd.R_alloc | apply Kd.R_drewN | apply Kd.R_drew)); exact (Kd.R_mono (Kd.R_far (p := ⟨gb287, 2, none⟩) (Kd.R_far (p := ⟨gb287, 1, none⟩) (Kd.R_far (p := ⟨gb287, 0, none⟩) (Kd.R_types HO283.out BK287.out (by decide)) (fun _ hk => hk.2) (.slice Ao39 t281.length co39)) (fun _ hk => hk.2) (.int .i64 t284)) (fun _ hk => hk.2) (.int .i64 t285)) (fun _ h_ => h_.1))) hb); have n3_ := Aside0.mk (blk_below (g := gb269) (o := .cells #[.slice Ao8 t263.length co8, .int .i64 t266, .int .i64 t267] 36 (0, 0)) (by (with_reducible repeat (first | refine blk_drewN ?_ _ | refine blk_drew ?_ | refine blk_alloc ?_ _)); refine blk_far ?_ NB269_287.out _; (with_reducible repeat (first | refine blk_drewN ?_ _ | refine blk_drew ?_ | refine blk_alloc ?_ _)); refine blk_far ?_ NB269_287.out _; (with_reducible repeat (first | refine blk_drewN ?_ _ | refine blk_drew ?_ | refine blk_alloc ?_ _)); refine blk_far ?_ NB269_287.out _; (with_reducible repeat (first | refine blk_drewN ?_ _ | refine blk_drew ?_ | refine blk_alloc ?_ _)); exact BK269.out) hb); have n4_ := Aside0.mk (blk_below (g := gb276) (o := .cells #[.slice Ao12 t270.length co12, .int .i64 t273, .int .i64 t274] 36 (0, 0)) (by (with_reducible repeat (first | refine blk_drewN ?_ _ | refine blk_drew ?_ | refine blk_alloc ?_ _)); refine blk_far ?_ NB276_287.out _; (with_reducible repeat (first | refine blk_drewN ?_ _ | refine blk_drew ?_ | refine blk_alloc ?_ _)); refine blk_far ?_ NB276_287.out _; (with_reducible repeat (first | refine blk_drewN ?_ _ | refine blk_drew ?_ | refine blk_alloc ?_ _)); refine blk_far ?_ NB276_287.out _; (with_reducible repeat (first | refine blk_drewN ?_ _ | refine blk_drew ?_ | refine blk_alloc ?_ _)); exact BK276.out) hb); have n5_ := Aside0.mk (blk_below (g := gb287) (o := .cells #[.slice Ao39 t281.length co39, .int .i64 t284, .int .i64 t285] 36 (0, 0)) (by (with_reducible repeat (first | refine blk_drewN ?_ _ | refine blk_drew ?_ | refine blk_alloc ?_ _)); refine blk_put (cs := #[.slice Ao39 t281.length co39, .int .i64 t284, .int .i64 0]) ?_ 2 _ rfl; (with_reducible repeat (first | refine blk_drewN ?_ _ | refine blk_drew ?_ | refine blk_alloc ?_ _)); refine blk_put (cs := #[.slice Ao39 t281.length co39, .int .i64 0, .int .i64 0]) ?_ 1 _ rfl; (with_reducible repeat (first | refine blk_drewN ?_ _ | refine blk_drew ?_ | refine blk_alloc ?_ _)); refine blk_put (cs := #[.slice none 0 0, .int .i64 0, .int .i64 0]) ?_ 0 _ rfl; (with_reducible repeat (first | refine blk_drewN ?_ _ | refine blk_drew ?_ | refine blk_alloc ?_ _)); exact BK287.out) hb); have n6_ := Aside0.mk (below_step (by repeat (first | (with_reducible first | exact HB.out | apply below_alloc | apply pw_below_drewN | apply below_drew1 | refine below_set ?_ (Aside0.out (by assumption))) | exact HB.out)) hb); clear HO_270000; clear HO_277000; clear HO283; clear BK269; clear BK276; clear BK287; clear HB; have HO_270000 := n0_; have HO_277000 := n1_; have HO283 := n2_; have BK269 := n3_; have BK276 := n4_; have BK287 := n5_; have HB := n6_; clear n0_ n1_ n2_ n3_ n4_ n5_ n6_; (try clear hb); (try clear hb2); (try clear hk); (try clear hi)))
         go_meet
         case rel => exact ⟨_, ((t286 != t268)), (by first | rfl | (simp; done) | (simp [*]; done)), H', ⟨by have := HJ4.out; first | omega | exact Nat.le_refl _⟩, ⟨by (with_reducible repeat (first | apply Kd.R_alloc | apply Kd.R_drewN | apply Kd.R_drew)); exact HO_270000.out⟩, ⟨by (with_reducible repeat (first | apply Kd.R_alloc | apply Kd.R_drewN | apply Kd.R_drew)); exact HO_277000.out⟩, ⟨by (with_reducible repeat (first | apply Kd.R_alloc | apply Kd.R_drewN | apply Kd.R_drew)); exact Kd.R_mono HO283.out (fun _ hk => ⟨hk.1.2, hk.2⟩)⟩, ⟨by (with_reducible repeat (first | refine blk_drewN ?_ _ | refine blk_drew ?_ | refine blk_alloc ?_ _)); exact BK269.out⟩, ⟨by (with_reducible repeat (first | refine blk_drewN ?_ _ | refine blk_drew ?_ | refine blk_alloc ?_ _)); exact BK276.out⟩, ⟨by (with_reducible repeat (first | refine blk_drewN ?_ _ | refine blk_drew ?_ | refine blk_alloc ?_ _)); exact BK287.out⟩, ⟨by repeat (first | (with_reducible first | exact HB.out | apply below_alloc | apply pw_below_drewN | apply below_drew1 | refine below_set ?_ (Aside0.out (by assumption))) | exact HB.out)⟩⟩
        ·
         replace c44 := Bool.eq_false_iff.mpr c44
         subst c44
         have H1 : (laws_FnExactParseNight.j1 kj4 t278 true t279 t273 t274) = some r := by rw [if_neg (show ¬ (false = true) by decide)] at H; exact H
         clear H
         have H := H1
         clear H1
         have H' := Aside0.mk H
         clear H
         have hnb51 := NB287_269.out
         have hnc51 := NB269_287.out
         have hnb52 := NB287_276.out
         have hnc52 := NB276_287.out
         have hcz53_0 : w38.cell? ⟨gb287, 0, none⟩ = some (.slice none 0 0) := (blk_cell BK287.out 0).trans rfl
         have hcz53_1 : w38.cell? ⟨gb287, 1, none⟩ = some (.int .i64 0) := (blk_cell BK287.out 1).trans rfl
         have hcz53_2 : w38.cell? ⟨gb287, 2, none⟩ = some (.int .i64 0) := (blk_cell BK287.out 2).trans rfl
         have hfz53_0 := blk_frozen BK287.out 0
         have hfz53_1 := blk_frozen BK287.out 1
         have hfz53_2 := blk_frozen BK287.out 2
         have hnb54 := NB269_276.out
         have hnc54 := NB276_269.out
         have hcz55_0 : w38.cell? ⟨gb269, 0, none⟩ = some (.slice Ao8 t263.length co8) := (blk_cell BK269.out 0).trans rfl
         have hcz55_1 : w38.cell? ⟨gb269, 1, none⟩ = some (.int .i64 t266) := (blk_cell BK269.out 1).trans rfl
         have hcz55_2 : w38.cell? ⟨gb269, 2, none⟩ = some (.int .i64 t267) := (blk_cell BK269.out 2).trans rfl
         have hfz55_0 := blk_frozen BK269.out 0
         have hfz55_1 := blk_frozen BK269.out 1
         have hfz55_2 := blk_frozen BK269.out 2
         go_wp2_with (first | ((with_reducible refine gate_callee (f := 22) rfl ?_); refine goesL_ (some 51) rfl rfl Tryd.func22 (by kernel_rfl) rfl #[.agg #[.slice Ao39 t281.length co39, .int .i64 t284, .int .i64 t285], .agg #[.slice Ao8 t263.length co8, .int .i64 t266, .int .i64 t267]] rfl (by (try simp only [List.map_toArray, List.map_cons, List.map_nil]); first | done | rfl | (simp only [List.length_drop, List.length_take]; rfl)) ?_; (with_reducible refine (laws_eqNight.calls kj4 _ _ t281 t284 t285 _ _ t263 t266 t267 false _ ?side1 ?side2 ?side3 ?side4 A43.out).mono ?_); (case side1 => refine (Kd.R_reads' (e := 3) (base := w.heap.size) (ok := fun k_ => ((True ∧ some k_ ≠ (.slice Ao8 t263.length co8 : Value).ownBlock) ∧ some k_ ≠ (.slice Ao12 t270.length co12 : Value).ownBlock)) (n := t281.length) (c := co39) ?_).2.2; exact (by (with_reducible repeat (first | apply Kd.R_alloc | apply Kd.R_drewN | apply Kd.R_drew)); exact (Kd.R_mono (Kd.R_far (p := ⟨gb287, 2, none⟩) (Kd.R_far (p := ⟨gb287, 1, none⟩) (Kd.R_far (p := ⟨gb287, 0, none⟩) (Kd.R_types HO283.out BK287.out (by decide)) (fun _ hk => hk.2) (.slice Ao39 t281.length co39)) (fun _ hk => hk.2) (.int .i64 t284)) (fun _ hk => hk.2) (.int .i64 t285)) (fun _ h_ => h_.1)))); (case side2 => exact (Kd.R_reads' HO283.out).2.1); (case side3 => refine (Kd.R_reads' (e := 3) (base := w.heap.size) (ok := fun k_ => (some k_ ≠ (.slice Ao12 t270.length co12 : Value).ownBlock ∧ some k_ ≠ (.slice Ao39 t281.length co39 : Value).ownBlock)) (n := t263.length) (c := co8) ?_).2.2; exact (by (with_reducible repeat (first | apply Kd.R_alloc | apply Kd.R_drewN | apply Kd.R_drew)); exact (Kd.R_mono (Kd.R_far (p := ⟨gb287, 2, none⟩) (Kd.R_far (p := ⟨gb287, 1, none⟩) (Kd.R_far (p := ⟨gb287, 0, none⟩) (Kd.R_types HO_270000.out BK287.out (by decide)) (fun _ hk => hk.2) (.slice Ao39 t281.length co39)) (fun _ hk => hk.2) (.int .i64 t284)) (fun _ hk => hk.2) (.int .i64 t285)) (fun _ h_ => h_.1)))); (case side4 => exact (Kd.R_reads' HO_270000.out).2.1); rintro e w56 ⟨rfl, hb⟩; refine ⟨_, rfl, ?_⟩; have n0_ := Aside0.mk (Kd.R_below (by (with_reducible repeat (first | apply Kd.R_alloc | apply Kd.R_drewN | apply Kd.R_drew)); exact (Kd.R_mono (Kd.R_far (p := ⟨gb287, 2, none⟩) (Kd.R_far (p := ⟨gb287, 1, none⟩) (Kd.R_far (p := ⟨gb287, 0, none⟩) (Kd.R_types HO_270000.out BK287.out (by decide)) (fun _ hk => hk.2) (.slice Ao39 t281.length co39)) (fun _ hk => hk.2) (.int .i64 t284)) (fun _ hk => hk.2) (.int .i64 t285)) (fun _ h_ => h_.1))) hb); have n1_ := Aside0.mk (Kd.R_below (by (with_reducible repeat (first | apply Kd.R_alloc | apply Kd.R_drewN | apply Kd.R_drew)); exact (Kd.R_mono (Kd.R_far (p := ⟨gb287, 2, none⟩) (Kd.R_far (p := ⟨gb287, 1, none⟩) (Kd.R_far (p := ⟨gb287, 0, none⟩) (Kd.R_types HO_277000.out BK287.out (by decide)) (fun _ hk => hk.2) (.slice Ao39 t281.length co39)) (fun _ hk => hk.2) (.int .i64 t284)) (fun _ hk => hk.2) (.int .i64 t285)) (fun _ h_ => h_.1))) hb); have n2_ := Aside0.mk (Kd.R_below (by (with_reducible repeat (first | apply Kd.R_alloc | apply Kd.R_drewN | apply Kd.R_drew)); exact (Kd.R_mono (Kd.R_far (p := ⟨gb287, 2, none⟩) (Kd.R_far (p := ⟨gb287, 1, none⟩) (Kd.R_far (p := ⟨gb287, 0, none⟩) (Kd.R_types HO283.out BK287.out (by decide)) (fun _ hk => hk.2) (.slice Ao39 t281.length co39)) (fun _ hk => hk.2) (.int .i64 t284)) (fun _ hk => hk.2) (.int .i64 t285)) (fun _ h_ => h_.1))) hb); have n3_ := Aside0.mk (blk_below (g := gb269) (o := .cells #[.slice Ao8 t263.length co8, .int .i64 t266, .int .i64 t267] 36 (0, 0)) (by (with_reducible repeat (first | refine blk_drewN ?_ _ | refine blk_drew ?_ | refine blk_alloc ?_ _)); refine blk_far ?_ NB269_287.out _; (with_reducible repeat (first | refine blk_drewN ?_ _ | refine blk_drew ?_ | refine blk_alloc ?_ _)); refine blk_far ?_ NB269_287.out _; (with_reducible repeat (first | refine blk_drewN ?_ _ | refine blk_drew ?_ | refine blk_alloc ?_ _)); refine blk_far ?_ NB269_287.out _; (with_reducible repeat (first | refine blk_drewN ?_ _ | refine blk_drew ?_ | refine blk_alloc ?_ _)); exact BK269.out) hb); have n4_ := Aside0.mk (blk_below (g := gb276) (o := .cells #[.slice Ao12 t270.length co12, .int .i64 t273, .int .i64 t274] 36 (0, 0)) (by (with_reducible repeat (first | refine blk_drewN ?_ _ | refine blk_drew ?_ | refine blk_alloc ?_ _)); refine blk_far ?_ NB276_287.out _; (with_reducible repeat (first | refine blk_drewN ?_ _ | refine blk_drew ?_ | refine blk_alloc ?_ _)); refine blk_far ?_ NB276_287.out _; (with_reducible repeat (first | refine blk_drewN ?_ _ | refine blk_drew ?_ | refine blk_alloc ?_ _)); refine blk_far ?_ NB276_287.out _; (with_reducible repeat (first | refine blk_drewN ?_ _ | refine blk_drew ?_ | refine blk_alloc ?_ _)); exact BK276.out) hb); have n5_ := Aside0.mk (blk_below (g := gb287) (o := .cells #[.slice Ao39 t281.length co39, .int .i64 t284, .int .i64 t285] 36 (0, 0)) (by (with_reducible repeat (first | refine blk_drewN ?_ _ | refine blk_drew ?_ | refine blk_alloc ?_ _)); refine blk_put (cs := #[.slice Ao39 t281.length co39, .int .i64 t284, .int .i64 0]) ?_ 2 _ rfl; (with_reducible repeat (first | refine blk_drewN ?_ _ | refine blk_drew ?_ | refine blk_alloc ?_ _)); refine blk_put (cs := #[.slice Ao39 t281.length co39, .int .i64 0, .int .i64 0]) ?_ 1 _ rfl; (with_reducible repeat (first | refine blk_drewN ?_ _ | refine blk_drew ?_ | refine blk_alloc ?_ _)); refine blk_put (cs := #[.slice none 0 0, .int .i64 0, .int .i64 0]) ?_ 0 _ rfl; (with_reducible repeat (first | refine blk_drewN ?_ _ | refine blk_drew ?_ | refine blk_alloc ?_ _)); exact BK287.out) hb); have n6_ := Aside0.mk (below_step (by repeat (first | (with_reducible first | exact HB.out | apply below_alloc | apply pw_below_drewN | apply below_drew1 | refine below_set ?_ (Aside0.out (by assumption))) | exact HB.out)) hb); clear HO_270000; clear HO_277000; clear HO283; clear BK269; clear BK276; clear BK287; clear HB; have HO_270000 := n0_; have HO_277000 := n1_; have HO283 := n2_; have BK269 := n3_; have BK276 := n4_; have BK287 := n5_; have HB := n6_; clear n0_ n1_ n2_ n3_ n4_ n5_ n6_; (try clear hb); (try clear hb2); (try clear hk); (try clear hi)))
         go_meet
         case rel => exact ⟨_, (true), (by first | rfl | (simp; done) | (simp [*]; done)), H', ⟨by have := HJ4.out; first | omega | exact Nat.le_refl _⟩, ⟨by (with_reducible repeat (first | apply Kd.R_alloc | apply Kd.R_drewN | apply Kd.R_drew)); exact HO_270000.out⟩, ⟨by (with_reducible repeat (first | apply Kd.R_alloc | apply Kd.R_drewN | apply Kd.R_drew)); exact HO_277000.out⟩, ⟨by (with_reducible repeat (first | apply Kd.R_alloc | apply Kd.R_drewN | apply Kd.R_drew)); exact Kd.R_mono HO283.out (fun _ hk => ⟨hk.1.2, hk.2⟩)⟩, ⟨by (with_reducible repeat (first | refine blk_drewN ?_ _ | refine blk_drew ?_ | refine blk_alloc ?_ _)); exact BK269.out⟩, ⟨by (with_reducible repeat (first | refine blk_drewN ?_ _ | refine blk_drew ?_ | refine blk_alloc ?_ _)); exact BK276.out⟩, ⟨by (with_reducible repeat (first | refine blk_drewN ?_ _ | refine blk_drew ?_ | refine blk_alloc ?_ _)); exact BK287.out⟩, ⟨by repeat (first | (with_reducible first | exact HB.out | apply below_alloc | apply pw_below_drewN | apply below_drew1 | refine below_set ?_ (Aside0.out (by assumption))) | exact HB.out)⟩⟩
       case rest =>
        clear HC31
        try clear c1
        try clear c2
        try clear c2b0
        try clear c2b1
        try clear p2
        try clear c3
        try clear c4
        try clear c5
        try clear c9
        try clear c13
        try clear c16
        try clear c17
        try clear c21
        try clear c22
        try clear c25
        try clear c28
        try clear c28b0
        try clear c29
        try clear c29b0
        try clear c29b1
        try clear c32
        try clear c40
        try clear c41
        try clear c42
        try clear c43
        try clear c44
        try clear c45
        try clear c46
        try clear c48
        try clear c51
        try clear c52
        try clear c54
        try clear hcz14_0
        try clear hcz14_1
        try clear hcz14_2
        try clear hcz18_0
        try clear hcz18_1
        try clear hcz18_2
        try clear hcz19_0
        try clear hcz19_1
        try clear hcz19_2
        try clear hcz22_0
        try clear hcz22_1
        try clear hcz22_2
        try clear hcz23_0
        try clear hcz23_1
        try clear hcz23_2
        try clear hcz33_0
        try clear hcz33_1
        try clear hcz33_2
        try clear hcz35_0
        try clear hcz35_1
        try clear hcz35_2
        try clear hcz42_0
        try clear hcz42_1
        try clear hcz42_2
        try clear hcz47_0
        try clear hcz47_1
        try clear hcz47_2
        try clear hcz49_0
        try clear hcz49_1
        try clear hcz49_2
        try clear hcz53_0
        try clear hcz53_1
        try clear hcz53_2
        try clear hcz55_0
        try clear hcz55_1
        try clear hcz55_2
        try clear hcz9_0
        try clear hcz9_1
        try clear hcz9_2
        try clear hfz14_0
        try clear hfz14_1
        try clear hfz14_2
        try clear hfz18_0
        try clear hfz18_1
        try clear hfz18_2
        try clear hfz19_0
        try clear hfz19_1
        try clear hfz19_2
        try clear hfz22_0
        try clear hfz22_1
        try clear hfz22_2
        try clear hfz23_0
        try clear hfz23_1
        try clear hfz23_2
        try clear hfz33_0
        try clear hfz33_1
        try clear hfz33_2
        try clear hfz35_0
        try clear hfz35_1
        try clear hfz35_2
        try clear hfz42_0
        try clear hfz42_1
        try clear hfz42_2
        try clear hfz47_0
        try clear hfz47_1
        try clear hfz47_2
        try clear hfz49_0
        try clear hfz49_1
        try clear hfz49_2
        try clear hfz53_0
        try clear hfz53_1
        try clear hfz53_2
        try clear hfz55_0
        try clear hfz55_1
        try clear hfz55_2
        try clear hfz9_0
        try clear hfz9_1
        try clear hfz9_2
        try clear p2
        obtain ⟨kq, x57_30, rfl, HA, HJ30, HO_270000, HO_277000, HO_288000, BK269, BK276, BK287, HB⟩ := hcut
        have hl277000_30 := (Kd.R_reads' HO_277000.out).1
        rw [hl277000_30] at HO_277000
        (try simp only [hl277000_30])
        (try simp only [hl277000_30] at BK269)
        (try simp only [hl277000_30] at BK276)
        (try simp only [hl277000_30] at BK287)
        (try simp only [hl277000_30] at HO_270000)
        (try simp only [hl277000_30] at HO_288000)
        cases kq with
        | zero => exact absurd HA.out (by simp [laws_FnExactParseNight.j1])
        | succ kj30 =>
         have H := HA.out
         clear HA
         simp only [laws_FnExactParseNight.j1] at H
         by_cases c57 : x57_30 = true
         ·
          subst c57
          have H1 : (none) = some r := by rw [if_pos rfl] at H; exact H
          clear H
          have H := H1
          clear H1
          exact absurd H (by simp)
         ·
          replace c57 := Bool.eq_false_iff.mpr c57
          subst c57
          have H1 : ((laws_heldNight.f kj30 t279 t273 t274 1).bind fun t289 => (if t289 < 0 then (none) else (if t289 = t278 then (some true) else (none)))) = some r := by rw [if_neg (show ¬ (false = true) by decide)] at H; exact H
          clear H
          have H := H1
          clear H1
          replace H := Option.bind_eq_some_iff.mp H
          obtain ⟨t289, A580, H⟩ := H
          replace H : (if t289 < 0 then (none) else (if t289 = t278 then (some true) else (none))) = some r := H
          have A58 := Aside0.mk A580
          clear A580
          by_cases c59 : t289 < 0
          ·
           rw [if_pos c59] at H
           exact absurd H (by simp)
          ·
           rw [if_neg c59] at H
           have c59b0 : decide (t289 < 0) = false := decide_eq_false c59
           clear c59
           by_cases c60 : t289 = t278
           ·
            rw [if_pos c60] at H
            have c60b0 : (t289 == t278) = true := beq_iff_eq.mpr c60
            have c60b1 : (t289 != t278) = false := bne_eq_false_iff_eq.mpr c60
            clear c60
            obtain rfl := Option.some.inj H
            have hnb61 := NB276_269.out
            have hnc61 := NB269_276.out
            have hnb62 := NB276_287.out
            have hnc62 := NB287_276.out
            have hcz63_0 : wc.cell? ⟨gb276, 0, none⟩ = some (.slice Ao12 t279.length co12) := (blk_cell BK276.out 0).trans rfl
            have hcz63_1 : wc.cell? ⟨gb276, 1, none⟩ = some (.int .i64 t273) := (blk_cell BK276.out 1).trans rfl
            have hcz63_2 : wc.cell? ⟨gb276, 2, none⟩ = some (.int .i64 t274) := (blk_cell BK276.out 2).trans rfl
            have hfz63_0 := blk_frozen BK276.out 0
            have hfz63_1 := blk_frozen BK276.out 1
            have hfz63_2 := blk_frozen BK276.out 2
            go_wp2_with (first | ((with_reducible refine gate_callee (f := 45) rfl ?_); refine goesL_ (some 60) rfl rfl Tryd.func45 (by kernel_rfl) rfl #[.agg #[.slice Ao12 t279.length co12, .int .i64 t273, .int .i64 t274], .int .i64 1] rfl (by (try simp only [List.map_toArray, List.map_cons, List.map_nil]); first | done | rfl | (simp only [List.length_drop, List.length_take]; rfl)) ?_; (with_reducible refine (laws_heldNight.calls kj30 _ _ t279 t273 t274 1 t289 _ ?side1 ?side2 A58.out).mono ?_); (case side1 => repeat (first | exact (Kd.R_reads' HO_277000.out).2.2 | (with_reducible refine Kd.C_alloc ?_ _) | (with_reducible refine Kd.C_drewN ?_ _) | (with_reducible refine Kd.C_drew ?_))); (case side2 => exact (Kd.R_reads' HO_277000.out).2.1); rintro e w64 ⟨rfl, hb⟩; refine ⟨_, rfl, ?_⟩; have n0_ := Aside0.mk (Kd.R_below (Kd.pR HO_270000.out) hb); have n1_ := Aside0.mk (Kd.R_below (Kd.pR HO_277000.out) hb); have n2_ := Aside0.mk (Kd.R_below (Kd.pR HO_288000.out) hb); have n3_ := Aside0.mk (blk_below (pk BK269.out) hb); have n4_ := Aside0.mk (blk_below (pk BK276.out) hb); have n5_ := Aside0.mk (blk_below (pk BK287.out) hb); have n6_ := Aside0.mk (below_step (by repeat (first | (with_reducible first | exact HB.out | apply below_alloc | apply pw_below_drewN | apply below_drew1 | refine below_set ?_ (Aside0.out (by assumption))) | exact HB.out)) hb); clear HO_270000; clear HO_277000; clear HO_288000; clear BK269; clear BK276; clear BK287; clear HB; have HO_270000 := n0_; have HO_277000 := n1_; have HO_288000 := n2_; have BK269 := n3_; have BK276 := n4_; have BK287 := n5_; have HB := n6_; clear n0_ n1_ n2_ n3_ n4_ n5_ n6_; (try clear hb); (try clear hb2); (try clear hk); (try clear hi)))
            go_ret
            exact ⟨by first | rfl | (simp [errW_none, errW_some] <;> rfl) | (simp [*, errW_none, errW_some] <;> rfl), by repeat (first | (with_reducible first | exact HB.out | apply below_alloc | apply pw_below_drewN | apply below_drew1 | refine below_set ?_ (Aside0.out (by assumption))) | exact HB.out)⟩
           ·
            rw [if_neg c60] at H
            exact absurd H (by simp)
      ·
       rw [if_neg c29] at H
       exact absurd H (by simp)

/-- THE ONE PURE STATEMENT of laws_FnExactParseNight: yours. -/
def laws_FnExactParseNight.Pure : Prop := ∀ (a0 : ByteArray), a0.size ≤ 140737488351232 → ∃ k, laws_FnExactParseNight.f k a0 = some true
theorem laws_FnExactParseNight.walk (P : laws_FnExactParseNight.Pure) (a0 : ByteArray) (w : World) (w0 : a0.size ≤ 140737488351232) (hT : Tab w) :
  Calls Tryd.prog 9 #[.string a0] w fun e w' => e = .returned (.bool true) ∧ Below w.heap.size w w' := by
 obtain ⟨k, h⟩ := P a0 w0
 refine (laws_FnExactParseNight.calls k a0 true w h hT).mono ?_
 rintro e w' ⟨rfl, hd⟩
 exact ⟨rfl, hd⟩

end Go.Proofs.YtpiidnmobofaeaaDoor.QFnExactParseNight
