/- Contracts of functions of the given program, walked: each call returns what its Lean function says. Conditions: those that stand at each theorem. (Written by a program of this session.) -/
import Derived.Test.YtpiidnmobofaeaaDoorQFnExactParseCrewx0
import Derived.Test.YtpiidnmobofaeaaDoorQFnExactParseCrewx4
namespace Go.Proofs.YtpiidnmobofaeaaDoor.QFnExactParseCrew
open Go.RowKit Go.Proofs.YtpiidnmobofaeaaDoorW.PrintWords Go.Proofs.YtpiidnmobofaeaaDoorW.PrintLast Go.Proofs.YtpiidnmobofaeaaDoorW.PrintMore
attribute [local go_sem] max2_int min2_int max_two min_two max_three min_three max_four min_four   -- for this text's walks alone
set_option linter.unusedVariables false
set_option linter.unusedSimpArgs false

/-! ### impl_ParseCrew: function 55 -/
def impl_ParseCrew.l0 : Nat → ByteArray → Bool → List ByteArray → Int → Int → List Int → List Bool → Int → Option (List Int × List Bool × Int × Bool)
  | 0, _, _, _, _, _, _, _, _ => none
  | k + 1, x0, x8, x30, x31, x32, x223000, x223001, x223002 => if x32 < x31 then (if 0 ≤ x32 then (if x32 < (x30.length : Int) then ((strings_CutSuffix.f (rdOf ByteArray.empty x30 x32) (⟨#[114]⟩ : ByteArray)).bind fun bt227 => ((impl_readNumber.f bt227.1).bind fun bt229 => (if x8 = true then ((some (([bt229.1] : List Int) : List Int)).bind fun y231 => (if x223000.length + y231.length < 17592186044416 then ((some (([bt227.2] : List Bool) : List Bool)).bind fun y237 => (if x223001.length + y237.length < 140737488355328 then (impl_ParseCrew.l0 k x0 bt229.2 x30 x31 (wrap64 (x32 + 1)) (x223000 ++ y231) (x223001 ++ y237) x223002) else (none))) else (none))) else ((some (([bt229.1] : List Int) : List Int)).bind fun y243 => (if x223000.length + y243.length < 17592186044416 then ((some (([bt227.2] : List Bool) : List Bool)).bind fun y249 => (if x223001.length + y249.length < 140737488355328 then (impl_ParseCrew.l0 k x0 false x30 x31 (wrap64 (x32 + 1)) (x223000 ++ y243) (x223001 ++ y249) x223002) else (none))) else (none)))))) else (none)) else (none)) else (if x8 = true then ((impl_IsCrew.f x223000 x223001 x223002).bind fun t255 => (if t255 = true then ((impl_Crew_text.f k x223000 x223001 x223002).bind fun t256 => (if t256.toList = x0.toList then (some (x223000, x223001, x223002, true)) else (some (([] : List Int), ([] : List Bool), 0, false)))) else (some (([] : List Int), ([] : List Bool), 0, false)))) else (some (([] : List Int), ([] : List Bool), 0, false)))
def impl_ParseCrew.f (k : Nat) (a0 : ByteArray) : Option (List Int × List Bool × Int × Bool) := (strings_Cut.f a0 (⟨#[61]⟩ : ByteArray)).bind fun bt217 => ((impl_readNumber.f bt217.1).bind fun bt220 => ((strings_Split.f bt217.2.1 (⟨#[44]⟩ : ByteArray)).bind fun t223 => (impl_ParseCrew.l0 k a0 bt220.2 t223 (t223.length : Int) 0 ([] : List Int) ([] : List Bool) bt220.1)))
theorem impl_ParseCrew.mono_l : ∀ k, (∀ y0 y1 y2 y3 y4 y5 y6 y7, LeO (impl_ParseCrew.l0 k y0 y1 y2 y3 y4 y5 y6 y7) (impl_ParseCrew.l0 (k + 1) y0 y1 y2 y3 y4 y5 y6 y7))
  | 0 => fun _ _ _ _ _ _ _ _ r h => by simp [impl_ParseCrew.l0] at h
  | k + 1 => by
    have ih0 := impl_ParseCrew.mono_l k
    · intro y0 y1 y2 y3 y4 y5 y6 y7
      unfold impl_ParseCrew.l0
      repeat' first
      | (with_reducible exact ih0 _ _ _ _ _ _ _ _)
      | (with_reducible exact impl_Crew_text.mono _ _ _ _)
      | (with_reducible exact LeO.refl _)
      | (with_reducible exact LeO.none _)
      | (with_reducible refine LeO.ite ?_ ?_)
      | (with_reducible refine LeO.bind ?_ (fun _ => ?_))
      | exact ih0 _ _ _ _ _ _ _ _
      | exact impl_Crew_text.mono _ _ _ _
      | exact LeO.none _
      | refine LeO.ite ?_ ?_
      | refine LeO.bind ?_ (fun _ => ?_)
theorem impl_ParseCrew.mono : ∀ a0 k, LeO (impl_ParseCrew.f k a0) (impl_ParseCrew.f (k + 1) a0) := by
  intro a0 k
  have ih0 := impl_ParseCrew.mono_l k
  unfold impl_ParseCrew.f
  repeat' first
      | (with_reducible exact ih0 _ _ _ _ _ _ _ _)
      | (with_reducible exact impl_Crew_text.mono _ _ _ _)
      | (with_reducible exact LeO.refl _)
      | (with_reducible exact LeO.none _)
      | (with_reducible refine LeO.ite ?_ ?_)
      | (with_reducible refine LeO.bind ?_ (fun _ => ?_))
      | exact ih0 _ _ _ _ _ _ _ _
      | exact impl_Crew_text.mono _ _ _ _
      | exact LeO.none _
      | refine LeO.ite ?_ ?_
      | refine LeO.bind ?_ (fun _ => ?_)
def impl_ParseCrew.T10 : Bool × List (List Nat × List Nat) := (true, [([], []), ([0], [0]), ([], []), ([2], [2]), ([1, 3], [1, 3]), ([], []), ([5], [5]), ([], []), ([7], [7]), ([6, 8, 4], [6, 8]), ([0, 1, 2, 3, 4, 5, 6], []), ([10, 4, 9, 0, 1, 2, 3, 4, 5, 6], [4, 10]), ([0, 1, 2, 3, 4, 5, 6, 7, 8, 9, 10, 11], []), ([12, 9, 11, 0, 1, 2, 3, 4, 5, 6, 7, 8, 9, 10, 11], [9, 12])])
def impl_ParseCrew.B10 : List Nat := [0, 1, 0, 4, 15, 0, 32, 0, 128, 511, 127, 2047, 4095, 8191]
theorem impl_ParseCrew.tab10 : rtab .any (opsOf Tryd.f55 10) = impl_ParseCrew.T10 := by kernel_rfl
theorem impl_ParseCrew.bits10 : waitsOk impl_ParseCrew.T10.2 impl_ParseCrew.B10 = true := by kernel_rfl
set_option maxHeartbeats 8000000 in
set_option maxRecDepth 100000 in
theorem impl_ParseCrew.calls (k : Nat) (a0 : ByteArray) (r1 : List Int) (r2 : List Bool) (r3 : Int) (r4 : Bool) (w : World) (h : impl_ParseCrew.f k a0 = some (r1, r2, r3, r4)) (hT : Tab w) :
  Calls Tryd.prog 55 #[.string a0] w fun e w' => ∃ v0_ v1_ : Value, e = .returned (.tuple #[.agg #[v0_, v1_, .int .i64 r3], .bool r4]) ∧ Kd.R (Kd.int .i64) 3 w' w.heap.size (fun _ => True) v0_ r1 ∧ Kd.R Kd.bool 4 w' w.heap.size (fun _ => True) v1_ r2 ∧ Below w.heap.size w w' := by
 have HT := Aside0.mk hT
 clear hT
 have hu65 := Tryd.underlying65
 have HB := Aside0.mk (Below.refl w.heap.size w)
 have H : ((strings_Cut.f a0 (⟨#[61]⟩ : ByteArray)).bind fun bt217 => ((impl_readNumber.f bt217.1).bind fun bt220 => ((strings_Split.f bt217.2.1 (⟨#[44]⟩ : ByteArray)).bind fun t223 => (impl_ParseCrew.l0 k a0 bt220.2 t223 (t223.length : Int) 0 ([] : List Int) ([] : List Bool) bt220.1)))) = some (r1, r2, r3, r4) := h
 clear h
 replace H := Option.bind_eq_some_iff.mp H
 obtain ⟨⟨t217, t218, t219⟩, A20, H⟩ := H
 replace H : ((impl_readNumber.f t217).bind fun bt220 => ((strings_Split.f t218 (⟨#[44]⟩ : ByteArray)).bind fun t223 => (impl_ParseCrew.l0 k a0 bt220.2 t223 (t223.length : Int) 0 ([] : List Int) ([] : List Bool) bt220.1))) = some (r1, r2, r3, r4) := H
 have A2 := Aside0.mk A20
 clear A20
 replace H := Option.bind_eq_some_iff.mp H
 obtain ⟨⟨t220, t221⟩, A30, H⟩ := H
 replace H : ((strings_Split.f t218 (⟨#[44]⟩ : ByteArray)).bind fun t223 => (impl_ParseCrew.l0 k a0 t221 t223 (t223.length : Int) 0 ([] : List Int) ([] : List Bool) t220)) = some (r1, r2, r3, r4) := H
 have A3 := Aside0.mk A30
 clear A30
 replace H := Option.bind_eq_some_iff.mp H
 obtain ⟨t223, A40, H⟩ := H
 replace H : (impl_ParseCrew.l0 k a0 t221 t223 (t223.length : Int) 0 ([] : List Int) ([] : List Bool) t220) = some (r1, r2, r3, r4) := H
 have A4 := Aside0.mk A40
 clear A40
 have H' := Aside0.mk H
 clear H
 go_enter Tryd.func55, Tryd.ntmps55
 go_wp2_with (first | ((with_reducible refine gate_dst (N := 2) rfl ?_); refine box_event ?hg (N := 2) ?hd (cs := #[.slice none 0 0, .slice none 0 0, .int .i64 0]) (t := 65) ?hr ?_; (case hd => rfl); (case hg => rfl); (case hr => first | (go_simp; done) | (go_simp; rfl)); intro gb216 hg w5 hbox hb; have n0_ := Aside0.mk (below_step (by repeat (first | (with_reducible first | exact HB.out | apply below_alloc | apply pw_below_drewN | apply below_drew1) | exact HB.out)) hb); have n1_ := Aside0.mk (hbox); have n2_ := Aside0.mk ((by rw [hg]; exact (below_size (by repeat (first | (with_reducible first | exact HB.out | apply below_alloc | apply pw_below_drewN | apply below_drew1) | exact HB.out))) : w.heap.size ≤ gb216)); have n3_ := n2_; clear HB; have HB := n0_; have BK216 := n1_; have GW216 := n2_; have GE216 := n3_; clear n0_ n1_ n2_ n3_; clear hb hbox hg) | ((with_reducible refine gate_callee (f := 91) rfl ?_); refine goesL_ (some 18) rfl rfl Tryd.func91 (by kernel_rfl) rfl #[.string a0, .string (⟨#[61]⟩ : ByteArray)] rfl (by (try simp only [List.map_toArray, List.map_cons, List.map_nil]); first | done | rfl | (simp only [List.length_drop, List.length_take]; rfl)) ?_; (with_reducible refine (strings_Cut.calls a0 (⟨#[61]⟩ : ByteArray) t217 t218 t219 _ A2.out (Tab.up HT.out (by repeat (first | exact Below.refl _ _ | (with_reducible first | exact HB.out | apply below_alloc | apply pw_below_drewN | apply below_drew1 | refine below_set ?_ (Aside0.out (by assumption))) | exact HB.out)))).mono ?_); rintro e w' ⟨rfl, ⟨nd, rfl⟩⟩; refine ⟨_, rfl, ?_⟩; (try (rw [drewN_self w5]; generalize hq_ : World.drewN w5 _ = w5; have n0_ : Aside0 (w5.heap[gb216]? = some (.cells #[.slice none 0 0, .slice none 0 0, .int .i64 0] 65 (0, 0))) := ⟨by rw [← hq_]; exact (pk BK216.out)⟩; have n1_ : Aside0 (Below w.heap.size w w5) := ⟨by rw [← hq_]; exact (by repeat (first | (with_reducible first | exact HB.out | apply below_alloc | apply pw_below_drewN | apply below_drew1 | refine below_set ?_ GE216.out) | exact HB.out))⟩; clear BK216 HB hq_; have BK216 := n0_; have HB := n1_; clear n0_ n1_; have hczq4 := (blk_cell BK216.out 0); have hfzq4 := (blk_frozen BK216.out 0); simp at hczq4; have hczq5 := (blk_cell BK216.out 1); have hfzq5 := (blk_frozen BK216.out 1); simp at hczq5; have hczq6 := (blk_cell BK216.out 2); have hfzq6 := (blk_frozen BK216.out 2); simp at hczq6))) | ((with_reducible refine gate_callee (f := 92) rfl ?_); refine goesL_ (some 24) rfl rfl Tryd.func92 (by kernel_rfl) rfl #[.string t217] rfl (by (try simp only [List.map_toArray, List.map_cons, List.map_nil]); first | done | rfl | (simp only [List.length_drop, List.length_take]; rfl)) ?_; (with_reducible refine (impl_readNumber.calls t217 t220 t221 _ A3.out (Tab.up HT.out (by repeat (first | exact Below.refl _ _ | (with_reducible first | exact HB.out | apply below_alloc | apply pw_below_drewN | apply below_drew1 | refine below_set ?_ (Aside0.out (by assumption))) | exact HB.out)))).mono ?_); rintro e w6 ⟨rfl, hb⟩; refine ⟨_, rfl, ?_⟩; have n0_ := Aside0.mk (blk_below (pk BK216.out) hb); have n1_ := Aside0.mk (below_step (by repeat (first | (with_reducible first | exact HB.out | apply below_alloc | apply pw_below_drewN | apply below_drew1 | refine below_set ?_ GE216.out) | exact HB.out)) hb); clear BK216; clear HB; have BK216 := n0_; have HB := n1_; clear n0_ n1_; (try clear hb); (try clear hb2); (try clear hk); (try clear hi)) | ((with_reducible refine gate_dst (N := 9) rfl ?_); refine box_event ?hg (N := 9) ?hd (cs := #[.slice none 0 0, .slice none 0 0, .int .i64 0]) (t := 65) ?hr ?_; (case hd => rfl); (case hg => rfl); (case hr => first | (go_simp; done) | (go_simp; rfl)); intro gb222 hg w7 hbox hb; have n0_ := Aside0.mk (blk_below (pk BK216.out) hb); have n1_ := Aside0.mk (below_step (by repeat (first | (with_reducible first | exact HB.out | apply below_alloc | apply pw_below_drewN | apply below_drew1 | refine below_set ?_ GE216.out) | exact HB.out)) hb); have n2_ := Aside0.mk (hbox); have n3_ := Aside0.mk ((by rw [hg]; exact (below_size (by repeat (first | (with_reducible first | exact HB.out | apply below_alloc | apply pw_below_drewN | apply below_drew1 | refine below_set ?_ GE216.out) | exact HB.out))) : w.heap.size ≤ gb222)); have n4_ := n3_; have n5_ := Aside0.mk ((by rw [hg]; exact Nat.ne_of_lt (blk_lt (pk BK216.out)) : gb216 ≠ gb222)); have n6_ := Aside0.mk n5_.out.symm; clear BK216; clear HB; have BK216 := n0_; have HB := n1_; have BK222 := n2_; have GW222 := n3_; have GE222 := n4_; have NB216_222 := n5_; have NB222_216 := n6_; clear n0_ n1_ n2_ n3_ n4_ n5_ n6_; clear hb hbox hg; have hnb8 := NB222_216.out; have hnc8 := NB216_222.out; have hcz9_0 : w7.cell? ⟨gb222, 0, none⟩ = some (.slice none 0 0) := (blk_cell BK222.out 0).trans rfl; have hcz9_1 : w7.cell? ⟨gb222, 1, none⟩ = some (.slice none 0 0) := (blk_cell BK222.out 1).trans rfl; have hcz9_2 : w7.cell? ⟨gb222, 2, none⟩ = some (.int .i64 0) := (blk_cell BK222.out 2).trans rfl; have hfz9_0 := blk_frozen BK222.out 0; have hfz9_1 := blk_frozen BK222.out 1; have hfz9_2 := blk_frozen BK222.out 2) | ((with_reducible refine gate_callee (f := 98) rfl ?_); refine goesL_ (some 30) rfl rfl Tryd.func98 (by kernel_rfl) rfl #[.string t218, .string (⟨#[44]⟩ : ByteArray)] rfl (by (try simp only [List.map_toArray, List.map_cons, List.map_nil]); first | done | rfl | (simp only [List.length_drop, List.length_take]; rfl)) ?_; (with_reducible refine (strings_Split.calls t218 (⟨#[44]⟩ : ByteArray) t223 _ A4.out (Tab.up HT.out (by repeat (first | exact Below.refl _ _ | (with_reducible first | exact HB.out | apply below_alloc | apply pw_below_drewN | apply below_drew1 | refine below_set ?_ (Aside0.out (by assumption))) | exact HB.out)))).mono ?_); rintro e w10 ⟨v224, rfl, ho0, hb⟩; refine ⟨_, rfl, ?_⟩; have n0_ := Aside0.mk (Kd.R_lower ho0 (below_size (by repeat (first | (with_reducible first | exact HB.out | apply below_alloc | apply pw_below_drewN | apply below_drew1 | refine below_set ?_ (Aside0.out (by assumption))) | exact HB.out)))); have n1_ := Aside0.mk (blk_below (g := gb216) (o := .cells #[.slice none 0 0, .slice none 0 0, .int .i64 0] 65 (0, 0)) (by (with_reducible repeat (first | refine blk_drewN ?_ _ | refine blk_drew ?_ | refine blk_alloc ?_ _)); refine blk_far ?_ NB216_222.out _; (with_reducible repeat (first | refine blk_drewN ?_ _ | refine blk_drew ?_ | refine blk_alloc ?_ _)); refine blk_far ?_ NB216_222.out _; (with_reducible repeat (first | refine blk_drewN ?_ _ | refine blk_drew ?_ | refine blk_alloc ?_ _)); refine blk_far ?_ NB216_222.out _; (with_reducible repeat (first | refine blk_drewN ?_ _ | refine blk_drew ?_ | refine blk_alloc ?_ _)); exact BK216.out) hb); have n2_ := Aside0.mk (blk_below (g := gb222) (o := .cells #[.slice none 0 0, .slice none 0 0, .int .i64 t220] 65 (0, 0)) (by (with_reducible repeat (first | refine blk_drewN ?_ _ | refine blk_drew ?_ | refine blk_alloc ?_ _)); refine blk_put (cs := #[.slice none 0 0, .slice none 0 0, .int .i64 0]) ?_ 2 _ rfl; (with_reducible repeat (first | refine blk_drewN ?_ _ | refine blk_drew ?_ | refine blk_alloc ?_ _)); refine blk_put (cs := #[.slice none 0 0, .slice none 0 0, .int .i64 0]) ?_ 1 _ rfl; (with_reducible repeat (first | refine blk_drewN ?_ _ | refine blk_drew ?_ | refine blk_alloc ?_ _)); refine blk_put (cs := #[.slice none 0 0, .slice none 0 0, .int .i64 0]) ?_ 0 _ rfl; (with_reducible repeat (first | refine blk_drewN ?_ _ | refine blk_drew ?_ | refine blk_alloc ?_ _)); exact BK222.out) hb); have n3_ := Aside0.mk (below_step (by repeat (first | (with_reducible first | exact HB.out | apply below_alloc | apply pw_below_drewN | apply below_drew1 | refine below_set ?_ (Aside0.out (by assumption))) | exact HB.out)) hb); clear BK216; clear BK222; clear HB; have HO225 := n0_; have BK216 := n1_; have BK222 := n2_; have HB := n3_; clear n0_ n1_ n2_ n3_; (try clear hb); (try clear hb2); (try clear hk); (try clear hi); (try clear ho0); obtain ⟨Ao11, co11, eo11⟩ := Kd.R_slice HO225.out; subst eo11))
 go_loopg [8, 32] k (fun kq v8 v32 w' => ∃ (x8_1 : Bool) (x32_1 : Int) (x223000_1 : List Int) (x223001_1 : List Bool) (u223000 : Value) (u223001 : Value), v8 = .bool x8_1 ∧ v32 = .int .i64 x32_1 ∧ Aside0 (impl_ParseCrew.l0 kq a0 x8_1 t223 (t223.length : Int) x32_1 x223000_1 x223001_1 t220 = some (r1, r2, r3, r4)) ∧ Aside0 (kq ≤ k) ∧ Aside0 (Kd.R Kd.string 9 w' w.heap.size (fun _ => True) (.slice Ao11 t223.length co11) t223) ∧ Aside0 (Kd.R (Kd.int .i64) 3 w' w.heap.size (fun _ => True) u223000 x223000_1) ∧ Aside0 (Kd.R Kd.bool 4 w' w.heap.size (fun _ => True) u223001 x223001_1) ∧ Aside0 (w'.heap[gb216]? = some (.cells #[(.slice none 0 0), (.slice none 0 0), .int .i64 0] 65 (0, 0))) ∧ Aside0 (w'.heap[gb222]? = some (.cells #[u223000, u223001, .int .i64 t220] 65 (0, 0))) ∧ Aside0 (Below w.heap.size w w'))
 case atStart => exact ⟨(t221), (0), (([] : List Int)), (([] : List Bool)), (.slice none 0 0), (.slice none 0 0), (by first | rfl | (simp; done) | (simp [*]; done)), (by first | rfl | (simp; done) | (simp [*]; done)), H', ⟨Nat.le_refl _⟩, ⟨by (with_reducible repeat (first | apply Kd.R_alloc | apply Kd.R_drewN | apply Kd.R_drew)); exact HO225.out⟩, ⟨by first | exact Kd.R_nil _ _ _ _ _ | exact Kd.N_nil _ _ _ _ _ | exact Kd.V_nil _ _ _ _ _ | exact Kd.Q_nil _ _ _ _ _ | exact Kd.S_nil _ _ _ _ _⟩, ⟨by first | exact Kd.R_nil _ _ _ _ _ | exact Kd.N_nil _ _ _ _ _ | exact Kd.V_nil _ _ _ _ _ | exact Kd.Q_nil _ _ _ _ _ | exact Kd.S_nil _ _ _ _ _⟩, ⟨by (with_reducible repeat (first | refine blk_drewN ?_ _ | refine blk_drew ?_ | refine blk_alloc ?_ _)); exact BK216.out⟩, ⟨by (with_reducible repeat (first | refine blk_drewN ?_ _ | refine blk_drew ?_ | refine blk_alloc ?_ _)); exact BK222.out⟩, ⟨by repeat (first | (with_reducible first | exact HB.out | apply below_alloc | apply pw_below_drewN | apply below_drew1 | refine below_set ?_ (Aside0.out (by assumption))) | exact HB.out)⟩⟩
 case round =>
  clear H'
  try clear p2
  try clear c5
  try clear c8
  try clear c9
  try clear hcz9_0
  try clear hcz9_1
  try clear hcz9_2
  try clear hfz9_0
  try clear hfz9_1
  try clear hfz9_2
  obtain ⟨x8_1, x32_1, x223000_1, x223001_1, u223000, u223001, rfl, rfl, HA, HK1, HO_30, HO_223000, HO_223001, BK216, BK222, HB⟩ := hrel
  cases gk with
  | zero => exact absurd HA.out (by simp [impl_ParseCrew.l0])
  | succ k1 =>
   have H := HA.out
   clear HA
   simp only [impl_ParseCrew.l0] at H
   by_cases c12 : x32_1 < (t223.length : Int)
   ·
    rw [if_pos c12] at H
    have c12b0 : decide (x32_1 < (t223.length : Int)) = true := decide_eq_true c12
    clear c12
    by_cases c13 : 0 ≤ x32_1
    ·
     rw [if_pos c13] at H
     have c13b0 : decide (0 ≤ x32_1) = true := decide_eq_true c13
     clear c13
     by_cases c14 : x32_1 < (t223.length : Int)
     ·
      rw [if_pos c14] at H
      have c14b0 : decide (x32_1 < (t223.length : Int)) = true := decide_eq_true c14
      clear c14
      replace H := Option.bind_eq_some_iff.mp H
      obtain ⟨⟨t227, t228⟩, A150, H⟩ := H
      replace H : ((impl_readNumber.f t227).bind fun bt229 => (if x8_1 = true then ((some (([bt229.1] : List Int) : List Int)).bind fun y231 => (if x223000_1.length + y231.length < 17592186044416 then ((some (([t228] : List Bool) : List Bool)).bind fun y237 => (if x223001_1.length + y237.length < 140737488355328 then (impl_ParseCrew.l0 k1 a0 bt229.2 t223 (t223.length : Int) (wrap64 (x32_1 + 1)) (x223000_1 ++ y231) (x223001_1 ++ y237) t220) else (none))) else (none))) else ((some (([bt229.1] : List Int) : List Int)).bind fun y243 => (if x223000_1.length + y243.length < 17592186044416 then ((some (([t228] : List Bool) : List Bool)).bind fun y249 => (if x223001_1.length + y249.length < 140737488355328 then (impl_ParseCrew.l0 k1 a0 false t223 (t223.length : Int) (wrap64 (x32_1 + 1)) (x223000_1 ++ y243) (x223001_1 ++ y249) t220) else (none))) else (none))))) = some (r1, r2, r3, r4) := H
      have A15 := Aside0.mk A150
      clear A150
      replace H := Option.bind_eq_some_iff.mp H
      obtain ⟨⟨t229, t230⟩, A160, H⟩ := H
      replace H : (if x8_1 = true then ((some (([t229] : List Int) : List Int)).bind fun y231 => (if x223000_1.length + y231.length < 17592186044416 then ((some (([t228] : List Bool) : List Bool)).bind fun y237 => (if x223001_1.length + y237.length < 140737488355328 then (impl_ParseCrew.l0 k1 a0 t230 t223 (t223.length : Int) (wrap64 (x32_1 + 1)) (x223000_1 ++ y231) (x223001_1 ++ y237) t220) else (none))) else (none))) else ((some (([t229] : List Int) : List Int)).bind fun y243 => (if x223000_1.length + y243.length < 17592186044416 then ((some (([t228] : List Bool) : List Bool)).bind fun y249 => (if x223001_1.length + y249.length < 140737488355328 then (impl_ParseCrew.l0 k1 a0 false t223 (t223.length : Int) (wrap64 (x32_1 + 1)) (x223000_1 ++ y243) (x223001_1 ++ y249) t220) else (none))) else (none)))) = some (r1, r2, r3, r4) := H
      have A16 := Aside0.mk A160
      clear A160
      by_cases c17 : x8_1 = true
      ·
       subst c17
       have H1 : ((some (([t229] : List Int) : List Int)).bind fun y231 => (if x223000_1.length + y231.length < 17592186044416 then ((some (([t228] : List Bool) : List Bool)).bind fun y237 => (if x223001_1.length + y237.length < 140737488355328 then (impl_ParseCrew.l0 k1 a0 t230 t223 (t223.length : Int) (wrap64 (x32_1 + 1)) (x223000_1 ++ y231) (x223001_1 ++ y237) t220) else (none))) else (none))) = some (r1, r2, r3, r4) := by rw [if_pos rfl] at H; exact H
       clear H
       have H := H1
       clear H1
       obtain ⟨y231, hy231⟩ : ∃ y_ : List Int, y_ = (([t229] : List Int)) := ⟨_, rfl⟩
       replace H : (if x223000_1.length + y231.length < 17592186044416 then ((some (([t228] : List Bool) : List Bool)).bind fun y237 => (if x223001_1.length + y237.length < 140737488355328 then (impl_ParseCrew.l0 k1 a0 t230 t223 (t223.length : Int) (wrap64 (x32_1 + 1)) (x223000_1 ++ y231) (x223001_1 ++ y237) t220) else (none))) else (none)) = some (r1, r2, r3, r4) := by first | (rw [hy231]; with_reducible exact H) | (have H2_ := (Option.bind_some _ _).symm.trans H; rw [hy231]; with_reducible exact H2_) | (have H2_ := (Option.bind_some _ _).symm.trans H; with_reducible exact H2_) | with_reducible exact H | (rw [hy231]; exact H) | exact H
       have Ny231 := Aside0.mk hy231
       clear hy231
       by_cases c18 : x223000_1.length + y231.length < 17592186044416
       ·
        rw [if_pos c18] at H
        have LMc18 := Aside0.mk c18
        clear c18
        obtain ⟨y234, hy234⟩ : ∃ y_ : List Int, y_ = (x223000_1 ++ y231) := ⟨_, rfl⟩
        replace H : ((some (([t228] : List Bool) : List Bool)).bind fun y237 => (if x223001_1.length + y237.length < 140737488355328 then (impl_ParseCrew.l0 k1 a0 t230 t223 (t223.length : Int) (wrap64 (x32_1 + 1)) y234 (x223001_1 ++ y237) t220) else (none))) = some (r1, r2, r3, r4) := by first | (rw [hy234]; with_reducible exact H) | (have H2_ := (Option.bind_some _ _).symm.trans H; rw [hy234]; with_reducible exact H2_) | (have H2_ := (Option.bind_some _ _).symm.trans H; with_reducible exact H2_) | with_reducible exact H | (rw [hy234]; exact H) | exact H
        have Ny234 := Aside0.mk hy234
        clear hy234
        obtain ⟨y237, hy237⟩ : ∃ y_ : List Bool, y_ = (([t228] : List Bool)) := ⟨_, rfl⟩
        replace H : (if x223001_1.length + y237.length < 140737488355328 then (impl_ParseCrew.l0 k1 a0 t230 t223 (t223.length : Int) (wrap64 (x32_1 + 1)) y234 (x223001_1 ++ y237) t220) else (none)) = some (r1, r2, r3, r4) := by first | (rw [hy237]; with_reducible exact H) | (have H2_ := (Option.bind_some _ _).symm.trans H; rw [hy237]; with_reducible exact H2_) | (have H2_ := (Option.bind_some _ _).symm.trans H; with_reducible exact H2_) | with_reducible exact H | (rw [hy237]; exact H) | exact H
        have Ny237 := Aside0.mk hy237
        clear hy237
        by_cases c19 : x223001_1.length + y237.length < 140737488355328
        ·
         rw [if_pos c19] at H
         have LMc19 := Aside0.mk c19
         clear c19
         obtain ⟨y240, hy240⟩ : ∃ y_ : List Bool, y_ = (x223001_1 ++ y237) := ⟨_, rfl⟩
         replace H : (impl_ParseCrew.l0 k1 a0 t230 t223 (t223.length : Int) (wrap64 (x32_1 + 1)) y234 y240 t220) = some (r1, r2, r3, r4) := by first | (rw [hy240]; with_reducible exact H) | (have H2_ := (Option.bind_some _ _).symm.trans H; rw [hy240]; with_reducible exact H2_) | (have H2_ := (Option.bind_some _ _).symm.trans H; with_reducible exact H2_) | with_reducible exact H | (rw [hy240]; exact H) | exact H
         have Ny240 := Aside0.mk hy240
         clear hy240
         have H' := Aside0.mk H
         clear H
         have p226 : 0 ≤ (x32_1 : Int) := of_decide_eq_true (by first | (with_reducible assumption) | assumption)
         have q226 : x32_1 < (t223.length : Int) := of_decide_eq_true (by first | (with_reducible assumption) | assumption)
         obtain ⟨ad226, e226, hx226_0⟩ := Kd.at_string (Kd.R_reads' HO_30.out).2.2 x32_1 p226 q226
         cases e226
         replace p226 := eq_true p226
         replace q226 := eq_true q226
         try go_wp2_with (first | ((with_reducible refine gate_callee (f := 105) rfl ?_); refine goesL_ (some 38) rfl rfl Tryd.func105 (by kernel_rfl) rfl #[.string (rdOf ByteArray.empty t223 x32_1), .string (⟨#[114]⟩ : ByteArray)] rfl (by (try simp only [List.map_toArray, List.map_cons, List.map_nil]); first | done | rfl | (simp only [List.length_drop, List.length_take]; rfl)) ?_; (with_reducible refine (strings_CutSuffix.calls (rdOf ByteArray.empty t223 x32_1) (⟨#[114]⟩ : ByteArray) t227 t228 _ A15.out).mono ?_); rintro e w' ⟨rfl, ⟨nd, rfl⟩⟩; refine ⟨_, rfl, ?_⟩; (try (rw [drewN_self wr]; generalize hq_ : World.drewN wr _ = wr; have n0_ : Aside0 (Kd.R (Kd.int .i64) 3 wr w.heap.size (fun _ => True) u223000 x223000_1) := ⟨by rw [← hq_]; exact (Kd.pR HO_223000.out)⟩; have n1_ : Aside0 (Kd.R Kd.bool 4 wr w.heap.size (fun _ => True) u223001 x223001_1) := ⟨by rw [← hq_]; exact (Kd.pR HO_223001.out)⟩; have n2_ : Aside0 (Kd.R Kd.string 9 wr w.heap.size (fun _ => True) (.slice (some ad226) t223.length co11) t223) := ⟨by rw [← hq_]; exact (Kd.pR HO_30.out)⟩; have n3_ : Aside0 (wr.heap[gb216]? = some (.cells #[.slice none 0 0, .slice none 0 0, .int .i64 0] 65 (0, 0))) := ⟨by rw [← hq_]; exact (pk BK216.out)⟩; have n4_ : Aside0 (wr.heap[gb222]? = some (.cells #[u223000, u223001, .int .i64 t220] 65 (0, 0))) := ⟨by rw [← hq_]; exact (pk BK222.out)⟩; have n5_ : Aside0 (Below w.heap.size w wr) := ⟨by rw [← hq_]; exact (by repeat (first | (with_reducible first | exact HB.out | apply below_alloc | apply pw_below_drewN | apply below_drew1 | refine below_set ?_ (Aside0.out (by assumption))) | exact HB.out))⟩; clear HO_223000 HO_223001 HO_30 BK216 BK222 HB hq_; have HO_223000 := n0_; have HO_223001 := n1_; have HO_30 := n2_; have BK216 := n3_; have BK222 := n4_; have HB := n5_; clear n0_ n1_ n2_ n3_ n4_ n5_; have hczq7 := (blk_cell BK216.out 0); have hfzq7 := (blk_frozen BK216.out 0); simp at hczq7; have hczq8 := (blk_cell BK216.out 1); have hfzq8 := (blk_frozen BK216.out 1); simp at hczq8; have hczq9 := (blk_cell BK216.out 2); have hfzq9 := (blk_frozen BK216.out 2); simp at hczq9; have hczq10 := (blk_cell BK222.out 0); have hfzq10 := (blk_frozen BK222.out 0); simp at hczq10; have hczq11 := (blk_cell BK222.out 1); have hfzq11 := (blk_frozen BK222.out 1); simp at hczq11; have hczq12 := (blk_cell BK222.out 2); have hfzq12 := (blk_frozen BK222.out 2); simp at hczq12))) | ((with_reducible refine gate_callee (f := 92) rfl ?_); refine goesL_ (some 43) rfl rfl Tryd.func92 (by kernel_rfl) rfl #[.string t227] rfl (by (try simp only [List.map_toArray, List.map_cons, List.map_nil]); first | done | rfl | (simp only [List.length_drop, List.length_take]; rfl)) ?_; (with_reducible refine (impl_readNumber.calls t227 t229 t230 _ A16.out (Tab.up HT.out (by repeat (first | exact Below.refl _ _ | (with_reducible first | exact HB.out | apply below_alloc | apply pw_below_drewN | apply below_drew1 | refine below_set ?_ (Aside0.out (by assumption))) | exact HB.out)))).mono ?_); rintro e w20 ⟨rfl, hb⟩; refine ⟨_, rfl, ?_⟩; have n0_ := Aside0.mk (Kd.R_below (Kd.pR HO_30.out) hb); have n1_ := Aside0.mk (Kd.R_below (Kd.pR HO_223000.out) hb); have n2_ := Aside0.mk (Kd.R_below (Kd.pR HO_223001.out) hb); have n3_ := Aside0.mk (blk_below (pk BK216.out) hb); have n4_ := Aside0.mk (blk_below (pk BK222.out) hb); have n5_ := Aside0.mk (below_step (by repeat (first | (with_reducible first | exact HB.out | apply below_alloc | apply pw_below_drewN | apply below_drew1 | refine below_set ?_ (Aside0.out (by assumption))) | exact HB.out)) hb); clear HO_30; clear HO_223000; clear HO_223001; clear BK216; clear BK222; clear HB; have HO_30 := n0_; have HO_223000 := n1_; have HO_223001 := n2_; have BK216 := n3_; have BK222 := n4_; have HB := n5_; clear n0_ n1_ n2_ n3_ n4_ n5_; (try clear hb); (try clear hb2); (try clear hk); (try clear hi); obtain ⟨Ao21, co21, eo21⟩ := Kd.R_slice HO_223000.out; subst eo21; obtain ⟨Ao22, co22, eo22⟩ := Kd.R_slice HO_223001.out; subst eo22))
         have n0_ := Aside0.mk (Kd.R_drew HO_30.out)
         have n1_ := Aside0.mk (Kd.R_drew HO_223000.out)
         have n2_ := Aside0.mk (Kd.R_drew HO_223001.out)
         have n3_ := Aside0.mk (blk_drew BK216.out)
         have n4_ := Aside0.mk (blk_drew BK222.out)
         have n5_ := Aside0.mk (below_drew1 HB.out)
         clear HO_30 HO_223000 HO_223001 BK216 BK222 HB
         have HO_30 := n0_; have HO_223000 := n1_; have HO_223001 := n2_; have BK216 := n3_; have BK222 := n4_; have HB := n5_
         clear n0_ n1_ n2_ n3_ n4_ n5_
         refine start_ (n := 14) (S := fun w' => w'.cell? ⟨gb222, 0, none⟩ = some (.slice Ao21 x223000_1.length co21) ∧ w'.cell? ⟨gb222, 1, none⟩ = some (.slice Ao22 x223001_1.length co22) ∧ w'.cell? ⟨gb222, 2, none⟩ = some (.int .i64 t220)) (ds := [11, 13]) #[false, false, false, false, false, false, false, false, false, false, false, false, false, false] (by kernel_rfl) rfl rfl ⟨(blk_cell BK222.out 0).trans rfl, (blk_cell BK222.out 1).trans rfl, (blk_cell BK222.out 2).trans rfl⟩ (fun hHeld => ?_); refine with_tabW impl_ParseCrew.tab10 impl_ParseCrew.bits10 (fun HT_ HW_ => ?_)
         generalize w20.drew = w23 at HO_30 HO_223000 HO_223001 BK216 BK222 HB hHeld ⊢
         refine pure_ (i := 0) (N := some 50) (v := ?_) (a' := ?_) #[true, false, false, false, false, false, false, false, false, false, false, false, false, false] rfl rfl (any_of HT_.out (by kernel_rfl)) (fun _ _ _ h => h) (Or.inl ⟨by rfl, ?_⟩) ?_ ?_
         rotate_left
         ·
          intro w'
          go_simp
          with_reducible rfl
         rotate_left
         ·
          simp only [Act.put, List.setIfInBounds_toArray, List.set_cons_zero, List.set_cons_succ, i64_w, i32_w]
          rfl
         refine pure_ (i := 2) (N := some 52) (v := ?_) (a' := ?_) #[true, false, true, false, false, false, false, false, false, false, false, false, false, false] rfl rfl (any_of HT_.out (by kernel_rfl)) (fun _ _ _ h => h) (Or.inl ⟨by rfl, ?_⟩) ?_ ?_
         rotate_left
         ·
          intro w'
          go_simp
          with_reducible rfl
         rotate_left
         ·
          simp only [Act.put, List.setIfInBounds_toArray, List.set_cons_zero, List.set_cons_succ, i64_w, i32_w]
          rfl
         refine pure_ (i := 5) (N := some 55) (v := ?_) (a' := ?_) #[true, false, true, false, false, true, false, false, false, false, false, false, false, false] rfl rfl (any_of HT_.out (by kernel_rfl)) (fun _ _ _ h => h) (Or.inl ⟨by rfl, ?_⟩) ?_ ?_
         rotate_left
         ·
          intro w'
          go_simp
          with_reducible rfl
         rotate_left
         ·
          simp only [Act.put, List.setIfInBounds_toArray, List.set_cons_zero, List.set_cons_succ, i64_w, i32_w]
          rfl
         refine pure_ (i := 7) (N := some 57) (v := ?_) (a' := ?_) #[true, false, true, false, false, true, false, true, false, false, false, false, false, false] rfl rfl (any_of HT_.out (by kernel_rfl)) (fun _ _ _ h => h) (Or.inl ⟨by rfl, ?_⟩) ?_ ?_
         rotate_left
         ·
          intro w'
          go_simp
          with_reducible rfl
         rotate_left
         ·
          simp only [Act.put, List.setIfInBounds_toArray, List.set_cons_zero, List.set_cons_succ, i64_w, i32_w]
          rfl
         refine take_ (i := 1) (N := some 51) (v := ?_) (a' := ?_) #[true, true, true, false, false, true, false, true, false, false, false, false, false, false] rfl rfl (take_ofW HT_.out HW_.out (by kernel_rfl)) (fun _ _ _ h => h) (Or.inl ⟨by rfl, ?_⟩) hHeld ?_ ?_
         rotate_left
         ·
          rintro w' ⟨s0, s1, s2⟩
          go_simp
          with_reducible rfl
         rotate_left
         ·
          simp only [Act.put, List.setIfInBounds_toArray, List.set_cons_zero, List.set_cons_succ, i64_w, i32_w]
          rfl
         refine take_ (i := 6) (N := some 56) (v := ?_) (a' := ?_) #[true, true, true, false, false, true, true, true, false, false, false, false, false, false] rfl rfl (take_ofW HT_.out HW_.out (by kernel_rfl)) (fun _ _ _ h => h) (Or.inl ⟨by rfl, ?_⟩) hHeld ?_ ?_
         rotate_left
         ·
          rintro w' ⟨s0, s1, s2⟩
          go_simp
          with_reducible rfl
         rotate_left
         ·
          simp only [Act.put, List.setIfInBounds_toArray, List.set_cons_zero, List.set_cons_succ, i64_w, i32_w]
          rfl
         refine join_ (σ := Value × Value × Value) 4 #[true, true, true, true, true, true, true, true, true, false, true, false, false, false] (fun s_ => [(53, s_.1), (54, s_.2.1), (58, s_.2.2), (60, .pointer (some ⟨gb222, 0, none⟩))]) (fun s_ w' => (w'.cell? ⟨gb222, 0, none⟩ = some (.slice Ao21 x223000_1.length co21) ∧ w'.cell? ⟨gb222, 1, none⟩ = some (.slice Ao22 x223001_1.length co22) ∧ w'.cell? ⟨gb222, 2, none⟩ = some (.int .i64 t220)) ∧ (Kd.R (Kd.int .i64) 3 w' w.heap.size (fun k_ => some k_ ≠ (s_.2.1 : Value).ownBlock) s_.1 y231) ∧ (Kd.R (Kd.int .i64) 3 w' w.heap.size (fun k_ => some k_ ≠ (s_.1 : Value).ownBlock) s_.2.1 y234) ∧ (Kd.R Kd.bool 4 w' w.heap.size (fun k_ => some k_ ≠ (.slice Ao22 x223001_1.length co22 : Value).ownBlock) s_.2.2 y237) ∧ (Kd.R Kd.bool 4 w' w.heap.size (fun k_ => some k_ ≠ (s_.2.2 : Value).ownBlock) (.slice Ao22 x223001_1.length co22) x223001_1) ∧ (Kd.R Kd.string 9 w' w.heap.size (fun _ => True) (.slice (some ad226) t223.length co11) t223) ∧ (w'.heap[gb216]? = some (.cells #[.slice none 0 0, .slice none 0 0, .int .i64 0] 65 (0, 0))) ∧ (w'.heap[gb222]? = some (.cells #[.slice Ao21 x223000_1.length co21, .slice Ao22 x223001_1.length co22, .int .i64 t220] 65 (0, 0))) ∧ (Below w.heap.size w w')) ?_ ?_
         rotate_left
         ·
          intro hCont
          refine two_ (i := 3) (j := 8) (Ni := some 53) (Nj := some 58) #[true, true, true, true, false, true, true, true, false, false, false, false, false, false] #[true, true, true, false, false, true, true, true, true, false, false, false, false, false] rfl rfl rfl rfl (two_of HT_.out (by kernel_rfl)) (by decide) (by decide) (fun K hK => ?_) (fun K hK => ?_)
          ·
           skip
           refine Kd.R_lit_step (Kd.int .i64) _ 3 ?hg (N := 53) ?hd (xs := ([t229] : List Int)) (inner := [.int .i64 t229]) (ok := fun _ => True) (okp := fun _ => True) ?hr ?hp (fun _ hk => hk) trivial (Below.refl _ _) (Nat.le_refl _) (by simp) ?_; (case hd => rfl); (case hg => rfl); (case hr => first | (go_simp; done) | (go_simp; rfl)); (case hp => exact (Reps.one (show Kd.M (Kd.int .i64) _ _ _ t229 [.int .i64 t229] from rfl) (Reps.none _ _)))
           intro v232 w24 ho25 hb hg_ hnew_
           clear hg_ hnew_
           (first | rw [← Ny231.out] at ho25 | (simp only [Int.reduceToNat] at ho25; rw [← Ny231.out] at ho25))
           have n0_ := Aside0.mk (Kd.R_below (Kd.pR HO_30.out) hb)
           have n1_ := Aside0.mk (Kd.R_elder' (Kd.pR HO_223000.out) (Kd.R_base ho25) hb)
           have n2_ := Aside0.mk (Kd.R_below (Kd.pR HO_223001.out) hb)
           have n3_ := Aside0.mk (Kd.R_lower (Kd.R_new' ho25 (Kd.R_lt (Kd.pR HO_223000.out))) (below_size (by repeat (first | (with_reducible first | exact HB.out | apply below_alloc | apply pw_below_drewN | apply below_drew1 | refine below_set ?_ (Aside0.out (by assumption))) | exact HB.out))))
           have n4_ := Aside0.mk (blk_below (pk BK216.out) hb)
           have n5_ := Aside0.mk (blk_below (pk BK222.out) hb)
           have n6_ := Aside0.mk (below_step (by repeat (first | (with_reducible first | exact HB.out | apply below_alloc | apply pw_below_drewN | apply below_drew1 | refine below_set ?_ (Aside0.out (by assumption))) | exact HB.out)) hb)
           clear HO_30 HO_223000 HO_223001 BK216 BK222 HB
           have HO_30 := n0_; have HO_223000 := n1_; have HO_223001 := n2_; have HO233 := n3_; have BK216 := n4_; have BK222 := n5_; have HB := n6_
           clear n0_ n1_ n2_ n3_ n4_ n5_ n6_ hb ho25
           obtain ⟨Ao27, co27, eo27⟩ := Kd.R_slice HO233.out
           (first | subst eo27 | (injection eo27 with f1_ f2_ f3_; have f4_ := f1_.symm; have f5_ := f3_.symm; clear f1_ f2_ f3_; subst f4_; subst f5_))
           refine hK.out _ _ ⟨(blk_cell BK222.out 0).trans rfl, (blk_cell BK222.out 1).trans rfl, (blk_cell BK222.out 2).trans rfl⟩ (fun hHeld => ?_)
           clear hK K
           refine norm_ (a' := ?_) ?_ ?_
           rotate_left
           ·
            show Act.put _ (some 53) _ = _
            simp only [Act.put, List.setIfInBounds_toArray, List.set_cons_zero, List.set_cons_succ, i64_w, i32_w]
            rfl
           refine two_ (i := 4) (j := 8) (Ni := some 54) (Nj := some 58) #[true, true, true, true, true, true, true, true, false, false, false, false, false, false] #[true, true, true, true, false, true, true, true, true, false, false, false, false, false] rfl rfl rfl rfl (two_of HT_.out (by kernel_rfl)) (by decide) (by decide) (fun K hK => ?_) (fun K hK => ?_)
           ·
            skip
            refine Kd.R_append_rows_step (Kd.int .i64) (w0 := w) w.heap.size (by rfl) (.tmp 51) (.tmp 53) 22 3 (.int .i64 0) 8 rfl Tryd.underlying22 info3 rfl (by decide) (by omega) (.slice Ao21 x223000_1.length co21) x223000_1 y231 _ _ _ (fun k_ => some k_ ≠ (.slice Ao27 y231.length co27 : Value).ownBlock) (fun _ => False) rfl rfl ?aO ?aR (fun _ _ h => h) (fun _ h => h.elim) ?aF ?aB ?aS ?aL ?_
            (case aR => repeat (first | exact (Kd.R_reads' HO233.out).2.2 | (with_reducible refine Kd.C_alloc ?_ _) | (with_reducible refine Kd.C_drewN ?_ _) | (with_reducible refine Kd.C_drew ?_)))
            (case aB => exact (by repeat (first | (with_reducible first | exact HB.out | apply below_alloc | apply pw_below_drewN | apply below_drew1 | refine below_set ?_ (Aside0.out (by assumption))) | exact HB.out)))
            (case aF => exact (fun k_ hk => Kd.fresh' (Kd.R_lt (Kd.pR HO233.out)) k_ hk))
            (case aO => exact (by (with_reducible repeat (first | apply Kd.R_alloc | apply Kd.R_drewN | apply Kd.R_drew)); exact Kd.R_mono HO_223000.out (fun _ hk => hk.2)))
            (case aS => exact (below_size (by repeat (first | (with_reducible first | exact HB.out | apply below_alloc | apply pw_below_drewN | apply below_drew1 | refine below_set ?_ (Aside0.out (by assumption))) | exact HB.out))))
            (case aL => have := LMc18.out; omega)
            intro v235 w26 ho hb hg hat
            rw [← Ny234.out] at ho
            have n0_ := Aside0.mk (Kd.R_over' (Kd.pR HO_30.out) (Kd.R_typed (Kd.pR HO_223000.out)) (by decide) hg)
            have n1_ := Aside0.mk (Kd.R_over' (Kd.pR HO_223001.out) (Kd.R_typed (Kd.pR HO_223000.out)) (by decide) hg)
            have n2_ := Aside0.mk (blk_grown (pk BK216.out) hg (Kd.R_ne HO_223000.out BK216.out (by decide)))
            have n3_ := Aside0.mk (blk_grown (pk BK222.out) hg (Kd.R_ne HO_223000.out BK222.out (by decide)))
            have n4_ := Aside0.mk (Kd.R_after (ok := (fun _ => True)) (Kd.pR HO233.out) hg hat)
            have n5_ := Aside0.mk (hb)
            have n6_ := Aside0.mk (ho)
            clear HO_30 HO_223001 BK216 BK222 HO233 HB HO_223000
            have HO_30 := n0_; have HO_223001 := n1_; have BK216 := n2_; have BK222 := n3_; have HO233 := n4_; have HB := n5_; have HO236 := n6_
            clear n0_ n1_ n2_ n3_ n4_ n5_ n6_ ho hb hg hat
            refine hK.out _ _ ⟨(blk_cell BK222.out 0).trans rfl, (blk_cell BK222.out 1).trans rfl, (blk_cell BK222.out 2).trans rfl⟩ (fun hHeld => ?_)
            clear hK K
            refine norm_ (a' := ?_) ?_ ?_
            rotate_left
            ·
             show Act.put _ (some 54) _ = _
             simp only [Act.put, List.setIfInBounds_toArray, List.set_cons_zero, List.set_cons_succ, i64_w, i32_w]
             rfl
            refine pure_ (i := 10) (N := some 60) (v := ?_) (a' := ?_) #[true, true, true, true, true, true, true, true, false, false, true, false, false, false] rfl rfl (any_of HT_.out (by kernel_rfl)) (fun _ _ _ h => h) (Or.inl ⟨by rfl, ?_⟩) ?_ ?_
            rotate_left
            ·
             intro w'
             go_simp
             with_reducible rfl
            rotate_left
            ·
             simp only [Act.put, List.setIfInBounds_toArray, List.set_cons_zero, List.set_cons_succ, i64_w, i32_w]
             rfl
            refine one_ (i := 8) (N := some 58) #[true, true, true, true, true, true, true, true, true, false, true, false, false, false] rfl rfl (one_of HT_.out (by kernel_rfl)) (by decide) (fun K hK => ?_)
            refine Kd.R_lit_step Kd.bool _ 4 ?hg (N := 58) ?hd (xs := ([t228] : List Bool)) (inner := [.bool t228]) (ok := fun _ => True) (okp := fun _ => True) ?hr ?hp (fun _ hk => hk) trivial (Below.refl _ _) (Nat.le_refl _) (by simp) ?_; (case hd => rfl); (case hg => rfl); (case hr => first | (go_simp; done) | (go_simp; rfl)); (case hp => exact (Reps.one (show Kd.M Kd.bool _ _ _ t228 [.bool t228] from rfl) (Reps.none _ _)))
            intro v238 w28 ho29 hb hg_ hnew_
            clear hg_ hnew_
            (first | rw [← Ny237.out] at ho29 | (simp only [Int.reduceToNat] at ho29; rw [← Ny237.out] at ho29))
            have n0_ := Aside0.mk (Kd.R_below (Kd.pR HO_30.out) hb)
            have n1_ := Aside0.mk (Kd.R_elder' (Kd.pR HO_223001.out) (Kd.R_base ho29) hb)
            have n2_ := Aside0.mk (Kd.R_below (Kd.pR HO233.out) hb)
            have n3_ := Aside0.mk (Kd.R_below (Kd.pR HO236.out) hb)
            have n4_ := Aside0.mk (Kd.R_lower (Kd.R_new' ho29 (Kd.R_lt (Kd.pR HO_223001.out))) (below_size (by repeat (first | (with_reducible first | exact HB.out | apply below_alloc | apply pw_below_drewN | apply below_drew1 | refine below_set ?_ (Aside0.out (by assumption))) | exact HB.out))))
            have n5_ := Aside0.mk (blk_below (pk BK216.out) hb)
            have n6_ := Aside0.mk (blk_below (pk BK222.out) hb)
            have n7_ := Aside0.mk (below_step (by repeat (first | (with_reducible first | exact HB.out | apply below_alloc | apply pw_below_drewN | apply below_drew1 | refine below_set ?_ (Aside0.out (by assumption))) | exact HB.out)) hb)
            clear HO_30 HO_223001 HO233 HO236 BK216 BK222 HB
            have HO_30 := n0_; have HO_223001 := n1_; have HO233 := n2_; have HO236 := n3_; have HO239 := n4_; have BK216 := n5_; have BK222 := n6_; have HB := n7_
            clear n0_ n1_ n2_ n3_ n4_ n5_ n6_ n7_ hb ho29
            refine hK.out _ _ ⟨(blk_cell BK222.out 0).trans rfl, (blk_cell BK222.out 1).trans rfl, (blk_cell BK222.out 2).trans rfl⟩ (fun hHeld => ?_)
            clear hK K
            refine norm_ (a' := ?_) ?_ ?_
            rotate_left
            ·
             show Act.put _ (some 58) _ = _
             simp only [Act.put, List.setIfInBounds_toArray, List.set_cons_zero, List.set_cons_succ, i64_w, i32_w]
             rfl
            exact norm_ (by simp only [putAll, Act.put, List.setIfInBounds_toArray, List.set_cons_zero, List.set_cons_succ]) (hCont (.slice Ao27 y231.length co27, v235, v238) _ ⟨hHeld, (by (with_reducible repeat (first | apply Kd.R_alloc | apply Kd.R_drewN | apply Kd.R_drew)); exact Kd.R_mono HO233.out (fun _ hk => hk.2)), (Kd.pR HO236.out), (by (with_reducible repeat (first | apply Kd.R_alloc | apply Kd.R_drewN | apply Kd.R_drew)); exact Kd.R_mono HO239.out (fun _ hk => hk.2)), (by (with_reducible repeat (first | apply Kd.R_alloc | apply Kd.R_drewN | apply Kd.R_drew)); exact Kd.R_mono HO_223001.out (fun _ hk => hk.2)), (Kd.pR HO_30.out), (pk BK216.out), (pk BK222.out), (by repeat (first | (with_reducible first | exact HB.out | apply below_alloc | apply pw_below_drewN | apply below_drew1 | refine below_set ?_ (Aside0.out (by assumption))) | exact HB.out))⟩)
           ·
            skip
            refine Kd.R_lit_step Kd.bool _ 4 ?hg (N := 58) ?hd (xs := ([t228] : List Bool)) (inner := [.bool t228]) (ok := fun _ => True) (okp := fun _ => True) ?hr ?hp (fun _ hk => hk) trivial (Below.refl _ _) (Nat.le_refl _) (by simp) ?_; (case hd => rfl); (case hg => rfl); (case hr => first | (go_simp; done) | (go_simp; rfl)); (case hp => exact (Reps.one (show Kd.M Kd.bool _ _ _ t228 [.bool t228] from rfl) (Reps.none _ _)))
            intro v238 w26 ho27 hb hg_ hnew_
            clear hg_ hnew_
            (first | rw [← Ny237.out] at ho27 | (simp only [Int.reduceToNat] at ho27; rw [← Ny237.out] at ho27))
            have n0_ := Aside0.mk (Kd.R_below (Kd.pR HO_30.out) hb)
            have n1_ := Aside0.mk (Kd.R_below (Kd.pR HO_223000.out) hb)
            have n2_ := Aside0.mk (Kd.R_elder' (Kd.pR HO_223001.out) (Kd.R_base ho27) hb)
            have n3_ := Aside0.mk (Kd.R_below (Kd.pR HO233.out) hb)
            have n4_ := Aside0.mk (Kd.R_lower (Kd.R_new' ho27 (Kd.R_lt (Kd.pR HO_223001.out))) (below_size (by repeat (first | (with_reducible first | exact HB.out | apply below_alloc | apply pw_below_drewN | apply below_drew1 | refine below_set ?_ (Aside0.out (by assumption))) | exact HB.out))))
            have n5_ := Aside0.mk (blk_below (pk BK216.out) hb)
            have n6_ := Aside0.mk (blk_below (pk BK222.out) hb)
            have n7_ := Aside0.mk (below_step (by repeat (first | (with_reducible first | exact HB.out | apply below_alloc | apply pw_below_drewN | apply below_drew1 | refine below_set ?_ (Aside0.out (by assumption))) | exact HB.out)) hb)
            clear HO_30 HO_223000 HO_223001 HO233 BK216 BK222 HB
            have HO_30 := n0_; have HO_223000 := n1_; have HO_223001 := n2_; have HO233 := n3_; have HO239 := n4_; have BK216 := n5_; have BK222 := n6_; have HB := n7_
            clear n0_ n1_ n2_ n3_ n4_ n5_ n6_ n7_ hb ho27
            obtain ⟨Ao29, co29, eo29⟩ := Kd.R_slice HO233.out
            (first | subst eo29 | (injection eo29 with f1_ f2_ f3_; have f4_ := f1_.symm; have f5_ := f3_.symm; clear f1_ f2_ f3_; subst f4_; subst f5_))
            refine hK.out _ _ ⟨(blk_cell BK222.out 0).trans rfl, (blk_cell BK222.out 1).trans rfl, (blk_cell BK222.out 2).trans rfl⟩ (fun hHeld => ?_)
            clear hK K
            refine norm_ (a' := ?_) ?_ ?_
            rotate_left
            ·
             show Act.put _ (some 58) _ = _
             simp only [Act.put, List.setIfInBounds_toArray, List.set_cons_zero, List.set_cons_succ, i64_w, i32_w]
             rfl
            refine one_ (i := 4) (N := some 54) #[true, true, true, true, true, true, true, true, true, false, false, false, false, false] rfl rfl (one_of HT_.out (by kernel_rfl)) (by decide) (fun K hK => ?_)
            refine Kd.R_append_rows_step (Kd.int .i64) (w0 := w) w.heap.size (by rfl) (.tmp 51) (.tmp 53) 22 3 (.int .i64 0) 8 rfl Tryd.underlying22 info3 rfl (by decide) (by omega) (.slice Ao21 x223000_1.length co21) x223000_1 y231 _ _ _ (fun k_ => some k_ ≠ (.slice Ao29 y231.length co29 : Value).ownBlock) (fun _ => False) rfl rfl ?aO ?aR (fun _ _ h => h) (fun _ h => h.elim) ?aF ?aB ?aS ?aL ?_
            (case aR => repeat (first | exact (Kd.R_reads' HO233.out).2.2 | (with_reducible refine Kd.C_alloc ?_ _) | (with_reducible refine Kd.C_drewN ?_ _) | (with_reducible refine Kd.C_drew ?_)))
            (case aB => exact (by repeat (first | (with_reducible first | exact HB.out | apply below_alloc | apply pw_below_drewN | apply below_drew1 | refine below_set ?_ (Aside0.out (by assumption))) | exact HB.out)))
            (case aF => exact (fun k_ hk => Kd.fresh' (Kd.R_lt (Kd.pR HO233.out)) k_ hk))
            (case aO => exact (by (with_reducible repeat (first | apply Kd.R_alloc | apply Kd.R_drewN | apply Kd.R_drew)); exact Kd.R_mono HO_223000.out (fun _ hk => hk.2)))
            (case aS => exact (below_size (by repeat (first | (with_reducible first | exact HB.out | apply below_alloc | apply pw_below_drewN | apply below_drew1 | refine below_set ?_ (Aside0.out (by assumption))) | exact HB.out))))
            (case aL => have := LMc18.out; omega)
            intro v235 w28 ho hb hg hat
            rw [← Ny234.out] at ho
            have n0_ := Aside0.mk (Kd.R_over' (Kd.pR HO_30.out) (Kd.R_typed (Kd.pR HO_223000.out)) (by decide) hg)
            have n1_ := Aside0.mk (Kd.R_over' (Kd.pR HO_223001.out) (Kd.R_typed (Kd.pR HO_223000.out)) (by decide) hg)
            have n2_ := Aside0.mk (blk_grown (pk BK216.out) hg (Kd.R_ne HO_223000.out BK216.out (by decide)))
            have n3_ := Aside0.mk (blk_grown (pk BK222.out) hg (Kd.R_ne HO_223000.out BK222.out (by decide)))
            have n4_ := Aside0.mk (Kd.R_after (ok := (fun _ => True)) (Kd.pR HO233.out) hg hat)
            have n5_ := Aside0.mk (Kd.R_over' (Kd.pR HO239.out) (Kd.R_typed (Kd.pR HO_223000.out)) (by decide) hg)
            have n6_ := Aside0.mk (hb)
            have n7_ := Aside0.mk (ho)
            clear HO_30 HO_223001 BK216 BK222 HO233 HO239 HB HO_223000
            have HO_30 := n0_; have HO_223001 := n1_; have BK216 := n2_; have BK222 := n3_; have HO233 := n4_; have HO239 := n5_; have HB := n6_; have HO236 := n7_
            clear n0_ n1_ n2_ n3_ n4_ n5_ n6_ n7_ ho hb hg hat
            refine hK.out _ _ ⟨(blk_cell BK222.out 0).trans rfl, (blk_cell BK222.out 1).trans rfl, (blk_cell BK222.out 2).trans rfl⟩ (fun hHeld => ?_)
            clear hK K
            refine norm_ (a' := ?_) ?_ ?_
            rotate_left
            ·
             show Act.put _ (some 54) _ = _
             simp only [Act.put, List.setIfInBounds_toArray, List.set_cons_zero, List.set_cons_succ, i64_w, i32_w]
             rfl
            refine pure_ (i := 10) (N := some 60) (v := ?_) (a' := ?_) #[true, true, true, true, true, true, true, true, true, false, true, false, false, false] rfl rfl (any_of HT_.out (by kernel_rfl)) (fun _ _ _ h => h) (Or.inl ⟨by rfl, ?_⟩) ?_ ?_
            rotate_left
            ·
             intro w'
             go_simp
             with_reducible rfl
            rotate_left
            ·
             simp only [Act.put, List.setIfInBounds_toArray, List.set_cons_zero, List.set_cons_succ, i64_w, i32_w]
             rfl
            exact norm_ (by simp only [putAll, Act.put, List.setIfInBounds_toArray, List.set_cons_zero, List.set_cons_succ]) (hCont (.slice Ao29 y231.length co29, v235, v238) _ ⟨hHeld, (by (with_reducible repeat (first | apply Kd.R_alloc | apply Kd.R_drewN | apply Kd.R_drew)); exact Kd.R_mono HO233.out (fun _ hk => hk.2)), (Kd.pR HO236.out), (by (with_reducible repeat (first | apply Kd.R_alloc | apply Kd.R_drewN | apply Kd.R_drew)); exact Kd.R_mono HO239.out (fun _ hk => hk.2)), (by (with_reducible repeat (first | apply Kd.R_alloc | apply Kd.R_drewN | apply Kd.R_drew)); exact Kd.R_mono HO_223001.out (fun _ hk => hk.2)), (Kd.pR HO_30.out), (pk BK216.out), (pk BK222.out), (by repeat (first | (with_reducible first | exact HB.out | apply below_alloc | apply pw_below_drewN | apply below_drew1 | refine below_set ?_ (Aside0.out (by assumption))) | exact HB.out))⟩)
          ·
           skip
           refine Kd.R_lit_step Kd.bool _ 4 ?hg (N := 58) ?hd (xs := ([t228] : List Bool)) (inner := [.bool t228]) (ok := fun _ => True) (okp := fun _ => True) ?hr ?hp (fun _ hk => hk) trivial (Below.refl _ _) (Nat.le_refl _) (by simp) ?_; (case hd => rfl); (case hg => rfl); (case hr => first | (go_simp; done) | (go_simp; rfl)); (case hp => exact (Reps.one (show Kd.M Kd.bool _ _ _ t228 [.bool t228] from rfl) (Reps.none _ _)))
           intro v238 w24 ho25 hb hg_ hnew_
           clear hg_ hnew_
           (first | rw [← Ny237.out] at ho25 | (simp only [Int.reduceToNat] at ho25; rw [← Ny237.out] at ho25))
           have n0_ := Aside0.mk (Kd.R_below (Kd.pR HO_30.out) hb)
           have n1_ := Aside0.mk (Kd.R_below (Kd.pR HO_223000.out) hb)
           have n2_ := Aside0.mk (Kd.R_elder' (Kd.pR HO_223001.out) (Kd.R_base ho25) hb)
           have n3_ := Aside0.mk (Kd.R_lower (Kd.R_new' ho25 (Kd.R_lt (Kd.pR HO_223001.out))) (below_size (by repeat (first | (with_reducible first | exact HB.out | apply below_alloc | apply pw_below_drewN | apply below_drew1 | refine below_set ?_ (Aside0.out (by assumption))) | exact HB.out))))
           have n4_ := Aside0.mk (blk_below (pk BK216.out) hb)
           have n5_ := Aside0.mk (blk_below (pk BK222.out) hb)
           have n6_ := Aside0.mk (below_step (by repeat (first | (with_reducible first | exact HB.out | apply below_alloc | apply pw_below_drewN | apply below_drew1 | refine below_set ?_ (Aside0.out (by assumption))) | exact HB.out)) hb)
           clear HO_30 HO_223000 HO_223001 BK216 BK222 HB
           have HO_30 := n0_; have HO_223000 := n1_; have HO_223001 := n2_; have HO239 := n3_; have BK216 := n4_; have BK222 := n5_; have HB := n6_
           clear n0_ n1_ n2_ n3_ n4_ n5_ n6_ hb ho25
           refine hK.out _ _ ⟨(blk_cell BK222.out 0).trans rfl, (blk_cell BK222.out 1).trans rfl, (blk_cell BK222.out 2).trans rfl⟩ (fun hHeld => ?_)
           clear hK K
           refine norm_ (a' := ?_) ?_ ?_
           rotate_left
           ·
            show Act.put _ (some 58) _ = _
            simp only [Act.put, List.setIfInBounds_toArray, List.set_cons_zero, List.set_cons_succ, i64_w, i32_w]
            rfl
           refine one_ (i := 3) (N := some 53) #[true, true, true, true, false, true, true, true, true, false, false, false, false, false] rfl rfl (one_of HT_.out (by kernel_rfl)) (by decide) (fun K hK => ?_)
           refine Kd.R_lit_step (Kd.int .i64) _ 3 ?hg (N := 53) ?hd (xs := ([t229] : List Int)) (inner := [.int .i64 t229]) (ok := fun _ => True) (okp := fun _ => True) ?hr ?hp (fun _ hk => hk) trivial (Below.refl _ _) (Nat.le_refl _) (by simp) ?_; (case hd => rfl); (case hg => rfl); (case hr => first | (go_simp; done) | (go_simp; rfl)); (case hp => exact (Reps.one (show Kd.M (Kd.int .i64) _ _ _ t229 [.int .i64 t229] from rfl) (Reps.none _ _)))
           intro v232 w26 ho27 hb hg_ hnew_
           clear hg_ hnew_
           (first | rw [← Ny231.out] at ho27 | (simp only [Int.reduceToNat] at ho27; rw [← Ny231.out] at ho27))
           have n0_ := Aside0.mk (Kd.R_below (Kd.pR HO_30.out) hb)
           have n1_ := Aside0.mk (Kd.R_elder' (Kd.pR HO_223000.out) (Kd.R_base ho27) hb)
           have n2_ := Aside0.mk (Kd.R_below (Kd.pR HO_223001.out) hb)
           have n3_ := Aside0.mk (Kd.R_below (Kd.pR HO239.out) hb)
           have n4_ := Aside0.mk (Kd.R_lower (Kd.R_new' ho27 (Kd.R_lt (Kd.pR HO_223000.out))) (below_size (by repeat (first | (with_reducible first | exact HB.out | apply below_alloc | apply pw_below_drewN | apply below_drew1 | refine below_set ?_ (Aside0.out (by assumption))) | exact HB.out))))
           have n5_ := Aside0.mk (blk_below (pk BK216.out) hb)
           have n6_ := Aside0.mk (blk_below (pk BK222.out) hb)
           have n7_ := Aside0.mk (below_step (by repeat (first | (with_reducible first | exact HB.out | apply below_alloc | apply pw_below_drewN | apply below_drew1 | refine below_set ?_ (Aside0.out (by assumption))) | exact HB.out)) hb)
           clear HO_30 HO_223000 HO_223001 HO239 BK216 BK222 HB
           have HO_30 := n0_; have HO_223000 := n1_; have HO_223001 := n2_; have HO239 := n3_; have HO233 := n4_; have BK216 := n5_; have BK222 := n6_; have HB := n7_
           clear n0_ n1_ n2_ n3_ n4_ n5_ n6_ n7_ hb ho27
           obtain ⟨Ao29, co29, eo29⟩ := Kd.R_slice HO233.out
           (first | subst eo29 | (injection eo29 with f1_ f2_ f3_; have f4_ := f1_.symm; have f5_ := f3_.symm; clear f1_ f2_ f3_; subst f4_; subst f5_))
           refine hK.out _ _ ⟨(blk_cell BK222.out 0).trans rfl, (blk_cell BK222.out 1).trans rfl, (blk_cell BK222.out 2).trans rfl⟩ (fun hHeld => ?_)
           clear hK K
           refine norm_ (a' := ?_) ?_ ?_
           rotate_left
           ·
            show Act.put _ (some 53) _ = _
            simp only [Act.put, List.setIfInBounds_toArray, List.set_cons_zero, List.set_cons_succ, i64_w, i32_w]
            rfl
           refine one_ (i := 4) (N := some 54) #[true, true, true, true, true, true, true, true, true, false, false, false, false, false] rfl rfl (one_of HT_.out (by kernel_rfl)) (by decide) (fun K hK => ?_)
           refine Kd.R_append_rows_step (Kd.int .i64) (w0 := w) w.heap.size (by rfl) (.tmp 51) (.tmp 53) 22 3 (.int .i64 0) 8 rfl Tryd.underlying22 info3 rfl (by decide) (by omega) (.slice Ao21 x223000_1.length co21) x223000_1 y231 _ _ _ (fun k_ => some k_ ≠ (.slice Ao29 y231.length co29 : Value).ownBlock) (fun _ => False) rfl rfl ?aO ?aR (fun _ _ h => h) (fun _ h => h.elim) ?aF ?aB ?aS ?aL ?_
           (case aR => repeat (first | exact (Kd.R_reads' HO233.out).2.2 | (with_reducible refine Kd.C_alloc ?_ _) | (with_reducible refine Kd.C_drewN ?_ _) | (with_reducible refine Kd.C_drew ?_)))
           (case aB => exact (by repeat (first | (with_reducible first | exact HB.out | apply below_alloc | apply pw_below_drewN | apply below_drew1 | refine below_set ?_ (Aside0.out (by assumption))) | exact HB.out)))
           (case aF => exact (fun k_ hk => Kd.fresh' (Kd.R_lt (Kd.pR HO233.out)) k_ hk))
           (case aO => exact (by (with_reducible repeat (first | apply Kd.R_alloc | apply Kd.R_drewN | apply Kd.R_drew)); exact Kd.R_mono HO_223000.out (fun _ hk => hk.2)))
           (case aS => exact (below_size (by repeat (first | (with_reducible first | exact HB.out | apply below_alloc | apply pw_below_drewN | apply below_drew1 | refine below_set ?_ (Aside0.out (by assumption))) | exact HB.out))))
           (case aL => have := LMc18.out; omega)
           intro v235 w28 ho hb hg hat
           rw [← Ny234.out] at ho
           have n0_ := Aside0.mk (Kd.R_over' (Kd.pR HO_30.out) (Kd.R_typed (Kd.pR HO_223000.out)) (by decide) hg)
           have n1_ := Aside0.mk (Kd.R_over' (Kd.pR HO_223001.out) (Kd.R_typed (Kd.pR HO_223000.out)) (by decide) hg)
           have n2_ := Aside0.mk (blk_grown (pk BK216.out) hg (Kd.R_ne HO_223000.out BK216.out (by decide)))
           have n3_ := Aside0.mk (blk_grown (pk BK222.out) hg (Kd.R_ne HO_223000.out BK222.out (by decide)))
           have n4_ := Aside0.mk (Kd.R_over' (Kd.pR HO239.out) (Kd.R_typed (Kd.pR HO_223000.out)) (by decide) hg)
           have n5_ := Aside0.mk (Kd.R_after (ok := (fun _ => True)) (Kd.pR HO233.out) hg hat)
           have n6_ := Aside0.mk (hb)
           have n7_ := Aside0.mk (ho)
           clear HO_30 HO_223001 BK216 BK222 HO239 HO233 HB HO_223000
           have HO_30 := n0_; have HO_223001 := n1_; have BK216 := n2_; have BK222 := n3_; have HO239 := n4_; have HO233 := n5_; have HB := n6_; have HO236 := n7_
           clear n0_ n1_ n2_ n3_ n4_ n5_ n6_ n7_ ho hb hg hat
           refine hK.out _ _ ⟨(blk_cell BK222.out 0).trans rfl, (blk_cell BK222.out 1).trans rfl, (blk_cell BK222.out 2).trans rfl⟩ (fun hHeld => ?_)
           clear hK K
           refine norm_ (a' := ?_) ?_ ?_
           rotate_left
           ·
            show Act.put _ (some 54) _ = _
            simp only [Act.put, List.setIfInBounds_toArray, List.set_cons_zero, List.set_cons_succ, i64_w, i32_w]
            rfl
           refine pure_ (i := 10) (N := some 60) (v := ?_) (a' := ?_) #[true, true, true, true, true, true, true, true, true, false, true, false, false, false] rfl rfl (any_of HT_.out (by kernel_rfl)) (fun _ _ _ h => h) (Or.inl ⟨by rfl, ?_⟩) ?_ ?_
           rotate_left
           ·
            intro w'
            go_simp
            with_reducible rfl
           rotate_left
           ·
            simp only [Act.put, List.setIfInBounds_toArray, List.set_cons_zero, List.set_cons_succ, i64_w, i32_w]
            rfl
           exact norm_ (by simp only [putAll, Act.put, List.setIfInBounds_toArray, List.set_cons_zero, List.set_cons_succ]) (hCont (.slice Ao29 y231.length co29, v235, v238) _ ⟨hHeld, (by (with_reducible repeat (first | apply Kd.R_alloc | apply Kd.R_drewN | apply Kd.R_drew)); exact Kd.R_mono HO233.out (fun _ hk => hk.2)), (Kd.pR HO236.out), (by (with_reducible repeat (first | apply Kd.R_alloc | apply Kd.R_drewN | apply Kd.R_drew)); exact Kd.R_mono HO239.out (fun _ hk => hk.2)), (by (with_reducible repeat (first | apply Kd.R_alloc | apply Kd.R_drewN | apply Kd.R_drew)); exact Kd.R_mono HO_223001.out (fun _ hk => hk.2)), (Kd.pR HO_30.out), (pk BK216.out), (pk BK222.out), (by repeat (first | (with_reducible first | exact HB.out | apply below_alloc | apply pw_below_drewN | apply below_drew1 | refine below_set ?_ (Aside0.out (by assumption))) | exact HB.out))⟩)
         rintro ⟨v232, v235, v238⟩ w30 ⟨hS_, h0_, h1_, h2_, h3_, h4_, h5_, h6_, h7_⟩
         have n0_ : Aside0 (Kd.R (Kd.int .i64) 3 w30 w.heap.size (fun k_ => some k_ ≠ (v235 : Value).ownBlock) v232 y231) := ⟨h0_⟩
         have n1_ : Aside0 (Kd.R (Kd.int .i64) 3 w30 w.heap.size (fun k_ => some k_ ≠ (v232 : Value).ownBlock) v235 y234) := ⟨h1_⟩
         have n2_ : Aside0 (Kd.R Kd.bool 4 w30 w.heap.size (fun k_ => some k_ ≠ (.slice Ao22 x223001_1.length co22 : Value).ownBlock) v238 y237) := ⟨h2_⟩
         have n3_ : Aside0 (Kd.R Kd.bool 4 w30 w.heap.size (fun k_ => some k_ ≠ (v238 : Value).ownBlock) (.slice Ao22 x223001_1.length co22) x223001_1) := ⟨h3_⟩
         have n4_ : Aside0 (Kd.R Kd.string 9 w30 w.heap.size (fun _ => True) (.slice (some ad226) t223.length co11) t223) := ⟨h4_⟩
         have n5_ : Aside0 (w30.heap[gb216]? = some (.cells #[.slice none 0 0, .slice none 0 0, .int .i64 0] 65 (0, 0))) := ⟨h5_⟩
         have n6_ : Aside0 (w30.heap[gb222]? = some (.cells #[.slice Ao21 x223000_1.length co21, .slice Ao22 x223001_1.length co22, .int .i64 t220] 65 (0, 0))) := ⟨h6_⟩
         have n7_ : Aside0 (Below w.heap.size w w30) := ⟨h7_⟩
         clear HO_30 HO_223000 HO_223001 BK216 BK222 HB h0_ h1_ h2_ h3_ h4_ h5_ h6_ h7_
         have HO233 := n0_; have HO236 := n1_; have HO239 := n2_; have HO_223001 := n3_; have HO_30 := n4_; have BK216 := n5_; have BK222 := n6_; have HB := n7_
         clear n0_ n1_ n2_ n3_ n4_ n5_ n6_ n7_
         have hHeld : w30.cell? ⟨gb222, 0, none⟩ = some (.slice Ao21 x223000_1.length co21) ∧ w30.cell? ⟨gb222, 1, none⟩ = some (.slice Ao22 x223001_1.length co22) ∧ w30.cell? ⟨gb222, 2, none⟩ = some (.int .i64 t220) := hS_
         obtain ⟨Ao32, co32, eo32⟩ := Kd.R_slice HO239.out
         (first | subst eo32 | (injection eo32 with f1_ f2_ f3_; have f4_ := f1_.symm; have f5_ := f3_.symm; clear f1_ f2_ f3_; subst f4_; subst f5_))
         refine norm_ (a' := ?_) ?_ ?_
         rotate_left
         ·
          simp only [putAll, Act.put, List.setIfInBounds_toArray, List.set_cons_zero, List.set_cons_succ]
          rfl
         refine one_ (i := 9) (N := some 59) #[true, true, true, true, true, true, true, true, true, true, true, false, false, false] rfl rfl (one_of HT_.out (by kernel_rfl)) (by decide) (fun K hK => ?_)
         refine Kd.R_append_rows_step Kd.bool (w0 := w) w.heap.size (by rfl) (.tmp 56) (.tmp 58) 60 4 (.bool false) 1 rfl Tryd.underlying60 info4 rfl (by decide) (by omega) (.slice Ao22 x223001_1.length co22) x223001_1 y237 _ _ _ (fun k_ => some k_ ≠ (.slice Ao32 y237.length co32 : Value).ownBlock) (fun _ => False) rfl rfl ?aO ?aR (fun _ _ h => h) (fun _ h => h.elim) ?aF ?aB ?aS ?aL ?_
         (case aR => repeat (first | exact (Kd.R_reads' HO239.out).2.2 | (with_reducible refine Kd.C_alloc ?_ _) | (with_reducible refine Kd.C_drewN ?_ _) | (with_reducible refine Kd.C_drew ?_)))
         (case aB => exact (by repeat (first | (with_reducible first | exact HB.out | apply below_alloc | apply pw_below_drewN | apply below_drew1 | refine below_set ?_ (Aside0.out (by assumption))) | exact HB.out)))
         (case aF => exact (fun k_ hk => Kd.fresh' (Kd.R_lt (Kd.pR HO239.out)) k_ hk))
         (case aO => exact (Kd.pR HO_223001.out))
         (case aS => exact (below_size (by repeat (first | (with_reducible first | exact HB.out | apply below_alloc | apply pw_below_drewN | apply below_drew1 | refine below_set ?_ (Aside0.out (by assumption))) | exact HB.out))))
         (case aL => have := LMc19.out; omega)
         intro v241 w31 ho hb hg hat
         rw [← Ny240.out] at ho
         have n0_ := Aside0.mk (Kd.R_over' (Kd.pR HO_30.out) (Kd.R_typed (Kd.pR HO_223001.out)) (by decide) hg)
         have n1_ := Aside0.mk (blk_grown (pk BK216.out) hg (Kd.R_ne HO_223001.out BK216.out (by decide)))
         have n2_ := Aside0.mk (blk_grown (pk BK222.out) hg (Kd.R_ne HO_223001.out BK222.out (by decide)))
         have n3_ := Aside0.mk (Kd.R_over' (Kd.pR HO233.out) (Kd.R_typed (Kd.pR HO_223001.out)) (by decide) hg)
         have n4_ := Aside0.mk (Kd.R_over' (Kd.pR HO236.out) (Kd.R_typed (Kd.pR HO_223001.out)) (by decide) hg)
         have n5_ := Aside0.mk (Kd.R_after (ok := (fun _ => True)) (by (with_reducible repeat (first | apply Kd.R_alloc | apply Kd.R_drewN | apply Kd.R_drew)); exact Kd.R_mono HO239.out (fun _ hk => ⟨trivial, hk⟩)) hg hat)
         have n6_ := Aside0.mk (hb)
         have n7_ := Aside0.mk (ho)
         clear HO_30 BK216 BK222 HO233 HO236 HO239 HB HO_223001
         have HO_30 := n0_; have BK216 := n1_; have BK222 := n2_; have HO233 := n3_; have HO236 := n4_; have HO239 := n5_; have HB := n6_; have HO242 := n7_
         clear n0_ n1_ n2_ n3_ n4_ n5_ n6_ n7_ ho hb hg hat
         obtain ⟨Ao33, co33, eo33⟩ := Kd.R_slice HO236.out
         (first | subst eo33 | (injection eo33 with f1_ f2_ f3_; have f4_ := f1_.symm; have f5_ := f3_.symm; clear f1_ f2_ f3_; subst f4_; subst f5_))
         obtain ⟨Ao35, co35, eo35⟩ := Kd.R_slice HO242.out
         (first | subst eo35 | (injection eo35 with f1_ f2_ f3_; have f4_ := f1_.symm; have f5_ := f3_.symm; clear f1_ f2_ f3_; subst f4_; subst f5_))
         refine hK.out _ _ ⟨(blk_cell BK222.out 0).trans rfl, (blk_cell BK222.out 1).trans rfl, (blk_cell BK222.out 2).trans rfl⟩ (fun hHeld => ?_)
         clear hK K
         refine norm_ (a' := ?_) ?_ ?_
         rotate_left
         ·
          show Act.put _ (some 59) _ = _
          simp only [Act.put, List.setIfInBounds_toArray, List.set_cons_zero, List.set_cons_succ, i64_w, i32_w]
          rfl
         refine last_ (i := 11) (N := none) #[true, true, true, true, true, true, true, true, true, true, true, true, false, false] rfl rfl (one_of HT_.out (by kernel_rfl)) (by decide) (fun K hK => ?_)
         have hs34 : w31.cell? ⟨gb222, 0, none⟩ = some (.slice Ao21 x223000_1.length co21) := (blk_cell BK222.out 0).trans rfl
         have hfs34 := blk_frozen BK222.out 0
         have hns34_0 := NB216_222.out
         have hms34_0 := NB222_216.out
         refine skip_ (w1 := ?_) (by rfl) rfl ?_ ?_
         rotate_left
         ·
          go_simp
          rfl
         refine hK.out _ _ ?_
         clear hK K
         refine pure_ (i := 12) (N := some 61) (v := ?_) (a' := ?_) #[true, true, true, true, true, true, true, true, true, true, true, true, true, false] rfl rfl (any_of HT_.out (by kernel_rfl)) (fun _ _ _ h => h) (Or.inl ⟨by rfl, ?_⟩) ?_ ?_
         rotate_left
         ·
          intro w'
          go_simp
          with_reducible rfl
         rotate_left
         ·
          simp only [Act.put, List.setIfInBounds_toArray, List.set_cons_zero, List.set_cons_succ, i64_w, i32_w]
          rfl
         refine last_ (i := 13) (N := none) #[true, true, true, true, true, true, true, true, true, true, true, true, true, true] rfl rfl (one_of HT_.out (by kernel_rfl)) (by decide) (fun K hK => ?_)
         have hs36 : w31.cell? ⟨gb222, 1, none⟩ = some (.slice Ao22 x223001_1.length co22) := (blk_cell BK222.out 1).trans rfl
         have hfs36 := blk_frozen BK222.out 1
         have hns36_0 := NB216_222.out
         have hms36_0 := NB222_216.out
         refine skip_ (w1 := ?_) (by rfl) rfl ?_ ?_
         rotate_left
         ·
          go_simp
          rfl
         refine hK.out _ _ ?_
         clear hK K
         refine done_ (done_of HT_.out (by kernel_rfl)) ?_
         try go_wp2
         go_roundg k1
         case measure => have := HK1.out; omega
         case rel => exact ⟨(t230), (wrap64 (x32_1 + 1)), (y234), (y240), (.slice Ao33 y234.length co33), (.slice Ao35 y240.length co35), (by first | rfl | (simp; done) | (simp [*]; done)), (by first | rfl | (simp; done) | (simp [*]; done)), H', ⟨by have := HK1.out; omega⟩, ⟨by (with_reducible repeat (first | apply Kd.R_alloc | apply Kd.R_drewN | apply Kd.R_drew)); exact Kd.R_mono (Kd.R_far (p := ⟨gb222, 1, none⟩) (Kd.R_far (p := ⟨gb222, 0, none⟩) (Kd.R_types HO_30.out BK222.out (by decide)) (fun _ hk => hk.2) (.slice Ao33 y234.length co33)) (fun _ hk => hk.2) (.slice Ao35 y240.length co35)) (fun _ hk => trivial)⟩, ⟨by (with_reducible repeat (first | apply Kd.R_alloc | apply Kd.R_drewN | apply Kd.R_drew)); exact Kd.R_mono (Kd.R_far (p := ⟨gb222, 1, none⟩) (Kd.R_far (p := ⟨gb222, 0, none⟩) (Kd.R_types HO236.out BK222.out (by decide)) (fun _ hk => hk.2) (.slice Ao33 y234.length co33)) (fun _ hk => hk.2) (.slice Ao35 y240.length co35)) (fun _ hk => trivial)⟩, ⟨by (with_reducible repeat (first | apply Kd.R_alloc | apply Kd.R_drewN | apply Kd.R_drew)); exact Kd.R_mono (Kd.R_far (p := ⟨gb222, 1, none⟩) (Kd.R_far (p := ⟨gb222, 0, none⟩) (Kd.R_types HO242.out BK222.out (by decide)) (fun _ hk => hk.2) (.slice Ao33 y234.length co33)) (fun _ hk => hk.2) (.slice Ao35 y240.length co35)) (fun _ hk => trivial)⟩, ⟨by (with_reducible repeat (first | refine blk_drewN ?_ _ | refine blk_drew ?_ | refine blk_alloc ?_ _)); refine blk_far ?_ NB216_222.out _; (with_reducible repeat (first | refine blk_drewN ?_ _ | refine blk_drew ?_ | refine blk_alloc ?_ _)); refine blk_far ?_ NB216_222.out _; (with_reducible repeat (first | refine blk_drewN ?_ _ | refine blk_drew ?_ | refine blk_alloc ?_ _)); exact BK216.out⟩, ⟨by (with_reducible repeat (first | refine blk_drewN ?_ _ | refine blk_drew ?_ | refine blk_alloc ?_ _)); refine blk_put (cs := #[.slice Ao33 y234.length co33, .slice Ao22 x223001_1.length co22, .int .i64 t220]) ?_ 1 _ rfl; (with_reducible repeat (first | refine blk_drewN ?_ _ | refine blk_drew ?_ | refine blk_alloc ?_ _)); refine blk_put (cs := #[.slice Ao21 x223000_1.length co21, .slice Ao22 x223001_1.length co22, .int .i64 t220]) ?_ 0 _ rfl; (with_reducible repeat (first | refine blk_drewN ?_ _ | refine blk_drew ?_ | refine blk_alloc ?_ _)); exact BK222.out⟩, ⟨by repeat (first | (with_reducible first | exact HB.out | apply below_alloc | apply pw_below_drewN | apply below_drew1 | refine below_set ?_ (Aside0.out (by assumption))) | exact HB.out)⟩⟩
        ·
         rw [if_neg c19] at H
         exact absurd H (by simp)
       ·
        rw [if_neg c18] at H
        exact absurd H (by simp)
      ·
       replace c17 := Bool.eq_false_iff.mpr c17
       subst c17
       have H1 : ((some (([t229] : List Int) : List Int)).bind fun y243 => (if x223000_1.length + y243.length < 17592186044416 then ((some (([t228] : List Bool) : List Bool)).bind fun y249 => (if x223001_1.length + y249.length < 140737488355328 then (impl_ParseCrew.l0 k1 a0 false t223 (t223.length : Int) (wrap64 (x32_1 + 1)) (x223000_1 ++ y243) (x223001_1 ++ y249) t220) else (none))) else (none))) = some (r1, r2, r3, r4) := by rw [if_neg (show ¬ (false = true) by decide)] at H; exact H
       clear H
       have H := H1
       clear H1
       obtain ⟨y243, hy243⟩ : ∃ y_ : List Int, y_ = (([t229] : List Int)) := ⟨_, rfl⟩
       replace H : (if x223000_1.length + y243.length < 17592186044416 then ((some (([t228] : List Bool) : List Bool)).bind fun y249 => (if x223001_1.length + y249.length < 140737488355328 then (impl_ParseCrew.l0 k1 a0 false t223 (t223.length : Int) (wrap64 (x32_1 + 1)) (x223000_1 ++ y243) (x223001_1 ++ y249) t220) else (none))) else (none)) = some (r1, r2, r3, r4) := by first | (rw [hy243]; with_reducible exact H) | (have H2_ := (Option.bind_some _ _).symm.trans H; rw [hy243]; with_reducible exact H2_) | (have H2_ := (Option.bind_some _ _).symm.trans H; with_reducible exact H2_) | with_reducible exact H | (rw [hy243]; exact H) | exact H
       have Ny243 := Aside0.mk hy243
       clear hy243
       by_cases c37 : x223000_1.length + y243.length < 17592186044416
       ·
        rw [if_pos c37] at H
        have LMc37 := Aside0.mk c37
        clear c37
        obtain ⟨y246, hy246⟩ : ∃ y_ : List Int, y_ = (x223000_1 ++ y243) := ⟨_, rfl⟩
        replace H : ((some (([t228] : List Bool) : List Bool)).bind fun y249 => (if x223001_1.length + y249.length < 140737488355328 then (impl_ParseCrew.l0 k1 a0 false t223 (t223.length : Int) (wrap64 (x32_1 + 1)) y246 (x223001_1 ++ y249) t220) else (none))) = some (r1, r2, r3, r4) := by first | (rw [hy246]; with_reducible exact H) | (have H2_ := (Option.bind_some _ _).symm.trans H; rw [hy246]; with_reducible exact H2_) | (have H2_ := (Option.bind_some _ _).symm.trans H; with_reducible exact H2_) | with_reducible exact H | (rw [hy246]; exact H) | exact H
        have Ny246 := Aside0.mk hy246
        clear hy246
        obtain ⟨y249, hy249⟩ : ∃ y_ : List Bool, y_ = (([t228] : List Bool)) := ⟨_, rfl⟩
        replace H : (if x223001_1.length + y249.length < 140737488355328 then (impl_ParseCrew.l0 k1 a0 false t223 (t223.length : Int) (wrap64 (x32_1 + 1)) y246 (x223001_1 ++ y249) t220) else (none)) = some (r1, r2, r3, r4) := by first | (rw [hy249]; with_reducible exact H) | (have H2_ := (Option.bind_some _ _).symm.trans H; rw [hy249]; with_reducible exact H2_) | (have H2_ := (Option.bind_some _ _).symm.trans H; with_reducible exact H2_) | with_reducible exact H | (rw [hy249]; exact H) | exact H
        have Ny249 := Aside0.mk hy249
        clear hy249
        by_cases c38 : x223001_1.length + y249.length < 140737488355328
        ·
         rw [if_pos c38] at H
         have LMc38 := Aside0.mk c38
         clear c38
         obtain ⟨y252, hy252⟩ : ∃ y_ : List Bool, y_ = (x223001_1 ++ y249) := ⟨_, rfl⟩
         replace H : (impl_ParseCrew.l0 k1 a0 false t223 (t223.length : Int) (wrap64 (x32_1 + 1)) y246 y252 t220) = some (r1, r2, r3, r4) := by first | (rw [hy252]; with_reducible exact H) | (have H2_ := (Option.bind_some _ _).symm.trans H; rw [hy252]; with_reducible exact H2_) | (have H2_ := (Option.bind_some _ _).symm.trans H; with_reducible exact H2_) | with_reducible exact H | (rw [hy252]; exact H) | exact H
         have Ny252 := Aside0.mk hy252
         clear hy252
         have H' := Aside0.mk H
         clear H
         have p226 : 0 ≤ (x32_1 : Int) := of_decide_eq_true (by first | (with_reducible assumption) | assumption)
         have q226 : x32_1 < (t223.length : Int) := of_decide_eq_true (by first | (with_reducible assumption) | assumption)
         obtain ⟨ad226, e226, hx226_0⟩ := Kd.at_string (Kd.R_reads' HO_30.out).2.2 x32_1 p226 q226
         cases e226
         replace p226 := eq_true p226
         replace q226 := eq_true q226
         try go_wp2_with (first | ((with_reducible refine gate_callee (f := 105) rfl ?_); refine goesL_ (some 38) rfl rfl Tryd.func105 (by kernel_rfl) rfl #[.string (rdOf ByteArray.empty t223 x32_1), .string (⟨#[114]⟩ : ByteArray)] rfl (by (try simp only [List.map_toArray, List.map_cons, List.map_nil]); first | done | rfl | (simp only [List.length_drop, List.length_take]; rfl)) ?_; (with_reducible refine (strings_CutSuffix.calls (rdOf ByteArray.empty t223 x32_1) (⟨#[114]⟩ : ByteArray) t227 t228 _ A15.out).mono ?_); rintro e w' ⟨rfl, ⟨nd, rfl⟩⟩; refine ⟨_, rfl, ?_⟩; (try (rw [drewN_self wr]; generalize hq_ : World.drewN wr _ = wr; have n0_ : Aside0 (Kd.R (Kd.int .i64) 3 wr w.heap.size (fun _ => True) u223000 x223000_1) := ⟨by rw [← hq_]; exact (Kd.pR HO_223000.out)⟩; have n1_ : Aside0 (Kd.R Kd.bool 4 wr w.heap.size (fun _ => True) u223001 x223001_1) := ⟨by rw [← hq_]; exact (Kd.pR HO_223001.out)⟩; have n2_ : Aside0 (Kd.R Kd.string 9 wr w.heap.size (fun _ => True) (.slice (some ad226) t223.length co11) t223) := ⟨by rw [← hq_]; exact (Kd.pR HO_30.out)⟩; have n3_ : Aside0 (wr.heap[gb216]? = some (.cells #[.slice none 0 0, .slice none 0 0, .int .i64 0] 65 (0, 0))) := ⟨by rw [← hq_]; exact (pk BK216.out)⟩; have n4_ : Aside0 (wr.heap[gb222]? = some (.cells #[u223000, u223001, .int .i64 t220] 65 (0, 0))) := ⟨by rw [← hq_]; exact (pk BK222.out)⟩; have n5_ : Aside0 (Below w.heap.size w wr) := ⟨by rw [← hq_]; exact (by repeat (first | (with_reducible first | exact HB.out | apply below_alloc | apply pw_below_drewN | apply below_drew1 | refine below_set ?_ (Aside0.out (by assumption))) | exact HB.out))⟩; clear HO_223000 HO_223001 HO_30 BK216 BK222 HB hq_; have HO_223000 := n0_; have HO_223001 := n1_; have HO_30 := n2_; have BK216 := n3_; have BK222 := n4_; have HB := n5_; clear n0_ n1_ n2_ n3_ n4_ n5_; have hczq13 := (blk_cell BK216.out 0); have hfzq13 := (blk_frozen BK216.out 0); simp at hczq13; have hczq14 := (blk_cell BK216.out 1); have hfzq14 := (blk_frozen BK216.out 1); simp at hczq14; have hczq15 := (blk_cell BK216.out 2); have hfzq15 := (blk_frozen BK216.out 2); simp at hczq15; have hczq16 := (blk_cell BK222.out 0); have hfzq16 := (blk_frozen BK222.out 0); simp at hczq16; have hczq17 := (blk_cell BK222.out 1); have hfzq17 := (blk_frozen BK222.out 1); simp at hczq17; have hczq18 := (blk_cell BK222.out 2); have hfzq18 := (blk_frozen BK222.out 2); simp at hczq18))) | ((with_reducible refine gate_callee (f := 92) rfl ?_); refine goesL_ (some 43) rfl rfl Tryd.func92 (by kernel_rfl) rfl #[.string t227] rfl (by (try simp only [List.map_toArray, List.map_cons, List.map_nil]); first | done | rfl | (simp only [List.length_drop, List.length_take]; rfl)) ?_; (with_reducible refine (impl_readNumber.calls t227 t229 t230 _ A16.out (Tab.up HT.out (by repeat (first | exact Below.refl _ _ | (with_reducible first | exact HB.out | apply below_alloc | apply pw_below_drewN | apply below_drew1 | refine below_set ?_ (Aside0.out (by assumption))) | exact HB.out)))).mono ?_); rintro e w39 ⟨rfl, hb⟩; refine ⟨_, rfl, ?_⟩; have n0_ := Aside0.mk (Kd.R_below (Kd.pR HO_30.out) hb); have n1_ := Aside0.mk (Kd.R_below (Kd.pR HO_223000.out) hb); have n2_ := Aside0.mk (Kd.R_below (Kd.pR HO_223001.out) hb); have n3_ := Aside0.mk (blk_below (pk BK216.out) hb); have n4_ := Aside0.mk (blk_below (pk BK222.out) hb); have n5_ := Aside0.mk (below_step (by repeat (first | (with_reducible first | exact HB.out | apply below_alloc | apply pw_below_drewN | apply below_drew1 | refine below_set ?_ (Aside0.out (by assumption))) | exact HB.out)) hb); clear HO_30; clear HO_223000; clear HO_223001; clear BK216; clear BK222; clear HB; have HO_30 := n0_; have HO_223000 := n1_; have HO_223001 := n2_; have BK216 := n3_; have BK222 := n4_; have HB := n5_; clear n0_ n1_ n2_ n3_ n4_ n5_; (try clear hb); (try clear hb2); (try clear hk); (try clear hi); obtain ⟨Ao40, co40, eo40⟩ := Kd.R_slice HO_223000.out; subst eo40; obtain ⟨Ao41, co41, eo41⟩ := Kd.R_slice HO_223001.out; subst eo41))
         have n0_ := Aside0.mk (Kd.R_drew HO_30.out)
         have n1_ := Aside0.mk (Kd.R_drew HO_223000.out)
         have n2_ := Aside0.mk (Kd.R_drew HO_223001.out)
         have n3_ := Aside0.mk (blk_drew BK216.out)
         have n4_ := Aside0.mk (blk_drew BK222.out)
         have n5_ := Aside0.mk (below_drew1 HB.out)
         clear HO_30 HO_223000 HO_223001 BK216 BK222 HB
         have HO_30 := n0_; have HO_223000 := n1_; have HO_223001 := n2_; have BK216 := n3_; have BK222 := n4_; have HB := n5_
         clear n0_ n1_ n2_ n3_ n4_ n5_
         refine start_ (n := 14) (S := fun w' => w'.cell? ⟨gb222, 0, none⟩ = some (.slice Ao40 x223000_1.length co40) ∧ w'.cell? ⟨gb222, 1, none⟩ = some (.slice Ao41 x223001_1.length co41) ∧ w'.cell? ⟨gb222, 2, none⟩ = some (.int .i64 t220)) (ds := [11, 13]) #[false, false, false, false, false, false, false, false, false, false, false, false, false, false] (by kernel_rfl) rfl rfl ⟨(blk_cell BK222.out 0).trans rfl, (blk_cell BK222.out 1).trans rfl, (blk_cell BK222.out 2).trans rfl⟩ (fun hHeld => ?_); refine with_tabW impl_ParseCrew.tab10 impl_ParseCrew.bits10 (fun HT_ HW_ => ?_)
         generalize w39.drew = w42 at HO_30 HO_223000 HO_223001 BK216 BK222 HB hHeld ⊢
         refine pure_ (i := 0) (N := some 50) (v := ?_) (a' := ?_) #[true, false, false, false, false, false, false, false, false, false, false, false, false, false] rfl rfl (any_of HT_.out (by kernel_rfl)) (fun _ _ _ h => h) (Or.inl ⟨by rfl, ?_⟩) ?_ ?_
         rotate_left
         ·
          intro w'
          go_simp
          with_reducible rfl
         rotate_left
         ·
          simp only [Act.put, List.setIfInBounds_toArray, List.set_cons_zero, List.set_cons_succ, i64_w, i32_w]
          rfl
         refine pure_ (i := 2) (N := some 52) (v := ?_) (a' := ?_) #[true, false, true, false, false, false, false, false, false, false, false, false, false, false] rfl rfl (any_of HT_.out (by kernel_rfl)) (fun _ _ _ h => h) (Or.inl ⟨by rfl, ?_⟩) ?_ ?_
         rotate_left
         ·
          intro w'
          go_simp
          with_reducible rfl
         rotate_left
         ·
          simp only [Act.put, List.setIfInBounds_toArray, List.set_cons_zero, List.set_cons_succ, i64_w, i32_w]
          rfl
         refine pure_ (i := 5) (N := some 55) (v := ?_) (a' := ?_) #[true, false, true, false, false, true, false, false, false, false, false, false, false, false] rfl rfl (any_of HT_.out (by kernel_rfl)) (fun _ _ _ h => h) (Or.inl ⟨by rfl, ?_⟩) ?_ ?_
         rotate_left
         ·
          intro w'
          go_simp
          with_reducible rfl
         rotate_left
         ·
          simp only [Act.put, List.setIfInBounds_toArray, List.set_cons_zero, List.set_cons_succ, i64_w, i32_w]
          rfl
         refine pure_ (i := 7) (N := some 57) (v := ?_) (a' := ?_) #[true, false, true, false, false, true, false, true, false, false, false, false, false, false] rfl rfl (any_of HT_.out (by kernel_rfl)) (fun _ _ _ h => h) (Or.inl ⟨by rfl, ?_⟩) ?_ ?_
         rotate_left
         ·
          intro w'
          go_simp
          with_reducible rfl
         rotate_left
         ·
          simp only [Act.put, List.setIfInBounds_toArray, List.set_cons_zero, List.set_cons_succ, i64_w, i32_w]
          rfl
         refine take_ (i := 1) (N := some 51) (v := ?_) (a' := ?_) #[true, true, true, false, false, true, false, true, false, false, false, false, false, false] rfl rfl (take_ofW HT_.out HW_.out (by kernel_rfl)) (fun _ _ _ h => h) (Or.inl ⟨by rfl, ?_⟩) hHeld ?_ ?_
         rotate_left
         ·
          rintro w' ⟨s0, s1, s2⟩
          go_simp
          with_reducible rfl
         rotate_left
         ·
          simp only [Act.put, List.setIfInBounds_toArray, List.set_cons_zero, List.set_cons_succ, i64_w, i32_w]
          rfl
         refine take_ (i := 6) (N := some 56) (v := ?_) (a' := ?_) #[true, true, true, false, false, true, true, true, false, false, false, false, false, false] rfl rfl (take_ofW HT_.out HW_.out (by kernel_rfl)) (fun _ _ _ h => h) (Or.inl ⟨by rfl, ?_⟩) hHeld ?_ ?_
         rotate_left
         ·
          rintro w' ⟨s0, s1, s2⟩
          go_simp
          with_reducible rfl
         rotate_left
         ·
          simp only [Act.put, List.setIfInBounds_toArray, List.set_cons_zero, List.set_cons_succ, i64_w, i32_w]
          rfl
         refine join_ (σ := Value × Value × Value) 4 #[true, true, true, true, true, true, true, true, true, false, true, false, false, false] (fun s_ => [(53, s_.1), (54, s_.2.1), (58, s_.2.2), (60, .pointer (some ⟨gb222, 0, none⟩))]) (fun s_ w' => (w'.cell? ⟨gb222, 0, none⟩ = some (.slice Ao40 x223000_1.length co40) ∧ w'.cell? ⟨gb222, 1, none⟩ = some (.slice Ao41 x223001_1.length co41) ∧ w'.cell? ⟨gb222, 2, none⟩ = some (.int .i64 t220)) ∧ (Kd.R (Kd.int .i64) 3 w' w.heap.size (fun k_ => some k_ ≠ (s_.2.1 : Value).ownBlock) s_.1 y243) ∧ (Kd.R (Kd.int .i64) 3 w' w.heap.size (fun k_ => some k_ ≠ (s_.1 : Value).ownBlock) s_.2.1 y246) ∧ (Kd.R Kd.bool 4 w' w.heap.size (fun k_ => some k_ ≠ (.slice Ao41 x223001_1.length co41 : Value).ownBlock) s_.2.2 y249) ∧ (Kd.R Kd.bool 4 w' w.heap.size (fun k_ => some k_ ≠ (s_.2.2 : Value).ownBlock) (.slice Ao41 x223001_1.length co41) x223001_1) ∧ (Kd.R Kd.string 9 w' w.heap.size (fun _ => True) (.slice (some ad226) t223.length co11) t223) ∧ (w'.heap[gb216]? = some (.cells #[.slice none 0 0, .slice none 0 0, .int .i64 0] 65 (0, 0))) ∧ (w'.heap[gb222]? = some (.cells #[.slice Ao40 x223000_1.length co40, .slice Ao41 x223001_1.length co41, .int .i64 t220] 65 (0, 0))) ∧ (Below w.heap.size w w')) ?_ ?_
         rotate_left
         ·
          intro hCont
          refine two_ (i := 3) (j := 8) (Ni := some 53) (Nj := some 58) #[true, true, true, true, false, true, true, true, false, false, false, false, false, false] #[true, true, true, false, false, true, true, true, true, false, false, false, false, false] rfl rfl rfl rfl (two_of HT_.out (by kernel_rfl)) (by decide) (by decide) (fun K hK => ?_) (fun K hK => ?_)
          ·
           skip
           refine Kd.R_lit_step (Kd.int .i64) _ 3 ?hg (N := 53) ?hd (xs := ([t229] : List Int)) (inner := [.int .i64 t229]) (ok := fun _ => True) (okp := fun _ => True) ?hr ?hp (fun _ hk => hk) trivial (Below.refl _ _) (Nat.le_refl _) (by simp) ?_; (case hd => rfl); (case hg => rfl); (case hr => first | (go_simp; done) | (go_simp; rfl)); (case hp => exact (Reps.one (show Kd.M (Kd.int .i64) _ _ _ t229 [.int .i64 t229] from rfl) (Reps.none _ _)))
           intro v244 w43 ho44 hb hg_ hnew_
           clear hg_ hnew_
           (first | rw [← Ny243.out] at ho44 | (simp only [Int.reduceToNat] at ho44; rw [← Ny243.out] at ho44))
           have n0_ := Aside0.mk (Kd.R_below (Kd.pR HO_30.out) hb)
           have n1_ := Aside0.mk (Kd.R_elder' (Kd.pR HO_223000.out) (Kd.R_base ho44) hb)
           have n2_ := Aside0.mk (Kd.R_below (Kd.pR HO_223001.out) hb)
           have n3_ := Aside0.mk (Kd.R_lower (Kd.R_new' ho44 (Kd.R_lt (Kd.pR HO_223000.out))) (below_size (by repeat (first | (with_reducible first | exact HB.out | apply below_alloc | apply pw_below_drewN | apply below_drew1 | refine below_set ?_ (Aside0.out (by assumption))) | exact HB.out))))
           have n4_ := Aside0.mk (blk_below (pk BK216.out) hb)
           have n5_ := Aside0.mk (blk_below (pk BK222.out) hb)
           have n6_ := Aside0.mk (below_step (by repeat (first | (with_reducible first | exact HB.out | apply below_alloc | apply pw_below_drewN | apply below_drew1 | refine below_set ?_ (Aside0.out (by assumption))) | exact HB.out)) hb)
           clear HO_30 HO_223000 HO_223001 BK216 BK222 HB
           have HO_30 := n0_; have HO_223000 := n1_; have HO_223001 := n2_; have HO245 := n3_; have BK216 := n4_; have BK222 := n5_; have HB := n6_
           clear n0_ n1_ n2_ n3_ n4_ n5_ n6_ hb ho44
           obtain ⟨Ao46, co46, eo46⟩ := Kd.R_slice HO245.out
           (first | subst eo46 | (injection eo46 with f1_ f2_ f3_; have f4_ := f1_.symm; have f5_ := f3_.symm; clear f1_ f2_ f3_; subst f4_; subst f5_))
           refine hK.out _ _ ⟨(blk_cell BK222.out 0).trans rfl, (blk_cell BK222.out 1).trans rfl, (blk_cell BK222.out 2).trans rfl⟩ (fun hHeld => ?_)
           clear hK K
           refine norm_ (a' := ?_) ?_ ?_
           rotate_left
           ·
            show Act.put _ (some 53) _ = _
            simp only [Act.put, List.setIfInBounds_toArray, List.set_cons_zero, List.set_cons_succ, i64_w, i32_w]
            rfl
           refine two_ (i := 4) (j := 8) (Ni := some 54) (Nj := some 58) #[true, true, true, true, true, true, true, true, false, false, false, false, false, false] #[true, true, true, true, false, true, true, true, true, false, false, false, false, false] rfl rfl rfl rfl (two_of HT_.out (by kernel_rfl)) (by decide) (by decide) (fun K hK => ?_) (fun K hK => ?_)
           ·
            skip
            refine Kd.R_append_rows_step (Kd.int .i64) (w0 := w) w.heap.size (by rfl) (.tmp 51) (.tmp 53) 22 3 (.int .i64 0) 8 rfl Tryd.underlying22 info3 rfl (by decide) (by omega) (.slice Ao40 x223000_1.length co40) x223000_1 y243 _ _ _ (fun k_ => some k_ ≠ (.slice Ao46 y243.length co46 : Value).ownBlock) (fun _ => False) rfl rfl ?aO ?aR (fun _ _ h => h) (fun _ h => h.elim) ?aF ?aB ?aS ?aL ?_
            (case aR => repeat (first | exact (Kd.R_reads' HO245.out).2.2 | (with_reducible refine Kd.C_alloc ?_ _) | (with_reducible refine Kd.C_drewN ?_ _) | (with_reducible refine Kd.C_drew ?_)))
            (case aB => exact (by repeat (first | (with_reducible first | exact HB.out | apply below_alloc | apply pw_below_drewN | apply below_drew1 | refine below_set ?_ (Aside0.out (by assumption))) | exact HB.out)))
            (case aF => exact (fun k_ hk => Kd.fresh' (Kd.R_lt (Kd.pR HO245.out)) k_ hk))
            (case aO => exact (by (with_reducible repeat (first | apply Kd.R_alloc | apply Kd.R_drewN | apply Kd.R_drew)); exact Kd.R_mono HO_223000.out (fun _ hk => hk.2)))
            (case aS => exact (below_size (by repeat (first | (with_reducible first | exact HB.out | apply below_alloc | apply pw_below_drewN | apply below_drew1 | refine below_set ?_ (Aside0.out (by assumption))) | exact HB.out))))
            (case aL => have := LMc37.out; omega)
            intro v247 w45 ho hb hg hat
            rw [← Ny246.out] at ho
            have n0_ := Aside0.mk (Kd.R_over' (Kd.pR HO_30.out) (Kd.R_typed (Kd.pR HO_223000.out)) (by decide) hg)
            have n1_ := Aside0.mk (Kd.R_over' (Kd.pR HO_223001.out) (Kd.R_typed (Kd.pR HO_223000.out)) (by decide) hg)
            have n2_ := Aside0.mk (blk_grown (pk BK216.out) hg (Kd.R_ne HO_223000.out BK216.out (by decide)))
            have n3_ := Aside0.mk (blk_grown (pk BK222.out) hg (Kd.R_ne HO_223000.out BK222.out (by decide)))
            have n4_ := Aside0.mk (Kd.R_after (ok := (fun _ => True)) (Kd.pR HO245.out) hg hat)
            have n5_ := Aside0.mk (hb)
            have n6_ := Aside0.mk (ho)
            clear HO_30 HO_223001 BK216 BK222 HO245 HB HO_223000
            have HO_30 := n0_; have HO_223001 := n1_; have BK216 := n2_; have BK222 := n3_; have HO245 := n4_; have HB := n5_; have HO248 := n6_
            clear n0_ n1_ n2_ n3_ n4_ n5_ n6_ ho hb hg hat
            refine hK.out _ _ ⟨(blk_cell BK222.out 0).trans rfl, (blk_cell BK222.out 1).trans rfl, (blk_cell BK222.out 2).trans rfl⟩ (fun hHeld => ?_)
            clear hK K
            refine norm_ (a' := ?_) ?_ ?_
            rotate_left
            ·
             show Act.put _ (some 54) _ = _
             simp only [Act.put, List.setIfInBounds_toArray, List.set_cons_zero, List.set_cons_succ, i64_w, i32_w]
             rfl
            refine pure_ (i := 10) (N := some 60) (v := ?_) (a' := ?_) #[true, true, true, true, true, true, true, true, false, false, true, false, false, false] rfl rfl (any_of HT_.out (by kernel_rfl)) (fun _ _ _ h => h) (Or.inl ⟨by rfl, ?_⟩) ?_ ?_
            rotate_left
            ·
             intro w'
             go_simp
             with_reducible rfl
            rotate_left
            ·
             simp only [Act.put, List.setIfInBounds_toArray, List.set_cons_zero, List.set_cons_succ, i64_w, i32_w]
             rfl
            refine one_ (i := 8) (N := some 58) #[true, true, true, true, true, true, true, true, true, false, true, false, false, false] rfl rfl (one_of HT_.out (by kernel_rfl)) (by decide) (fun K hK => ?_)
            refine Kd.R_lit_step Kd.bool _ 4 ?hg (N := 58) ?hd (xs := ([t228] : List Bool)) (inner := [.bool t228]) (ok := fun _ => True) (okp := fun _ => True) ?hr ?hp (fun _ hk => hk) trivial (Below.refl _ _) (Nat.le_refl _) (by simp) ?_; (case hd => rfl); (case hg => rfl); (case hr => first | (go_simp; done) | (go_simp; rfl)); (case hp => exact (Reps.one (show Kd.M Kd.bool _ _ _ t228 [.bool t228] from rfl) (Reps.none _ _)))
            intro v250 w47 ho48 hb hg_ hnew_
            clear hg_ hnew_
            (first | rw [← Ny249.out] at ho48 | (simp only [Int.reduceToNat] at ho48; rw [← Ny249.out] at ho48))
            have n0_ := Aside0.mk (Kd.R_below (Kd.pR HO_30.out) hb)
            have n1_ := Aside0.mk (Kd.R_elder' (Kd.pR HO_223001.out) (Kd.R_base ho48) hb)
            have n2_ := Aside0.mk (Kd.R_below (Kd.pR HO245.out) hb)
            have n3_ := Aside0.mk (Kd.R_below (Kd.pR HO248.out) hb)
            have n4_ := Aside0.mk (Kd.R_lower (Kd.R_new' ho48 (Kd.R_lt (Kd.pR HO_223001.out))) (below_size (by repeat (first | (with_reducible first | exact HB.out | apply below_alloc | apply pw_below_drewN | apply below_drew1 | refine below_set ?_ (Aside0.out (by assumption))) | exact HB.out))))
            have n5_ := Aside0.mk (blk_below (pk BK216.out) hb)
            have n6_ := Aside0.mk (blk_below (pk BK222.out) hb)
            have n7_ := Aside0.mk (below_step (by repeat (first | (with_reducible first | exact HB.out | apply below_alloc | apply pw_below_drewN | apply below_drew1 | refine below_set ?_ (Aside0.out (by assumption))) | exact HB.out)) hb)
            clear HO_30 HO_223001 HO245 HO248 BK216 BK222 HB
            have HO_30 := n0_; have HO_223001 := n1_; have HO245 := n2_; have HO248 := n3_; have HO251 := n4_; have BK216 := n5_; have BK222 := n6_; have HB := n7_
            clear n0_ n1_ n2_ n3_ n4_ n5_ n6_ n7_ hb ho48
            refine hK.out _ _ ⟨(blk_cell BK222.out 0).trans rfl, (blk_cell BK222.out 1).trans rfl, (blk_cell BK222.out 2).trans rfl⟩ (fun hHeld => ?_)
            clear hK K
            refine norm_ (a' := ?_) ?_ ?_
            rotate_left
            ·
             show Act.put _ (some 58) _ = _
             simp only [Act.put, List.setIfInBounds_toArray, List.set_cons_zero, List.set_cons_succ, i64_w, i32_w]
             rfl
            exact norm_ (by simp only [putAll, Act.put, List.setIfInBounds_toArray, List.set_cons_zero, List.set_cons_succ]) (hCont (.slice Ao46 y243.length co46, v247, v250) _ ⟨hHeld, (by (with_reducible repeat (first | apply Kd.R_alloc | apply Kd.R_drewN | apply Kd.R_drew)); exact Kd.R_mono HO245.out (fun _ hk => hk.2)), (Kd.pR HO248.out), (by (with_reducible repeat (first | apply Kd.R_alloc | apply Kd.R_drewN | apply Kd.R_drew)); exact Kd.R_mono HO251.out (fun _ hk => hk.2)), (by (with_reducible repeat (first | apply Kd.R_alloc | apply Kd.R_drewN | apply Kd.R_drew)); exact Kd.R_mono HO_223001.out (fun _ hk => hk.2)), (Kd.pR HO_30.out), (pk BK216.out), (pk BK222.out), (by repeat (first | (with_reducible first | exact HB.out | apply below_alloc | apply pw_below_drewN | apply below_drew1 | refine below_set ?_ (Aside0.out (by assumption))) | exact HB.out))⟩)
           ·
            skip
            refine Kd.R_lit_step Kd.bool _ 4 ?hg (N := 58) ?hd (xs := ([t228] : List Bool)) (inner := [.bool t228]) (ok := fun _ => True) (okp := fun _ => True) ?hr ?hp (fun _ hk => hk) trivial (Below.refl _ _) (Nat.le_refl _) (by simp) ?_; (case hd => rfl); (case hg => rfl); (case hr => first | (go_simp; done) | (go_simp; rfl)); (case hp => exact (Reps.one (show Kd.M Kd.bool _ _ _ t228 [.bool t228] from rfl) (Reps.none _ _)))
            intro v250 w45 ho46 hb hg_ hnew_
            clear hg_ hnew_
            (first | rw [← Ny249.out] at ho46 | (simp only [Int.reduceToNat] at ho46; rw [← Ny249.out] at ho46))
            have n0_ := Aside0.mk (Kd.R_below (Kd.pR HO_30.out) hb)
            have n1_ := Aside0.mk (Kd.R_below (Kd.pR HO_223000.out) hb)
            have n2_ := Aside0.mk (Kd.R_elder' (Kd.pR HO_223001.out) (Kd.R_base ho46) hb)
            have n3_ := Aside0.mk (Kd.R_below (Kd.pR HO245.out) hb)
            have n4_ := Aside0.mk (Kd.R_lower (Kd.R_new' ho46 (Kd.R_lt (Kd.pR HO_223001.out))) (below_size (by repeat (first | (with_reducible first | exact HB.out | apply below_alloc | apply pw_below_drewN | apply below_drew1 | refine below_set ?_ (Aside0.out (by assumption))) | exact HB.out))))
            have n5_ := Aside0.mk (blk_below (pk BK216.out) hb)
            have n6_ := Aside0.mk (blk_below (pk BK222.out) hb)
            have n7_ := Aside0.mk (below_step (by repeat (first | (with_reducible first | exact HB.out | apply below_alloc | apply pw_below_drewN | apply below_drew1 | refine below_set ?_ (Aside0.out (by assumption))) | exact HB.out)) hb)
            clear HO_30 HO_223000 HO_223001 HO245 BK216 BK222 HB
            have HO_30 := n0_; have HO_223000 := n1_; have HO_223001 := n2_; have HO245 := n3_; have HO251 := n4_; have BK216 := n5_; have BK222 := n6_; have HB := n7_
            clear n0_ n1_ n2_ n3_ n4_ n5_ n6_ n7_ hb ho46
            obtain ⟨Ao48, co48, eo48⟩ := Kd.R_slice HO245.out
            (first | subst eo48 | (injection eo48 with f1_ f2_ f3_; have f4_ := f1_.symm; have f5_ := f3_.symm; clear f1_ f2_ f3_; subst f4_; subst f5_))
            refine hK.out _ _ ⟨(blk_cell BK222.out 0).trans rfl, (blk_cell BK222.out 1).trans rfl, (blk_cell BK222.out 2).trans rfl⟩ (fun hHeld => ?_)
            clear hK K
            refine norm_ (a' := ?_) ?_ ?_
            rotate_left
            ·
             show Act.put _ (some 58) _ = _
             simp only [Act.put, List.setIfInBounds_toArray, List.set_cons_zero, List.set_cons_succ, i64_w, i32_w]
             rfl
            refine one_ (i := 4) (N := some 54) #[true, true, true, true, true, true, true, true, true, false, false, false, false, false] rfl rfl (one_of HT_.out (by kernel_rfl)) (by decide) (fun K hK => ?_)
            refine Kd.R_append_rows_step (Kd.int .i64) (w0 := w) w.heap.size (by rfl) (.tmp 51) (.tmp 53) 22 3 (.int .i64 0) 8 rfl Tryd.underlying22 info3 rfl (by decide) (by omega) (.slice Ao40 x223000_1.length co40) x223000_1 y243 _ _ _ (fun k_ => some k_ ≠ (.slice Ao48 y243.length co48 : Value).ownBlock) (fun _ => False) rfl rfl ?aO ?aR (fun _ _ h => h) (fun _ h => h.elim) ?aF ?aB ?aS ?aL ?_
            (case aR => repeat (first | exact (Kd.R_reads' HO245.out).2.2 | (with_reducible refine Kd.C_alloc ?_ _) | (with_reducible refine Kd.C_drewN ?_ _) | (with_reducible refine Kd.C_drew ?_)))
            (case aB => exact (by repeat (first | (with_reducible first | exact HB.out | apply below_alloc | apply pw_below_drewN | apply below_drew1 | refine below_set ?_ (Aside0.out (by assumption))) | exact HB.out)))
            (case aF => exact (fun k_ hk => Kd.fresh' (Kd.R_lt (Kd.pR HO245.out)) k_ hk))
            (case aO => exact (by (with_reducible repeat (first | apply Kd.R_alloc | apply Kd.R_drewN | apply Kd.R_drew)); exact Kd.R_mono HO_223000.out (fun _ hk => hk.2)))
            (case aS => exact (below_size (by repeat (first | (with_reducible first | exact HB.out | apply below_alloc | apply pw_below_drewN | apply below_drew1 | refine below_set ?_ (Aside0.out (by assumption))) | exact HB.out))))
            (case aL => have := LMc37.out; omega)
            intro v247 w47 ho hb hg hat
            rw [← Ny246.out] at ho
            have n0_ := Aside0.mk (Kd.R_over' (Kd.pR HO_30.out) (Kd.R_typed (Kd.pR HO_223000.out)) (by decide) hg)
            have n1_ := Aside0.mk (Kd.R_over' (Kd.pR HO_223001.out) (Kd.R_typed (Kd.pR HO_223000.out)) (by decide) hg)
            have n2_ := Aside0.mk (blk_grown (pk BK216.out) hg (Kd.R_ne HO_223000.out BK216.out (by decide)))
            have n3_ := Aside0.mk (blk_grown (pk BK222.out) hg (Kd.R_ne HO_223000.out BK222.out (by decide)))
            have n4_ := Aside0.mk (Kd.R_after (ok := (fun _ => True)) (Kd.pR HO245.out) hg hat)
            have n5_ := Aside0.mk (Kd.R_over' (Kd.pR HO251.out) (Kd.R_typed (Kd.pR HO_223000.out)) (by decide) hg)
            have n6_ := Aside0.mk (hb)
            have n7_ := Aside0.mk (ho)
            clear HO_30 HO_223001 BK216 BK222 HO245 HO251 HB HO_223000
            have HO_30 := n0_; have HO_223001 := n1_; have BK216 := n2_; have BK222 := n3_; have HO245 := n4_; have HO251 := n5_; have HB := n6_; have HO248 := n7_
            clear n0_ n1_ n2_ n3_ n4_ n5_ n6_ n7_ ho hb hg hat
            refine hK.out _ _ ⟨(blk_cell BK222.out 0).trans rfl, (blk_cell BK222.out 1).trans rfl, (blk_cell BK222.out 2).trans rfl⟩ (fun hHeld => ?_)
            clear hK K
            refine norm_ (a' := ?_) ?_ ?_
            rotate_left
            ·
             show Act.put _ (some 54) _ = _
             simp only [Act.put, List.setIfInBounds_toArray, List.set_cons_zero, List.set_cons_succ, i64_w, i32_w]
             rfl
            refine pure_ (i := 10) (N := some 60) (v := ?_) (a' := ?_) #[true, true, true, true, true, true, true, true, true, false, true, false, false, false] rfl rfl (any_of HT_.out (by kernel_rfl)) (fun _ _ _ h => h) (Or.inl ⟨by rfl, ?_⟩) ?_ ?_
            rotate_left
            ·
             intro w'
             go_simp
             with_reducible rfl
            rotate_left
            ·
             simp only [Act.put, List.setIfInBounds_toArray, List.set_cons_zero, List.set_cons_succ, i64_w, i32_w]
             rfl
            exact norm_ (by simp only [putAll, Act.put, List.setIfInBounds_toArray, List.set_cons_zero, List.set_cons_succ]) (hCont (.slice Ao48 y243.length co48, v247, v250) _ ⟨hHeld, (by (with_reducible repeat (first | apply Kd.R_alloc | apply Kd.R_drewN | apply Kd.R_drew)); exact Kd.R_mono HO245.out (fun _ hk => hk.2)), (Kd.pR HO248.out), (by (with_reducible repeat (first | apply Kd.R_alloc | apply Kd.R_drewN | apply Kd.R_drew)); exact Kd.R_mono HO251.out (fun _ hk => hk.2)), (by (with_reducible repeat (first | apply Kd.R_alloc | apply Kd.R_drewN | apply Kd.R_drew)); exact Kd.R_mono HO_223001.out (fun _ hk => hk.2)), (Kd.pR HO_30.out), (pk BK216.out), (pk BK222.out), (by repeat (first | (with_reducible first | exact HB.out | apply below_alloc | apply pw_below_drewN | apply below_drew1 | refine below_set ?_ (Aside0.out (by assumption))) | exact HB.out))⟩)
          ·
           skip
           refine Kd.R_lit_step Kd.bool _ 4 ?hg (N := 58) ?hd (xs := ([t228] : List Bool)) (inner := [.bool t228]) (ok := fun _ => True) (okp := fun _ => True) ?hr ?hp (fun _ hk => hk) trivial (Below.refl _ _) (Nat.le_refl _) (by simp) ?_; (case hd => rfl); (case hg => rfl); (case hr => first | (go_simp; done) | (go_simp; rfl)); (case hp => exact (Reps.one (show Kd.M Kd.bool _ _ _ t228 [.bool t228] from rfl) (Reps.none _ _)))
           intro v250 w43 ho44 hb hg_ hnew_
           clear hg_ hnew_
           (first | rw [← Ny249.out] at ho44 | (simp only [Int.reduceToNat] at ho44; rw [← Ny249.out] at ho44))
           have n0_ := Aside0.mk (Kd.R_below (Kd.pR HO_30.out) hb)
           have n1_ := Aside0.mk (Kd.R_below (Kd.pR HO_223000.out) hb)
           have n2_ := Aside0.mk (Kd.R_elder' (Kd.pR HO_223001.out) (Kd.R_base ho44) hb)
           have n3_ := Aside0.mk (Kd.R_lower (Kd.R_new' ho44 (Kd.R_lt (Kd.pR HO_223001.out))) (below_size (by repeat (first | (with_reducible first | exact HB.out | apply below_alloc | apply pw_below_drewN | apply below_drew1 | refine below_set ?_ (Aside0.out (by assumption))) | exact HB.out))))
           have n4_ := Aside0.mk (blk_below (pk BK216.out) hb)
           have n5_ := Aside0.mk (blk_below (pk BK222.out) hb)
           have n6_ := Aside0.mk (below_step (by repeat (first | (with_reducible first | exact HB.out | apply below_alloc | apply pw_below_drewN | apply below_drew1 | refine below_set ?_ (Aside0.out (by assumption))) | exact HB.out)) hb)
           clear HO_30 HO_223000 HO_223001 BK216 BK222 HB
           have HO_30 := n0_; have HO_223000 := n1_; have HO_223001 := n2_; have HO251 := n3_; have BK216 := n4_; have BK222 := n5_; have HB := n6_
           clear n0_ n1_ n2_ n3_ n4_ n5_ n6_ hb ho44
           refine hK.out _ _ ⟨(blk_cell BK222.out 0).trans rfl, (blk_cell BK222.out 1).trans rfl, (blk_cell BK222.out 2).trans rfl⟩ (fun hHeld => ?_)
           clear hK K
           refine norm_ (a' := ?_) ?_ ?_
           rotate_left
           ·
            show Act.put _ (some 58) _ = _
            simp only [Act.put, List.setIfInBounds_toArray, List.set_cons_zero, List.set_cons_succ, i64_w, i32_w]
            rfl
           refine one_ (i := 3) (N := some 53) #[true, true, true, true, false, true, true, true, true, false, false, false, false, false] rfl rfl (one_of HT_.out (by kernel_rfl)) (by decide) (fun K hK => ?_)
           refine Kd.R_lit_step (Kd.int .i64) _ 3 ?hg (N := 53) ?hd (xs := ([t229] : List Int)) (inner := [.int .i64 t229]) (ok := fun _ => True) (okp := fun _ => True) ?hr ?hp (fun _ hk => hk) trivial (Below.refl _ _) (Nat.le_refl _) (by simp) ?_; (case hd => rfl); (case hg => rfl); (case hr => first | (go_simp; done) | (go_simp; rfl)); (case hp => exact (Reps.one (show Kd.M (Kd.int .i64) _ _ _ t229 [.int .i64 t229] from rfl) (Reps.none _ _)))
           intro v244 w45 ho46 hb hg_ hnew_
           clear hg_ hnew_
           (first | rw [← Ny243.out] at ho46 | (simp only [Int.reduceToNat] at ho46; rw [← Ny243.out] at ho46))
           have n0_ := Aside0.mk (Kd.R_below (Kd.pR HO_30.out) hb)
           have n1_ := Aside0.mk (Kd.R_elder' (Kd.pR HO_223000.out) (Kd.R_base ho46) hb)
           have n2_ := Aside0.mk (Kd.R_below (Kd.pR HO_223001.out) hb)
           have n3_ := Aside0.mk (Kd.R_below (Kd.pR HO251.out) hb)
           have n4_ := Aside0.mk (Kd.R_lower (Kd.R_new' ho46 (Kd.R_lt (Kd.pR HO_223000.out))) (below_size (by repeat (first | (with_reducible first | exact HB.out | apply below_alloc | apply pw_below_drewN | apply below_drew1 | refine below_set ?_ (Aside0.out (by assumption))) | exact HB.out))))
           have n5_ := Aside0.mk (blk_below (pk BK216.out) hb)
           have n6_ := Aside0.mk (blk_below (pk BK222.out) hb)
           have n7_ := Aside0.mk (below_step (by repeat (first | (with_reducible first | exact HB.out | apply below_alloc | apply pw_below_drewN | apply below_drew1 | refine below_set ?_ (Aside0.out (by assumption))) | exact HB.out)) hb)
           clear HO_30 HO_223000 HO_223001 HO251 BK216 BK222 HB
           have HO_30 := n0_; have HO_223000 := n1_; have HO_223001 := n2_; have HO251 := n3_; have HO245 := n4_; have BK216 := n5_; have BK222 := n6_; have HB := n7_
           clear n0_ n1_ n2_ n3_ n4_ n5_ n6_ n7_ hb ho46
           obtain ⟨Ao48, co48, eo48⟩ := Kd.R_slice HO245.out
           (first | subst eo48 | (injection eo48 with f1_ f2_ f3_; have f4_ := f1_.symm; have f5_ := f3_.symm; clear f1_ f2_ f3_; subst f4_; subst f5_))
           refine hK.out _ _ ⟨(blk_cell BK222.out 0).trans rfl, (blk_cell BK222.out 1).trans rfl, (blk_cell BK222.out 2).trans rfl⟩ (fun hHeld => ?_)
           clear hK K
           refine norm_ (a' := ?_) ?_ ?_
           rotate_left
           ·
            show Act.put _ (some 53) _ = _
            simp only [Act.put, List.setIfInBounds_toArray, List.set_cons_zero, List.set_cons_succ, i64_w, i32_w]
            rfl
           refine one_ (i := 4) (N := some 54) #[true, true, true, true, true, true, true, true, true, false, false, false, false, false] rfl rfl (one_of HT_.out (by kernel_rfl)) (by decide) (fun K hK => ?_)
           refine Kd.R_append_rows_step (Kd.int .i64) (w0 := w) w.heap.size (by rfl) (.tmp 51) (.tmp 53) 22 3 (.int .i64 0) 8 rfl Tryd.underlying22 info3 rfl (by decide) (by omega) (.slice Ao40 x223000_1.length co40) x223000_1 y243 _ _ _ (fun k_ => some k_ ≠ (.slice Ao48 y243.length co48 : Value).ownBlock) (fun _ => False) rfl rfl ?aO ?aR (fun _ _ h => h) (fun _ h => h.elim) ?aF ?aB ?aS ?aL ?_
           (case aR => repeat (first | exact (Kd.R_reads' HO245.out).2.2 | (with_reducible refine Kd.C_alloc ?_ _) | (with_reducible refine Kd.C_drewN ?_ _) | (with_reducible refine Kd.C_drew ?_)))
           (case aB => exact (by repeat (first | (with_reducible first | exact HB.out | apply below_alloc | apply pw_below_drewN | apply below_drew1 | refine below_set ?_ (Aside0.out (by assumption))) | exact HB.out)))
           (case aF => exact (fun k_ hk => Kd.fresh' (Kd.R_lt (Kd.pR HO245.out)) k_ hk))
           (case aO => exact (by (with_reducible repeat (first | apply Kd.R_alloc | apply Kd.R_drewN | apply Kd.R_drew)); exact Kd.R_mono HO_223000.out (fun _ hk => hk.2)))
           (case aS => exact (below_size (by repeat (first | (with_reducible first | exact HB.out | apply below_alloc | apply pw_below_drewN | apply below_drew1 | refine below_set ?_ (Aside0.out (by assumption))) | exact HB.out))))
           (case aL => have := LMc37.out; omega)
           intro v247 w47 ho hb hg hat
           rw [← Ny246.out] at ho
           have n0_ := Aside0.mk (Kd.R_over' (Kd.pR HO_30.out) (Kd.R_typed (Kd.pR HO_223000.out)) (by decide) hg)
           have n1_ := Aside0.mk (Kd.R_over' (Kd.pR HO_223001.out) (Kd.R_typed (Kd.pR HO_223000.out)) (by decide) hg)
           have n2_ := Aside0.mk (blk_grown (pk BK216.out) hg (Kd.R_ne HO_223000.out BK216.out (by decide)))
           have n3_ := Aside0.mk (blk_grown (pk BK222.out) hg (Kd.R_ne HO_223000.out BK222.out (by decide)))
           have n4_ := Aside0.mk (Kd.R_over' (Kd.pR HO251.out) (Kd.R_typed (Kd.pR HO_223000.out)) (by decide) hg)
           have n5_ := Aside0.mk (Kd.R_after (ok := (fun _ => True)) (Kd.pR HO245.out) hg hat)
           have n6_ := Aside0.mk (hb)
           have n7_ := Aside0.mk (ho)
           clear HO_30 HO_223001 BK216 BK222 HO251 HO245 HB HO_223000
           have HO_30 := n0_; have HO_223001 := n1_; have BK216 := n2_; have BK222 := n3_; have HO251 := n4_; have HO245 := n5_; have HB := n6_; have HO248 := n7_
           clear n0_ n1_ n2_ n3_ n4_ n5_ n6_ n7_ ho hb hg hat
           refine hK.out _ _ ⟨(blk_cell BK222.out 0).trans rfl, (blk_cell BK222.out 1).trans rfl, (blk_cell BK222.out 2).trans rfl⟩ (fun hHeld => ?_)
           clear hK K
           refine norm_ (a' := ?_) ?_ ?_
           rotate_left
           ·
            show Act.put _ (some 54) _ = _
            simp only [Act.put, List.setIfInBounds_toArray, List.set_cons_zero, List.set_cons_succ, i64_w, i32_w]
            rfl
           refine pure_ (i := 10) (N := some 60) (v := ?_) (a' := ?_) #[true, true, true, true, true, true, true, true, true, false, true, false, false, false] rfl rfl (any_of HT_.out (by kernel_rfl)) (fun _ _ _ h => h) (Or.inl ⟨by rfl, ?_⟩) ?_ ?_
           rotate_left
           ·
            intro w'
            go_simp
            with_reducible rfl
           rotate_left
           ·
            simp only [Act.put, List.setIfInBounds_toArray, List.set_cons_zero, List.set_cons_succ, i64_w, i32_w]
            rfl
           exact norm_ (by simp only [putAll, Act.put, List.setIfInBounds_toArray, List.set_cons_zero, List.set_cons_succ]) (hCont (.slice Ao48 y243.length co48, v247, v250) _ ⟨hHeld, (by (with_reducible repeat (first | apply Kd.R_alloc | apply Kd.R_drewN | apply Kd.R_drew)); exact Kd.R_mono HO245.out (fun _ hk => hk.2)), (Kd.pR HO248.out), (by (with_reducible repeat (first | apply Kd.R_alloc | apply Kd.R_drewN | apply Kd.R_drew)); exact Kd.R_mono HO251.out (fun _ hk => hk.2)), (by (with_reducible repeat (first | apply Kd.R_alloc | apply Kd.R_drewN | apply Kd.R_drew)); exact Kd.R_mono HO_223001.out (fun _ hk => hk.2)), (Kd.pR HO_30.out), (pk BK216.out), (pk BK222.out), (by repeat (first | (with_reducible first | exact HB.out | apply below_alloc | apply pw_below_drewN | apply below_drew1 | refine below_set ?_ (Aside0.out (by assumption))) | exact HB.out))⟩)
         rintro ⟨v244, v247, v250⟩ w49 ⟨hS_, h0_, h1_, h2_, h3_, h4_, h5_, h6_, h7_⟩
         have n0_ : Aside0 (Kd.R (Kd.int .i64) 3 w49 w.heap.size (fun k_ => some k_ ≠ (v247 : Value).ownBlock) v244 y243) := ⟨h0_⟩
         have n1_ : Aside0 (Kd.R (Kd.int .i64) 3 w49 w.heap.size (fun k_ => some k_ ≠ (v244 : Value).ownBlock) v247 y246) := ⟨h1_⟩
         have n2_ : Aside0 (Kd.R Kd.bool 4 w49 w.heap.size (fun k_ => some k_ ≠ (.slice Ao41 x223001_1.length co41 : Value).ownBlock) v250 y249) := ⟨h2_⟩
         have n3_ : Aside0 (Kd.R Kd.bool 4 w49 w.heap.size (fun k_ => some k_ ≠ (v250 : Value).ownBlock) (.slice Ao41 x223001_1.length co41) x223001_1) := ⟨h3_⟩
         have n4_ : Aside0 (Kd.R Kd.string 9 w49 w.heap.size (fun _ => True) (.slice (some ad226) t223.length co11) t223) := ⟨h4_⟩
         have n5_ : Aside0 (w49.heap[gb216]? = some (.cells #[.slice none 0 0, .slice none 0 0, .int .i64 0] 65 (0, 0))) := ⟨h5_⟩
         have n6_ : Aside0 (w49.heap[gb222]? = some (.cells #[.slice Ao40 x223000_1.length co40, .slice Ao41 x223001_1.length co41, .int .i64 t220] 65 (0, 0))) := ⟨h6_⟩
         have n7_ : Aside0 (Below w.heap.size w w49) := ⟨h7_⟩
         clear HO_30 HO_223000 HO_223001 BK216 BK222 HB h0_ h1_ h2_ h3_ h4_ h5_ h6_ h7_
         have HO245 := n0_; have HO248 := n1_; have HO251 := n2_; have HO_223001 := n3_; have HO_30 := n4_; have BK216 := n5_; have BK222 := n6_; have HB := n7_
         clear n0_ n1_ n2_ n3_ n4_ n5_ n6_ n7_
         have hHeld : w49.cell? ⟨gb222, 0, none⟩ = some (.slice Ao40 x223000_1.length co40) ∧ w49.cell? ⟨gb222, 1, none⟩ = some (.slice Ao41 x223001_1.length co41) ∧ w49.cell? ⟨gb222, 2, none⟩ = some (.int .i64 t220) := hS_
         obtain ⟨Ao51, co51, eo51⟩ := Kd.R_slice HO251.out
         (first | subst eo51 | (injection eo51 with f1_ f2_ f3_; have f4_ := f1_.symm; have f5_ := f3_.symm; clear f1_ f2_ f3_; subst f4_; subst f5_))
         refine norm_ (a' := ?_) ?_ ?_
         rotate_left
         ·
          simp only [putAll, Act.put, List.setIfInBounds_toArray, List.set_cons_zero, List.set_cons_succ]
          rfl
         refine one_ (i := 9) (N := some 59) #[true, true, true, true, true, true, true, true, true, true, true, false, false, false] rfl rfl (one_of HT_.out (by kernel_rfl)) (by decide) (fun K hK => ?_)
         refine Kd.R_append_rows_step Kd.bool (w0 := w) w.heap.size (by rfl) (.tmp 56) (.tmp 58) 60 4 (.bool false) 1 rfl Tryd.underlying60 info4 rfl (by decide) (by omega) (.slice Ao41 x223001_1.length co41) x223001_1 y249 _ _ _ (fun k_ => some k_ ≠ (.slice Ao51 y249.length co51 : Value).ownBlock) (fun _ => False) rfl rfl ?aO ?aR (fun _ _ h => h) (fun _ h => h.elim) ?aF ?aB ?aS ?aL ?_
         (case aR => repeat (first | exact (Kd.R_reads' HO251.out).2.2 | (with_reducible refine Kd.C_alloc ?_ _) | (with_reducible refine Kd.C_drewN ?_ _) | (with_reducible refine Kd.C_drew ?_)))
         (case aB => exact (by repeat (first | (with_reducible first | exact HB.out | apply below_alloc | apply pw_below_drewN | apply below_drew1 | refine below_set ?_ (Aside0.out (by assumption))) | exact HB.out)))
         (case aF => exact (fun k_ hk => Kd.fresh' (Kd.R_lt (Kd.pR HO251.out)) k_ hk))
         (case aO => exact (Kd.pR HO_223001.out))
         (case aS => exact (below_size (by repeat (first | (with_reducible first | exact HB.out | apply below_alloc | apply pw_below_drewN | apply below_drew1 | refine below_set ?_ (Aside0.out (by assumption))) | exact HB.out))))
         (case aL => have := LMc38.out; omega)
         intro v253 w50 ho hb hg hat
         rw [← Ny252.out] at ho
         have n0_ := Aside0.mk (Kd.R_over' (Kd.pR HO_30.out) (Kd.R_typed (Kd.pR HO_223001.out)) (by decide) hg)
         have n1_ := Aside0.mk (blk_grown (pk BK216.out) hg (Kd.R_ne HO_223001.out BK216.out (by decide)))
         have n2_ := Aside0.mk (blk_grown (pk BK222.out) hg (Kd.R_ne HO_223001.out BK222.out (by decide)))
         have n3_ := Aside0.mk (Kd.R_over' (Kd.pR HO245.out) (Kd.R_typed (Kd.pR HO_223001.out)) (by decide) hg)
         have n4_ := Aside0.mk (Kd.R_over' (Kd.pR HO248.out) (Kd.R_typed (Kd.pR HO_223001.out)) (by decide) hg)
         have n5_ := Aside0.mk (Kd.R_after (ok := (fun _ => True)) (by (with_reducible repeat (first | apply Kd.R_alloc | apply Kd.R_drewN | apply Kd.R_drew)); exact Kd.R_mono HO251.out (fun _ hk => ⟨trivial, hk⟩)) hg hat)
         have n6_ := Aside0.mk (hb)
         have n7_ := Aside0.mk (ho)
         clear HO_30 BK216 BK222 HO245 HO248 HO251 HB HO_223001
         have HO_30 := n0_; have BK216 := n1_; have BK222 := n2_; have HO245 := n3_; have HO248 := n4_; have HO251 := n5_; have HB := n6_; have HO254 := n7_
         clear n0_ n1_ n2_ n3_ n4_ n5_ n6_ n7_ ho hb hg hat
         obtain ⟨Ao52, co52, eo52⟩ := Kd.R_slice HO248.out
         (first | subst eo52 | (injection eo52 with f1_ f2_ f3_; have f4_ := f1_.symm; have f5_ := f3_.symm; clear f1_ f2_ f3_; subst f4_; subst f5_))
         obtain ⟨Ao54, co54, eo54⟩ := Kd.R_slice HO254.out
         (first | subst eo54 | (injection eo54 with f1_ f2_ f3_; have f4_ := f1_.symm; have f5_ := f3_.symm; clear f1_ f2_ f3_; subst f4_; subst f5_))
         refine hK.out _ _ ⟨(blk_cell BK222.out 0).trans rfl, (blk_cell BK222.out 1).trans rfl, (blk_cell BK222.out 2).trans rfl⟩ (fun hHeld => ?_)
         clear hK K
         refine norm_ (a' := ?_) ?_ ?_
         rotate_left
         ·
          show Act.put _ (some 59) _ = _
          simp only [Act.put, List.setIfInBounds_toArray, List.set_cons_zero, List.set_cons_succ, i64_w, i32_w]
          rfl
         refine last_ (i := 11) (N := none) #[true, true, true, true, true, true, true, true, true, true, true, true, false, false] rfl rfl (one_of HT_.out (by kernel_rfl)) (by decide) (fun K hK => ?_)
         have hs53 : w50.cell? ⟨gb222, 0, none⟩ = some (.slice Ao40 x223000_1.length co40) := (blk_cell BK222.out 0).trans rfl
         have hfs53 := blk_frozen BK222.out 0
         have hns53_0 := NB216_222.out
         have hms53_0 := NB222_216.out
         refine skip_ (w1 := ?_) (by rfl) rfl ?_ ?_
         rotate_left
         ·
          go_simp
          rfl
         refine hK.out _ _ ?_
         clear hK K
         refine pure_ (i := 12) (N := some 61) (v := ?_) (a' := ?_) #[true, true, true, true, true, true, true, true, true, true, true, true, true, false] rfl rfl (any_of HT_.out (by kernel_rfl)) (fun _ _ _ h => h) (Or.inl ⟨by rfl, ?_⟩) ?_ ?_
         rotate_left
         ·
          intro w'
          go_simp
          with_reducible rfl
         rotate_left
         ·
          simp only [Act.put, List.setIfInBounds_toArray, List.set_cons_zero, List.set_cons_succ, i64_w, i32_w]
          rfl
         refine last_ (i := 13) (N := none) #[true, true, true, true, true, true, true, true, true, true, true, true, true, true] rfl rfl (one_of HT_.out (by kernel_rfl)) (by decide) (fun K hK => ?_)
         have hs55 : w50.cell? ⟨gb222, 1, none⟩ = some (.slice Ao41 x223001_1.length co41) := (blk_cell BK222.out 1).trans rfl
         have hfs55 := blk_frozen BK222.out 1
         have hns55_0 := NB216_222.out
         have hms55_0 := NB222_216.out
         refine skip_ (w1 := ?_) (by rfl) rfl ?_ ?_
         rotate_left
         ·
          go_simp
          rfl
         refine hK.out _ _ ?_
         clear hK K
         refine done_ (done_of HT_.out (by kernel_rfl)) ?_
         try go_wp2
         go_roundg k1
         case measure => have := HK1.out; omega
         case rel => exact ⟨(false), (wrap64 (x32_1 + 1)), (y246), (y252), (.slice Ao52 y246.length co52), (.slice Ao54 y252.length co54), (by first | rfl | (simp; done) | (simp [*]; done)), (by first | rfl | (simp; done) | (simp [*]; done)), H', ⟨by have := HK1.out; omega⟩, ⟨by (with_reducible repeat (first | apply Kd.R_alloc | apply Kd.R_drewN | apply Kd.R_drew)); exact Kd.R_mono (Kd.R_far (p := ⟨gb222, 1, none⟩) (Kd.R_far (p := ⟨gb222, 0, none⟩) (Kd.R_types HO_30.out BK222.out (by decide)) (fun _ hk => hk.2) (.slice Ao52 y246.length co52)) (fun _ hk => hk.2) (.slice Ao54 y252.length co54)) (fun _ hk => trivial)⟩, ⟨by (with_reducible repeat (first | apply Kd.R_alloc | apply Kd.R_drewN | apply Kd.R_drew)); exact Kd.R_mono (Kd.R_far (p := ⟨gb222, 1, none⟩) (Kd.R_far (p := ⟨gb222, 0, none⟩) (Kd.R_types HO248.out BK222.out (by decide)) (fun _ hk => hk.2) (.slice Ao52 y246.length co52)) (fun _ hk => hk.2) (.slice Ao54 y252.length co54)) (fun _ hk => trivial)⟩, ⟨by (with_reducible repeat (first | apply Kd.R_alloc | apply Kd.R_drewN | apply Kd.R_drew)); exact Kd.R_mono (Kd.R_far (p := ⟨gb222, 1, none⟩) (Kd.R_far (p := ⟨gb222, 0, none⟩) (Kd.R_types HO254.out BK222.out (by decide)) (fun _ hk => hk.2) (.slice Ao52 y246.length co52)) (fun _ hk => hk.2) (.slice Ao54 y252.length co54)) (fun _ hk => trivial)⟩, ⟨by (with_reducible repeat (first | refine blk_drewN ?_ _ | refine blk_drew ?_ | refine blk_alloc ?_ _)); refine blk_far ?_ NB216_222.out _; (with_reducible repeat (first | refine blk_drewN ?_ _ | refine blk_drew ?_ | refine blk_alloc ?_ _)); refine blk_far ?_ NB216_222.out _; (with_reducible repeat (first | refine blk_drewN ?_ _ | refine blk_drew ?_ | refine blk_alloc ?_ _)); exact BK216.out⟩, ⟨by (with_reducible repeat (first | refine blk_drewN ?_ _ | refine blk_drew ?_ | refine blk_alloc ?_ _)); refine blk_put (cs := #[.slice Ao52 y246.length co52, .slice Ao41 x223001_1.length co41, .int .i64 t220]) ?_ 1 _ rfl; (with_reducible repeat (first | refine blk_drewN ?_ _ | refine blk_drew ?_ | refine blk_alloc ?_ _)); refine blk_put (cs := #[.slice Ao40 x223000_1.length co40, .slice Ao41 x223001_1.length co41, .int .i64 t220]) ?_ 0 _ rfl; (with_reducible repeat (first | refine blk_drewN ?_ _ | refine blk_drew ?_ | refine blk_alloc ?_ _)); exact BK222.out⟩, ⟨by repeat (first | (with_reducible first | exact HB.out | apply below_alloc | apply pw_below_drewN | apply below_drew1 | refine below_set ?_ (Aside0.out (by assumption))) | exact HB.out)⟩⟩
        ·
         rw [if_neg c38] at H
         exact absurd H (by simp)
       ·
        rw [if_neg c37] at H
        exact absurd H (by simp)
     ·
      rw [if_neg c14] at H
      exact absurd H (by simp)
    ·
     rw [if_neg c13] at H
     exact absurd H (by simp)
   ·
    rw [if_neg c12] at H
    have c12b0 : decide (x32_1 < (t223.length : Int)) = false := decide_eq_false c12
    clear c12
    by_cases c56 : x8_1 = true
    ·
     subst c56
     have H1 : ((impl_IsCrew.f x223000_1 x223001_1 t220).bind fun t255 => (if t255 = true then ((impl_Crew_text.f k1 x223000_1 x223001_1 t220).bind fun t256 => (if t256.toList = a0.toList then (some (x223000_1, x223001_1, t220, true)) else (some (([] : List Int), ([] : List Bool), 0, false)))) else (some (([] : List Int), ([] : List Bool), 0, false)))) = some (r1, r2, r3, r4) := by rw [if_pos rfl] at H; exact H
     clear H
     have H := H1
     clear H1
     replace H := Option.bind_eq_some_iff.mp H
     obtain ⟨t255, A570, H⟩ := H
     replace H : (if t255 = true then ((impl_Crew_text.f k1 x223000_1 x223001_1 t220).bind fun t256 => (if t256.toList = a0.toList then (some (x223000_1, x223001_1, t220, true)) else (some (([] : List Int), ([] : List Bool), 0, false)))) else (some (([] : List Int), ([] : List Bool), 0, false))) = some (r1, r2, r3, r4) := H
     have A57 := Aside0.mk A570
     clear A570
     by_cases c58 : t255 = true
     ·
      subst c58
      have H1 : ((impl_Crew_text.f k1 x223000_1 x223001_1 t220).bind fun t256 => (if t256.toList = a0.toList then (some (x223000_1, x223001_1, t220, true)) else (some (([] : List Int), ([] : List Bool), 0, false)))) = some (r1, r2, r3, r4) := by rw [if_pos rfl] at H; exact H
      clear H
      have H := H1
      clear H1
      replace H := Option.bind_eq_some_iff.mp H
      obtain ⟨t256, A590, H⟩ := H
      replace H : (if t256.toList = a0.toList then (some (x223000_1, x223001_1, t220, true)) else (some (([] : List Int), ([] : List Bool), 0, false))) = some (r1, r2, r3, r4) := H
      have A59 := Aside0.mk A590
      clear A590
      by_cases c60 : t256.toList = a0.toList
      ·
       rw [if_pos c60] at H
       have c60b0 : (t256.toList == a0.toList) = true := beq_iff_eq.mpr c60
       have c60b1 : (t256.toList != a0.toList) = false := bne_eq_false_iff_eq.mpr c60
       clear c60
       simp only [Option.some.injEq, Prod.mk.injEq] at H
       obtain ⟨rfl, rfl, rfl, rfl⟩ := H
       have hnb61 := NB222_216.out
       have hnc61 := NB216_222.out
       have hcz62_0 : wr.cell? ⟨gb222, 0, none⟩ = some (u223000) := (blk_cell BK222.out 0).trans rfl
       have hcz62_1 : wr.cell? ⟨gb222, 1, none⟩ = some (u223001) := (blk_cell BK222.out 1).trans rfl
       have hcz62_2 : wr.cell? ⟨gb222, 2, none⟩ = some (.int .i64 t220) := (blk_cell BK222.out 2).trans rfl
       have hfz62_0 := blk_frozen BK222.out 0
       have hfz62_1 := blk_frozen BK222.out 1
       have hfz62_2 := blk_frozen BK222.out 2
       obtain ⟨Ao63, co63, eo63⟩ := Kd.R_slice HO_223000.out
       subst eo63
       obtain ⟨Ao64, co64, eo64⟩ := Kd.R_slice HO_223001.out
       subst eo64
       go_wp2_with (first | (go_at_call 87; (with_reducible refine (impl_IsCrew.calls _ _ x223000_1 _ _ x223001_1 t220 true _ ?side1 ?side2 ?side3 ?side4 A57.out).mono ?_); (case side1 => repeat (first | exact (Kd.R_reads' HO_223000.out).2.2 | (with_reducible refine Kd.C_alloc ?_ _) | (with_reducible refine Kd.C_drewN ?_ _) | (with_reducible refine Kd.C_drew ?_))); (case side2 => exact (Kd.R_reads' HO_223000.out).2.1); (case side3 => repeat (first | exact (Kd.R_reads' HO_223001.out).2.2 | (with_reducible refine Kd.C_alloc ?_ _) | (with_reducible refine Kd.C_drewN ?_ _) | (with_reducible refine Kd.C_drew ?_))); (case side4 => exact (Kd.R_reads' HO_223001.out).2.1); rintro e w65 ⟨rfl, hb⟩; have n0_ := Aside0.mk (Kd.R_below (Kd.pR HO_30.out) hb); have n1_ := Aside0.mk (Kd.R_below (Kd.pR HO_223000.out) hb); have n2_ := Aside0.mk (Kd.R_below (Kd.pR HO_223001.out) hb); have n3_ := Aside0.mk (blk_below (pk BK216.out) hb); have n4_ := Aside0.mk (blk_below (pk BK222.out) hb); have n5_ := Aside0.mk (below_step (by repeat (first | (with_reducible first | exact HB.out | apply below_alloc | apply pw_below_drewN | apply below_drew1 | refine below_set ?_ (Aside0.out (by assumption))) | exact HB.out)) hb); clear HO_30; clear HO_223000; clear HO_223001; clear BK216; clear BK222; clear HB; have HO_30 := n0_; have HO_223000 := n1_; have HO_223001 := n2_; have BK216 := n3_; have BK222 := n4_; have HB := n5_; clear n0_ n1_ n2_ n3_ n4_ n5_; (try clear hb); (try clear hb2); (try clear hk); (try clear hi); have hcz66_0 : w65.cell? ⟨gb222, 0, none⟩ = some (.slice Ao63 x223000_1.length co63) := (blk_cell BK222.out 0).trans rfl; have hcz66_1 : w65.cell? ⟨gb222, 1, none⟩ = some (.slice Ao64 x223001_1.length co64) := (blk_cell BK222.out 1).trans rfl; have hcz66_2 : w65.cell? ⟨gb222, 2, none⟩ = some (.int .i64 t220) := (blk_cell BK222.out 2).trans rfl; have hfz66_0 := blk_frozen BK222.out 0; have hfz66_1 := blk_frozen BK222.out 1; have hfz66_2 := blk_frozen BK222.out 2) | (go_at_call 88; (with_reducible refine (impl_Crew_text.calls k1 _ _ x223000_1 _ _ x223001_1 t220 t256 _ ?side1 ?side2 ?side3 ?side4 A59.out (Tab.up HT.out (by repeat (first | exact Below.refl _ _ | (with_reducible first | exact HB.out | apply below_alloc | apply pw_below_drewN | apply below_drew1 | refine below_set ?_ (Aside0.out (by assumption))) | exact HB.out)))).mono ?_); (case side1 => repeat (first | exact (Kd.R_reads' HO_223000.out).2.2 | (with_reducible refine Kd.C_alloc ?_ _) | (with_reducible refine Kd.C_drewN ?_ _) | (with_reducible refine Kd.C_drew ?_))); (case side2 => exact (Kd.R_reads' HO_223000.out).2.1); (case side3 => repeat (first | exact (Kd.R_reads' HO_223001.out).2.2 | (with_reducible refine Kd.C_alloc ?_ _) | (with_reducible refine Kd.C_drewN ?_ _) | (with_reducible refine Kd.C_drew ?_))); (case side4 => exact (Kd.R_reads' HO_223001.out).2.1); rintro e w67 ⟨rfl, hb⟩; have n0_ := Aside0.mk (Kd.R_below (Kd.pR HO_30.out) hb); have n1_ := Aside0.mk (Kd.R_below (Kd.pR HO_223000.out) hb); have n2_ := Aside0.mk (Kd.R_below (Kd.pR HO_223001.out) hb); have n3_ := Aside0.mk (blk_below (pk BK216.out) hb); have n4_ := Aside0.mk (blk_below (pk BK222.out) hb); have n5_ := Aside0.mk (below_step (by repeat (first | (with_reducible first | exact HB.out | apply below_alloc | apply pw_below_drewN | apply below_drew1 | refine below_set ?_ (Aside0.out (by assumption))) | exact HB.out)) hb); clear HO_30; clear HO_223000; clear HO_223001; clear BK216; clear BK222; clear HB; have HO_30 := n0_; have HO_223000 := n1_; have HO_223001 := n2_; have BK216 := n3_; have BK222 := n4_; have HB := n5_; clear n0_ n1_ n2_ n3_ n4_ n5_; (try clear hb); (try clear hb2); (try clear hk); (try clear hi); have hcz68_0 : w67.cell? ⟨gb222, 0, none⟩ = some (.slice Ao63 x223000_1.length co63) := (blk_cell BK222.out 0).trans rfl; have hcz68_1 : w67.cell? ⟨gb222, 1, none⟩ = some (.slice Ao64 x223001_1.length co64) := (blk_cell BK222.out 1).trans rfl; have hcz68_2 : w67.cell? ⟨gb222, 2, none⟩ = some (.int .i64 t220) := (blk_cell BK222.out 2).trans rfl; have hfz68_0 := blk_frozen BK222.out 0; have hfz68_1 := blk_frozen BK222.out 1; have hfz68_2 := blk_frozen BK222.out 2; have hcz69_0 : w67.cell? ⟨gb216, 0, none⟩ = some (.slice none 0 0) := (blk_cell BK216.out 0).trans rfl; have hcz69_1 : w67.cell? ⟨gb216, 1, none⟩ = some (.slice none 0 0) := (blk_cell BK216.out 1).trans rfl; have hcz69_2 : w67.cell? ⟨gb216, 2, none⟩ = some (.int .i64 0) := (blk_cell BK216.out 2).trans rfl; have hfz69_0 := blk_frozen BK216.out 0; have hfz69_1 := blk_frozen BK216.out 1; have hfz69_2 := blk_frozen BK216.out 2))
       refine bodyPost_ret (results_ct rfl _ _ gb216 65 #[.slice Ao63 x223000_1.length co63, .slice Ao64 x223001_1.length co64, .int .i64 t220] (0, 0) _ rfl (by (with_reducible repeat (first | refine blk_drewN ?_ _ | refine blk_drew ?_ | refine blk_alloc ?_ _)); refine blk_put (cs := #[.slice Ao63 x223000_1.length co63, .slice Ao64 x223001_1.length co64, .int .i64 0]) ?_ 2 _ rfl; (with_reducible repeat (first | refine blk_drewN ?_ _ | refine blk_drew ?_ | refine blk_alloc ?_ _)); refine blk_put (cs := #[.slice Ao63 x223000_1.length co63, .slice none 0 0, .int .i64 0]) ?_ 1 _ rfl; (with_reducible repeat (first | refine blk_drewN ?_ _ | refine blk_drew ?_ | refine blk_alloc ?_ _)); refine blk_put (cs := #[.slice none 0 0, .slice none 0 0, .int .i64 0]) ?_ 0 _ rfl; (with_reducible repeat (first | refine blk_drewN ?_ _ | refine blk_drew ?_ | refine blk_alloc ?_ _)); exact BK216.out) Tryd.underlying65 rfl (by kernel_rfl)) rfl ?_
       exact ⟨_, _, by first | rfl | (simp [errW_none, errW_some] <;> rfl) | (simp [*, errW_none, errW_some] <;> rfl), by (with_reducible repeat (first | apply Kd.R_alloc | apply Kd.R_drewN | apply Kd.R_drew)); exact Kd.R_mono (Kd.R_far (p := ⟨gb216, 2, none⟩) (Kd.R_far (p := ⟨gb216, 1, none⟩) (Kd.R_far (p := ⟨gb216, 0, none⟩) (Kd.R_types HO_223000.out BK216.out (by decide)) (fun _ hk => hk.2) (.slice Ao63 x223000_1.length co63)) (fun _ hk => hk.2) (.slice Ao64 x223001_1.length co64)) (fun _ hk => hk.2) (.int .i64 t220)) (fun _ hk => trivial), by (with_reducible repeat (first | apply Kd.R_alloc | apply Kd.R_drewN | apply Kd.R_drew)); exact Kd.R_mono (Kd.R_far (p := ⟨gb216, 2, none⟩) (Kd.R_far (p := ⟨gb216, 1, none⟩) (Kd.R_far (p := ⟨gb216, 0, none⟩) (Kd.R_types HO_223001.out BK216.out (by decide)) (fun _ hk => hk.2) (.slice Ao63 x223000_1.length co63)) (fun _ hk => hk.2) (.slice Ao64 x223001_1.length co64)) (fun _ hk => hk.2) (.int .i64 t220)) (fun _ hk => trivial), by repeat (first | (with_reducible first | exact HB.out | apply below_alloc | apply pw_below_drewN | apply below_drew1 | refine below_set ?_ (Aside0.out (by assumption))) | exact HB.out)⟩
      ·
       rw [if_neg c60] at H
       have c60b0 : (t256.toList == a0.toList) = false := beq_eq_false_iff_ne.mpr c60
       have c60b1 : (t256.toList != a0.toList) = true := bne_iff_ne.mpr c60
       simp only [Option.some.injEq, Prod.mk.injEq] at H
       obtain ⟨rfl, rfl, rfl, rfl⟩ := H
       have hnb70 := NB222_216.out
       have hnc70 := NB216_222.out
       have hcz71_0 : wr.cell? ⟨gb222, 0, none⟩ = some (u223000) := (blk_cell BK222.out 0).trans rfl
       have hcz71_1 : wr.cell? ⟨gb222, 1, none⟩ = some (u223001) := (blk_cell BK222.out 1).trans rfl
       have hcz71_2 : wr.cell? ⟨gb222, 2, none⟩ = some (.int .i64 t220) := (blk_cell BK222.out 2).trans rfl
       have hfz71_0 := blk_frozen BK222.out 0
       have hfz71_1 := blk_frozen BK222.out 1
       have hfz71_2 := blk_frozen BK222.out 2
       obtain ⟨Ao72, co72, eo72⟩ := Kd.R_slice HO_223000.out
       subst eo72
       obtain ⟨Ao73, co73, eo73⟩ := Kd.R_slice HO_223001.out
       subst eo73
       go_wp2_with (first | (go_at_call 87; (with_reducible refine (impl_IsCrew.calls _ _ x223000_1 _ _ x223001_1 t220 true _ ?side1 ?side2 ?side3 ?side4 A57.out).mono ?_); (case side1 => repeat (first | exact (Kd.R_reads' HO_223000.out).2.2 | (with_reducible refine Kd.C_alloc ?_ _) | (with_reducible refine Kd.C_drewN ?_ _) | (with_reducible refine Kd.C_drew ?_))); (case side2 => exact (Kd.R_reads' HO_223000.out).2.1); (case side3 => repeat (first | exact (Kd.R_reads' HO_223001.out).2.2 | (with_reducible refine Kd.C_alloc ?_ _) | (with_reducible refine Kd.C_drewN ?_ _) | (with_reducible refine Kd.C_drew ?_))); (case side4 => exact (Kd.R_reads' HO_223001.out).2.1); rintro e w74 ⟨rfl, hb⟩; have n0_ := Aside0.mk (Kd.R_below (Kd.pR HO_30.out) hb); have n1_ := Aside0.mk (Kd.R_below (Kd.pR HO_223000.out) hb); have n2_ := Aside0.mk (Kd.R_below (Kd.pR HO_223001.out) hb); have n3_ := Aside0.mk (blk_below (pk BK216.out) hb); have n4_ := Aside0.mk (blk_below (pk BK222.out) hb); have n5_ := Aside0.mk (below_step (by repeat (first | (with_reducible first | exact HB.out | apply below_alloc | apply pw_below_drewN | apply below_drew1 | refine below_set ?_ (Aside0.out (by assumption))) | exact HB.out)) hb); clear HO_30; clear HO_223000; clear HO_223001; clear BK216; clear BK222; clear HB; have HO_30 := n0_; have HO_223000 := n1_; have HO_223001 := n2_; have BK216 := n3_; have BK222 := n4_; have HB := n5_; clear n0_ n1_ n2_ n3_ n4_ n5_; (try clear hb); (try clear hb2); (try clear hk); (try clear hi); have hcz75_0 : w74.cell? ⟨gb222, 0, none⟩ = some (.slice Ao72 x223000_1.length co72) := (blk_cell BK222.out 0).trans rfl; have hcz75_1 : w74.cell? ⟨gb222, 1, none⟩ = some (.slice Ao73 x223001_1.length co73) := (blk_cell BK222.out 1).trans rfl; have hcz75_2 : w74.cell? ⟨gb222, 2, none⟩ = some (.int .i64 t220) := (blk_cell BK222.out 2).trans rfl; have hfz75_0 := blk_frozen BK222.out 0; have hfz75_1 := blk_frozen BK222.out 1; have hfz75_2 := blk_frozen BK222.out 2) | (go_at_call 88; (with_reducible refine (impl_Crew_text.calls k1 _ _ x223000_1 _ _ x223001_1 t220 t256 _ ?side1 ?side2 ?side3 ?side4 A59.out (Tab.up HT.out (by repeat (first | exact Below.refl _ _ | (with_reducible first | exact HB.out | apply below_alloc | apply pw_below_drewN | apply below_drew1 | refine below_set ?_ (Aside0.out (by assumption))) | exact HB.out)))).mono ?_); (case side1 => repeat (first | exact (Kd.R_reads' HO_223000.out).2.2 | (with_reducible refine Kd.C_alloc ?_ _) | (with_reducible refine Kd.C_drewN ?_ _) | (with_reducible refine Kd.C_drew ?_))); (case side2 => exact (Kd.R_reads' HO_223000.out).2.1); (case side3 => repeat (first | exact (Kd.R_reads' HO_223001.out).2.2 | (with_reducible refine Kd.C_alloc ?_ _) | (with_reducible refine Kd.C_drewN ?_ _) | (with_reducible refine Kd.C_drew ?_))); (case side4 => exact (Kd.R_reads' HO_223001.out).2.1); rintro e w76 ⟨rfl, hb⟩; have n0_ := Aside0.mk (Kd.R_below (Kd.pR HO_30.out) hb); have n1_ := Aside0.mk (Kd.R_below (Kd.pR HO_223000.out) hb); have n2_ := Aside0.mk (Kd.R_below (Kd.pR HO_223001.out) hb); have n3_ := Aside0.mk (blk_below (pk BK216.out) hb); have n4_ := Aside0.mk (blk_below (pk BK222.out) hb); have n5_ := Aside0.mk (below_step (by repeat (first | (with_reducible first | exact HB.out | apply below_alloc | apply pw_below_drewN | apply below_drew1 | refine below_set ?_ (Aside0.out (by assumption))) | exact HB.out)) hb); clear HO_30; clear HO_223000; clear HO_223001; clear BK216; clear BK222; clear HB; have HO_30 := n0_; have HO_223000 := n1_; have HO_223001 := n2_; have BK216 := n3_; have BK222 := n4_; have HB := n5_; clear n0_ n1_ n2_ n3_ n4_ n5_; (try clear hb); (try clear hb2); (try clear hk); (try clear hi); have hcz77_0 : w76.cell? ⟨gb216, 0, none⟩ = some (.slice none 0 0) := (blk_cell BK216.out 0).trans rfl; have hcz77_1 : w76.cell? ⟨gb216, 1, none⟩ = some (.slice none 0 0) := (blk_cell BK216.out 1).trans rfl; have hcz77_2 : w76.cell? ⟨gb216, 2, none⟩ = some (.int .i64 0) := (blk_cell BK216.out 2).trans rfl; have hfz77_0 := blk_frozen BK216.out 0; have hfz77_1 := blk_frozen BK216.out 1; have hfz77_2 := blk_frozen BK216.out 2))
       refine bodyPost_ret (results_ct rfl _ _ gb216 65 #[.slice none 0 0, .slice none 0 0, .int .i64 0] (0, 0) _ rfl (by (with_reducible repeat (first | refine blk_drewN ?_ _ | refine blk_drew ?_ | refine blk_alloc ?_ _)); refine blk_put (cs := #[.slice none 0 0, .slice none 0 0, .int .i64 0]) ?_ 2 _ rfl; (with_reducible repeat (first | refine blk_drewN ?_ _ | refine blk_drew ?_ | refine blk_alloc ?_ _)); refine blk_put (cs := #[.slice none 0 0, .slice none 0 0, .int .i64 0]) ?_ 1 _ rfl; (with_reducible repeat (first | refine blk_drewN ?_ _ | refine blk_drew ?_ | refine blk_alloc ?_ _)); refine blk_put (cs := #[.slice none 0 0, .slice none 0 0, .int .i64 0]) ?_ 0 _ rfl; (with_reducible repeat (first | refine blk_drewN ?_ _ | refine blk_drew ?_ | refine blk_alloc ?_ _)); exact BK216.out) Tryd.underlying65 rfl (by kernel_rfl)) rfl ?_
       exact ⟨_, _, by first | rfl | (simp [errW_none, errW_some] <;> rfl) | (simp [*, errW_none, errW_some] <;> rfl), by first | exact Kd.R_nil _ _ _ _ _ | exact Kd.N_nil _ _ _ _ _ | exact Kd.V_nil _ _ _ _ _ | exact Kd.Q_nil _ _ _ _ _ | exact Kd.S_nil _ _ _ _ _, by first | exact Kd.R_nil _ _ _ _ _ | exact Kd.N_nil _ _ _ _ _ | exact Kd.V_nil _ _ _ _ _ | exact Kd.Q_nil _ _ _ _ _ | exact Kd.S_nil _ _ _ _ _, by repeat (first | (with_reducible first | exact HB.out | apply below_alloc | apply pw_below_drewN | apply below_drew1 | refine below_set ?_ (Aside0.out (by assumption))) | exact HB.out)⟩
     ·
      replace c58 := Bool.eq_false_iff.mpr c58
      subst c58
      have H1 : (some (([] : List Int), ([] : List Bool), 0, false)) = some (r1, r2, r3, r4) := by rw [if_neg (show ¬ (false = true) by decide)] at H; exact H
      clear H
      have H := H1
      clear H1
      simp only [Option.some.injEq, Prod.mk.injEq] at H
      obtain ⟨rfl, rfl, rfl, rfl⟩ := H
      have hnb78 := NB222_216.out
      have hnc78 := NB216_222.out
      have hcz79_0 : wr.cell? ⟨gb222, 0, none⟩ = some (u223000) := (blk_cell BK222.out 0).trans rfl
      have hcz79_1 : wr.cell? ⟨gb222, 1, none⟩ = some (u223001) := (blk_cell BK222.out 1).trans rfl
      have hcz79_2 : wr.cell? ⟨gb222, 2, none⟩ = some (.int .i64 t220) := (blk_cell BK222.out 2).trans rfl
      have hfz79_0 := blk_frozen BK222.out 0
      have hfz79_1 := blk_frozen BK222.out 1
      have hfz79_2 := blk_frozen BK222.out 2
      obtain ⟨Ao80, co80, eo80⟩ := Kd.R_slice HO_223000.out
      subst eo80
      obtain ⟨Ao81, co81, eo81⟩ := Kd.R_slice HO_223001.out
      subst eo81
      go_wp2_with (first | (go_at_call 87; (with_reducible refine (impl_IsCrew.calls _ _ x223000_1 _ _ x223001_1 t220 false _ ?side1 ?side2 ?side3 ?side4 A57.out).mono ?_); (case side1 => repeat (first | exact (Kd.R_reads' HO_223000.out).2.2 | (with_reducible refine Kd.C_alloc ?_ _) | (with_reducible refine Kd.C_drewN ?_ _) | (with_reducible refine Kd.C_drew ?_))); (case side2 => exact (Kd.R_reads' HO_223000.out).2.1); (case side3 => repeat (first | exact (Kd.R_reads' HO_223001.out).2.2 | (with_reducible refine Kd.C_alloc ?_ _) | (with_reducible refine Kd.C_drewN ?_ _) | (with_reducible refine Kd.C_drew ?_))); (case side4 => exact (Kd.R_reads' HO_223001.out).2.1); rintro e w82 ⟨rfl, hb⟩; have n0_ := Aside0.mk (Kd.R_below (Kd.pR HO_30.out) hb); have n1_ := Aside0.mk (Kd.R_below (Kd.pR HO_223000.out) hb); have n2_ := Aside0.mk (Kd.R_below (Kd.pR HO_223001.out) hb); have n3_ := Aside0.mk (blk_below (pk BK216.out) hb); have n4_ := Aside0.mk (blk_below (pk BK222.out) hb); have n5_ := Aside0.mk (below_step (by repeat (first | (with_reducible first | exact HB.out | apply below_alloc | apply pw_below_drewN | apply below_drew1 | refine below_set ?_ (Aside0.out (by assumption))) | exact HB.out)) hb); clear HO_30; clear HO_223000; clear HO_223001; clear BK216; clear BK222; clear HB; have HO_30 := n0_; have HO_223000 := n1_; have HO_223001 := n2_; have BK216 := n3_; have BK222 := n4_; have HB := n5_; clear n0_ n1_ n2_ n3_ n4_ n5_; (try clear hb); (try clear hb2); (try clear hk); (try clear hi); have hcz83_0 : w82.cell? ⟨gb216, 0, none⟩ = some (.slice none 0 0) := (blk_cell BK216.out 0).trans rfl; have hcz83_1 : w82.cell? ⟨gb216, 1, none⟩ = some (.slice none 0 0) := (blk_cell BK216.out 1).trans rfl; have hcz83_2 : w82.cell? ⟨gb216, 2, none⟩ = some (.int .i64 0) := (blk_cell BK216.out 2).trans rfl; have hfz83_0 := blk_frozen BK216.out 0; have hfz83_1 := blk_frozen BK216.out 1; have hfz83_2 := blk_frozen BK216.out 2))
      refine bodyPost_ret (results_ct rfl _ _ gb216 65 #[.slice none 0 0, .slice none 0 0, .int .i64 0] (0, 0) _ rfl (by (with_reducible repeat (first | refine blk_drewN ?_ _ | refine blk_drew ?_ | refine blk_alloc ?_ _)); refine blk_put (cs := #[.slice none 0 0, .slice none 0 0, .int .i64 0]) ?_ 2 _ rfl; (with_reducible repeat (first | refine blk_drewN ?_ _ | refine blk_drew ?_ | refine blk_alloc ?_ _)); refine blk_put (cs := #[.slice none 0 0, .slice none 0 0, .int .i64 0]) ?_ 1 _ rfl; (with_reducible repeat (first | refine blk_drewN ?_ _ | refine blk_drew ?_ | refine blk_alloc ?_ _)); refine blk_put (cs := #[.slice none 0 0, .slice none 0 0, .int .i64 0]) ?_ 0 _ rfl; (with_reducible repeat (first | refine blk_drewN ?_ _ | refine blk_drew ?_ | refine blk_alloc ?_ _)); exact BK216.out) Tryd.underlying65 rfl (by kernel_rfl)) rfl ?_
      exact ⟨_, _, by first | rfl | (simp [errW_none, errW_some] <;> rfl) | (simp [*, errW_none, errW_some] <;> rfl), by first | exact Kd.R_nil _ _ _ _ _ | exact Kd.N_nil _ _ _ _ _ | exact Kd.V_nil _ _ _ _ _ | exact Kd.Q_nil _ _ _ _ _ | exact Kd.S_nil _ _ _ _ _, by first | exact Kd.R_nil _ _ _ _ _ | exact Kd.N_nil _ _ _ _ _ | exact Kd.V_nil _ _ _ _ _ | exact Kd.Q_nil _ _ _ _ _ | exact Kd.S_nil _ _ _ _ _, by repeat (first | (with_reducible first | exact HB.out | apply below_alloc | apply pw_below_drewN | apply below_drew1 | refine below_set ?_ (Aside0.out (by assumption))) | exact HB.out)⟩
    ·
     replace c56 := Bool.eq_false_iff.mpr c56
     subst c56
     have H1 : (some (([] : List Int), ([] : List Bool), 0, false)) = some (r1, r2, r3, r4) := by rw [if_neg (show ¬ (false = true) by decide)] at H; exact H
     clear H
     have H := H1
     clear H1
     simp only [Option.some.injEq, Prod.mk.injEq] at H
     obtain ⟨rfl, rfl, rfl, rfl⟩ := H
     have hnb84 := NB216_222.out
     have hnc84 := NB222_216.out
     have hcz85_0 : wr.cell? ⟨gb216, 0, none⟩ = some (.slice none 0 0) := (blk_cell BK216.out 0).trans rfl
     have hcz85_1 : wr.cell? ⟨gb216, 1, none⟩ = some (.slice none 0 0) := (blk_cell BK216.out 1).trans rfl
     have hcz85_2 : wr.cell? ⟨gb216, 2, none⟩ = some (.int .i64 0) := (blk_cell BK216.out 2).trans rfl
     have hfz85_0 := blk_frozen BK216.out 0
     have hfz85_1 := blk_frozen BK216.out 1
     have hfz85_2 := blk_frozen BK216.out 2
     go_wp2
     refine bodyPost_ret (results_ct rfl _ _ gb216 65 #[.slice none 0 0, .slice none 0 0, .int .i64 0] (0, 0) _ rfl (by (with_reducible repeat (first | refine blk_drewN ?_ _ | refine blk_drew ?_ | refine blk_alloc ?_ _)); refine blk_put (cs := #[.slice none 0 0, .slice none 0 0, .int .i64 0]) ?_ 2 _ rfl; (with_reducible repeat (first | refine blk_drewN ?_ _ | refine blk_drew ?_ | refine blk_alloc ?_ _)); refine blk_put (cs := #[.slice none 0 0, .slice none 0 0, .int .i64 0]) ?_ 1 _ rfl; (with_reducible repeat (first | refine blk_drewN ?_ _ | refine blk_drew ?_ | refine blk_alloc ?_ _)); refine blk_put (cs := #[.slice none 0 0, .slice none 0 0, .int .i64 0]) ?_ 0 _ rfl; (with_reducible repeat (first | refine blk_drewN ?_ _ | refine blk_drew ?_ | refine blk_alloc ?_ _)); exact BK216.out) Tryd.underlying65 rfl (by kernel_rfl)) rfl ?_
     exact ⟨_, _, by first | rfl | (simp [errW_none, errW_some] <;> rfl) | (simp [*, errW_none, errW_some] <;> rfl), by first | exact Kd.R_nil _ _ _ _ _ | exact Kd.N_nil _ _ _ _ _ | exact Kd.V_nil _ _ _ _ _ | exact Kd.Q_nil _ _ _ _ _ | exact Kd.S_nil _ _ _ _ _, by first | exact Kd.R_nil _ _ _ _ _ | exact Kd.N_nil _ _ _ _ _ | exact Kd.V_nil _ _ _ _ _ | exact Kd.Q_nil _ _ _ _ _ | exact Kd.S_nil _ _ _ _ _, by repeat (first | (with_reducible first | exact HB.out | apply below_alloc | apply pw_below_drewN | apply below_drew1 | refine below_set ?_ (Aside0.out (by assumption))) | exact HB.out)⟩

end Go.Proofs.YtpiidnmobofaeaaDoor.QFnExactParseCrew
