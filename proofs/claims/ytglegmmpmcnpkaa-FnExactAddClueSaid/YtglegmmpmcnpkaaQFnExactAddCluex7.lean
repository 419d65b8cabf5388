/- Contracts of functions of the given program, walked: each call returns what its Lean function says. Conditions: those that stand at each theorem. (Written by a program of this session.) -/
import Derived.Test.YtglegmmpmcnpkaaQFnExactAddCluex0
import Derived.Test.YtglegmmpmcnpkaaQFnExactAddCluex1
import Derived.Test.YtglegmmpmcnpkaaQFnExactAddCluex3
import Derived.Test.YtglegmmpmcnpkaaQFnExactAddCluex5
import Derived.Test.YtglegmmpmcnpkaaQFnExactAddCluex6
namespace Go.Proofs.Ytglegmmpmcnpkaa.QFnExactAddClue
open Go.RowKit Go.Proofs.YtglegmmpmcnpkaaW.PrintWords Go.Proofs.YtglegmmpmcnpkaaW.PrintLast Go.Proofs.YtglegmmpmcnpkaaW.PrintMore
attribute [local go_sem] max2_int min2_int max_two min_two max_three min_three max_four min_four   -- for this text's walks alone
set_option linter.unusedVariables false
set_option linter.unusedSimpArgs false

/-! ### laws_FnExactAddClue: function 7 -/
mutual
def laws_FnExactAddClue.j0 : Nat → Bool → Bool → Bool → Int → List (S23) → Int → Int → Int → Int → List (S25) → Int → List (S25) → Int → List (S25) → Option (Bool)
  | 0, _, _, _, _, _, _, _, _, _, _, _, _, _, _ => none
  | k + 1, x7, x10, x46, x291000, x291001, x292000, x292001, x292002, x306000, x306001, x311000, x311001, x320000, x320001 => if x46 = true then (none) else ((laws_toPuzzle.f k x291000 x291001).bind fun bt321 => ((laws_eqPuzzle.f k x311000 x311001 bt321.1 bt321.2).bind fun t325 => (if t325 = true then ((laws_markPuzzle.f k x311000 x311001 1).bind fun bt326 => (if bt326.1 < 0 then (laws_FnExactAddClue.j1 k x7 true x291000 x291001 x292000 x292001 x292002 x306000 x306001 x320000 x320001) else ((laws_eqPuzzle.f k x320000 x320001 x306000 x306001).bind fun t328 => (if t328 = true then (laws_FnExactAddClue.j1 k x7 (x10 != x7) x291000 x291001 x292000 x292001 x292002 x306000 x306001 x320000 x320001) else (laws_FnExactAddClue.j1 k x7 true x291000 x291001 x292000 x292001 x292002 x306000 x306001 x320000 x320001))))) else (none))))
def laws_FnExactAddClue.j1 : Nat → Bool → Bool → Int → List (S23) → Int → Int → Int → Int → List (S25) → Int → List (S25) → Option (Bool)
  | 0, _, _, _, _, _, _, _, _, _, _, _ => none
  | k + 1, x7, x67, x291000, x291001, x292000, x292001, x292002, x306000, x306001, x320000, x320001 => if x67 = true then (none) else ((laws_markPuzzle.f k x320000 x320001 1).bind fun bt329 => ((laws_heldPuzzle.f k x320000 bt329.2 1).bind fun t331 => (if t331 < 0 then (none) else (if t331 = bt329.1 then ((laws_toPuzzle.f k x291000 x291001).bind fun bt332 => ((laws_toClue.f x292000 x292001 x292002).bind fun bt336 => ((impl_AddClue.f k bt332.1 bt332.2 bt336.1 bt336.2.1 bt336.2.2).bind fun bt339 => ((laws_eqPuzzle.f k bt339.1 bt339.2.1 x306000 x306001).bind fun t345 => (if t345 = true then (laws_FnExactAddClue.j2 k bt329.1 (bt339.2.2 != x7) x320000 bt329.2) else (laws_FnExactAddClue.j2 k bt329.1 true x320000 bt329.2)))))) else (none)))))
def laws_FnExactAddClue.j2 : Nat → Int → Bool → Int → List (S25) → Option (Bool)
  | 0, _, _, _, _ => none
  | k + 1, x12, x95, x320000, x320001 => if x95 = true then (none) else ((laws_heldPuzzle.f k x320000 x320001 1).bind fun t346 => (if t346 < 0 then (none) else (if t346 = x12 then (some true) else (none))))
end
def laws_FnExactAddClue.f (k : Nat) (a0_0 : Int) (l0_1 : List (S23)) (a1_0 : Int) (a1_1 : Int) (a1_2 : Int) : Option (Bool) := (laws_szPuzzle.f a0_0 l0_1 1048576).bind fun t292 => (if t292 < 0 then (some true) else ((laws_toPuzzle.f k a0_0 l0_1).bind fun bt293 => ((laws_toClue.f a1_0 a1_1 a1_2).bind fun bt297 => ((spec_AddClue.f k bt293.1 bt293.2 bt297.1 bt297.2.1 bt297.2.2).bind fun bt300 => ((laws_toPuzzle.f k a0_0 l0_1).bind fun bt306 => ((laws_toClue.f a1_0 a1_1 a1_2).bind fun bt311 => ((impl_AddClue.f k bt306.1 bt306.2 bt311.1 bt311.2.1 bt311.2.2).bind fun bt314 => ((laws_eqPuzzle.f k bt314.1 bt314.2.1 bt300.1 bt300.2.1).bind fun t320 => (if t320 = true then (laws_FnExactAddClue.j0 k bt300.2.2 bt314.2.2 (bt314.2.2 != bt300.2.2) a0_0 l0_1 a1_0 a1_1 a1_2 bt300.1 bt300.2.1 bt306.1 bt306.2 bt314.1 bt314.2.1) else (laws_FnExactAddClue.j0 k bt300.2.2 bt314.2.2 true a0_0 l0_1 a1_0 a1_1 a1_2 bt300.1 bt300.2.1 bt306.1 bt306.2 bt314.1 bt314.2.1))))))))))
theorem laws_FnExactAddClue.mono_l : ∀ k, (∀ y0 y1 y2 y3 y4 y5 y6 y7 y8 y9 y10 y11 y12 y13, LeO (laws_FnExactAddClue.j0 k y0 y1 y2 y3 y4 y5 y6 y7 y8 y9 y10 y11 y12 y13) (laws_FnExactAddClue.j0 (k + 1) y0 y1 y2 y3 y4 y5 y6 y7 y8 y9 y10 y11 y12 y13)) ∧ (∀ y0 y1 y2 y3 y4 y5 y6 y7 y8 y9 y10, LeO (laws_FnExactAddClue.j1 k y0 y1 y2 y3 y4 y5 y6 y7 y8 y9 y10) (laws_FnExactAddClue.j1 (k + 1) y0 y1 y2 y3 y4 y5 y6 y7 y8 y9 y10)) ∧ (∀ y0 y1 y2 y3, LeO (laws_FnExactAddClue.j2 k y0 y1 y2 y3) (laws_FnExactAddClue.j2 (k + 1) y0 y1 y2 y3))
  | 0 => ⟨fun _ _ _ _ _ _ _ _ _ _ _ _ _ _ r h => by simp [laws_FnExactAddClue.j0] at h, fun _ _ _ _ _ _ _ _ _ _ _ r h => by simp [laws_FnExactAddClue.j1] at h, fun _ _ _ _ r h => by simp [laws_FnExactAddClue.j2] at h⟩
  | k + 1 => by
    obtain ⟨ih0, ih1, ih2⟩ := laws_FnExactAddClue.mono_l k
    refine ⟨?_, ?_, ?_⟩
    · intro y0 y1 y2 y3 y4 y5 y6 y7 y8 y9 y10 y11 y12 y13
      unfold laws_FnExactAddClue.j0
      repeat' first
      | (with_reducible exact ih0 _ _ _ _ _ _ _ _ _ _ _ _ _ _)
      | (with_reducible exact ih1 _ _ _ _ _ _ _ _ _ _ _)
      | (with_reducible exact ih2 _ _ _ _)
      | (with_reducible exact impl_AddClue.mono _ _ _ _ _ _)
      | (with_reducible exact laws_eqPuzzle.mono _ _ _ _ _)
      | (with_reducible exact laws_heldPuzzle.mono _ _ _ _)
      | (with_reducible exact laws_markPuzzle.mono _ _ _ _)
      | (with_reducible exact laws_toPuzzle.mono _ _ _)
      | (with_reducible exact spec_AddClue.mono _ _ _ _ _ _)
      | (with_reducible exact LeO.refl _)
      | (with_reducible exact LeO.none _)
      | (with_reducible refine LeO.ite ?_ ?_)
      | (with_reducible refine LeO.bind ?_ (fun _ => ?_))
      | exact ih0 _ _ _ _ _ _ _ _ _ _ _ _ _ _
      | exact ih1 _ _ _ _ _ _ _ _ _ _ _
      | exact ih2 _ _ _ _
      | exact impl_AddClue.mono _ _ _ _ _ _
      | exact laws_eqPuzzle.mono _ _ _ _ _
      | exact laws_heldPuzzle.mono _ _ _ _
      | exact laws_markPuzzle.mono _ _ _ _
      | exact laws_toPuzzle.mono _ _ _
      | exact spec_AddClue.mono _ _ _ _ _ _
      | exact LeO.none _
      | refine LeO.ite ?_ ?_
      | refine LeO.bind ?_ (fun _ => ?_)
    · intro y0 y1 y2 y3 y4 y5 y6 y7 y8 y9 y10
      unfold laws_FnExactAddClue.j1
      repeat' first
      | (with_reducible exact ih0 _ _ _ _ _ _ _ _ _ _ _ _ _ _)
      | (with_reducible exact ih1 _ _ _ _ _ _ _ _ _ _ _)
      | (with_reducible exact ih2 _ _ _ _)
      | (with_reducible exact impl_AddClue.mono _ _ _ _ _ _)
      | (with_reducible exact laws_eqPuzzle.mono _ _ _ _ _)
      | (with_reducible exact laws_heldPuzzle.mono _ _ _ _)
      | (with_reducible exact laws_markPuzzle.mono _ _ _ _)
      | (with_reducible exact laws_toPuzzle.mono _ _ _)
      | (with_reducible exact spec_AddClue.mono _ _ _ _ _ _)
      | (with_reducible exact LeO.refl _)
      | (with_reducible exact LeO.none _)
      | (with_reducible refine LeO.ite ?_ ?_)
      | (with_reducible refine LeO.bind ?_ (fun _ => ?_))
      | exact ih0 _ _ _ _ _ _ _ _ _ _ _ _ _ _
      | exact ih1 _ _ _ _ _ _ _ _ _ _ _
      | exact ih2 _ _ _ _
      | exact impl_AddClue.mono _ _ _ _ _ _
      | exact laws_eqPuzzle.mono _ _ _ _ _
      | exact laws_heldPuzzle.mono _ _ _ _
      | exact laws_markPuzzle.mono _ _ _ _
      | exact laws_toPuzzle.mono _ _ _
      | exact spec_AddClue.mono _ _ _ _ _ _
      | exact LeO.none _
      | refine LeO.ite ?_ ?_
      | refine LeO.bind ?_ (fun _ => ?_)
    · intro y0 y1 y2 y3
      unfold laws_FnExactAddClue.j2
      repeat' first
      | (with_reducible exact ih0 _ _ _ _ _ _ _ _ _ _ _ _ _ _)
      | (with_reducible exact ih1 _ _ _ _ _ _ _ _ _ _ _)
      | (with_reducible exact ih2 _ _ _ _)
      | (with_reducible exact impl_AddClue.mono _ _ _ _ _ _)
      | (with_reducible exact laws_eqPuzzle.mono _ _ _ _ _)
      | (with_reducible exact laws_heldPuzzle.mono _ _ _ _)
      | (with_reducible exact laws_markPuzzle.mono _ _ _ _)
      | (with_reducible exact laws_toPuzzle.mono _ _ _)
      | (with_reducible exact spec_AddClue.mono _ _ _ _ _ _)
      | (with_reducible exact LeO.refl _)
      | (with_reducible exact LeO.none _)
      | (with_reducible refine LeO.ite ?_ ?_)
      | (with_reducible refine LeO.bind ?_ (fun _ => ?_))
      | exact ih0 _ _ _ _ _ _ _ _ _ _ _ _ _ _
      | exact ih1 _ _ _ _ _ _ _ _ _ _ _
      | exact ih2 _ _ _ _
      | exact impl_AddClue.mono _ _ _ _ _ _
      | exact laws_eqPuzzle.mono _ _ _ _ _
      | exact laws_heldPuzzle.mono _ _ _ _
      | exact laws_markPuzzle.mono _ _ _ _
      | exact laws_toPuzzle.mono _ _ _
      | exact spec_AddClue.mono _ _ _ _ _ _
      | exact LeO.none _
      | refine LeO.ite ?_ ?_
      | refine LeO.bind ?_ (fun _ => ?_)
theorem laws_FnExactAddClue.mono : ∀ a0 a1 a2 a3 a4 k, LeO (laws_FnExactAddClue.f k a0 a1 a2 a3 a4) (laws_FnExactAddClue.f (k + 1) a0 a1 a2 a3 a4) := by
  intro a0 a1 a2 a3 a4 k
  obtain ⟨ih0, ih1, ih2⟩ := laws_FnExactAddClue.mono_l k
  unfold laws_FnExactAddClue.f
  repeat' first
      | (with_reducible exact ih0 _ _ _ _ _ _ _ _ _ _ _ _ _ _)
      | (with_reducible exact ih1 _ _ _ _ _ _ _ _ _ _ _)
      | (with_reducible exact ih2 _ _ _ _)
      | (with_reducible exact impl_AddClue.mono _ _ _ _ _ _)
      | (with_reducible exact laws_eqPuzzle.mono _ _ _ _ _)
      | (with_reducible exact laws_heldPuzzle.mono _ _ _ _)
      | (with_reducible exact laws_markPuzzle.mono _ _ _ _)
      | (with_reducible exact laws_toPuzzle.mono _ _ _)
      | (with_reducible exact spec_AddClue.mono _ _ _ _ _ _)
      | (with_reducible exact LeO.refl _)
      | (with_reducible exact LeO.none _)
      | (with_reducible refine LeO.ite ?_ ?_)
      | (with_reducible refine LeO.bind ?_ (fun _ => ?_))
      | exact ih0 _ _ _ _ _ _ _ _ _ _ _ _ _ _
      | exact ih1 _ _ _ _ _ _ _ _ _ _ _
      | exact ih2 _ _ _ _
      | exact impl_AddClue.mono _ _ _ _ _ _
      | exact laws_eqPuzzle.mono _ _ _ _ _
      | exact laws_heldPuzzle.mono _ _ _ _
      | exact laws_markPuzzle.mono _ _ _ _
      | exact laws_toPuzzle.mono _ _ _
      | exact spec_AddClue.mono _ _ _ _ _ _
      | exact LeO.none _
      | refine LeO.ite ?_ ?_
      | refine LeO.bind ?_ (fun _ => ?_)
def laws_FnExactAddClue.T5 : Bool × List (List Nat × List Nat) := (true, [([], []), ([0], [0]), ([], []), ([2, 1], [2]), ([1, 3, 3], [1, 3]), ([4], [4]), ([5], [5]), ([5], [5]), ([], []), ([8, 6, 4, 0, 1, 2, 3, 4, 5, 6, 8], [6, 8]), ([7, 9, 0, 1, 2, 3, 4, 5, 6, 7, 8, 9], [7])])
def laws_FnExactAddClue.B5 : List Nat := [0, 1, 0, 7, 15, 31, 63, 63, 0, 383, 1023]
theorem laws_FnExactAddClue.tab5 : rtab .any (opsOf Try.f7 5) = laws_FnExactAddClue.T5 := by kernel_rfl
theorem laws_FnExactAddClue.bits5 : waitsOk laws_FnExactAddClue.T5.2 laws_FnExactAddClue.B5 = true := by kernel_rfl
def laws_FnExactAddClue.T7 : Bool × List (List Nat × List Nat) := (true, [([], []), ([], []), ([1], [1]), ([0, 2, 2], [0, 2]), ([3], [3]), ([4], [4]), ([4], [4]), ([], []), ([7, 5, 3, 0, 1, 2, 3, 4, 5, 7], [5, 7]), ([6, 8, 0, 1, 2, 3, 4, 5, 6, 7, 8], [6])])
def laws_FnExactAddClue.B7 : List Nat := [0, 0, 2, 7, 15, 31, 31, 0, 191, 511]
theorem laws_FnExactAddClue.tab7 : rtab .any (opsOf Try.f7 7) = laws_FnExactAddClue.T7 := by kernel_rfl
theorem laws_FnExactAddClue.bits7 : waitsOk laws_FnExactAddClue.T7.2 laws_FnExactAddClue.B7 = true := by kernel_rfl
def laws_FnExactAddClue.T24 : Bool × List (List Nat × List Nat) := (true, [([], []), ([0], [0]), ([], []), ([2, 1], [2]), ([1, 3, 3], [1, 3]), ([4], [4]), ([5], [5]), ([5], [5]), ([], []), ([8, 6, 4, 0, 1, 2, 3, 4, 5, 6, 8], [6, 8]), ([7, 9, 0, 1, 2, 3, 4, 5, 6, 7, 8, 9], [7])])
def laws_FnExactAddClue.B24 : List Nat := [0, 1, 0, 7, 15, 31, 63, 63, 0, 383, 1023]
theorem laws_FnExactAddClue.tab24 : rtab .any (opsOf Try.f7 24) = laws_FnExactAddClue.T24 := by kernel_rfl
theorem laws_FnExactAddClue.bits24 : waitsOk laws_FnExactAddClue.T24.2 laws_FnExactAddClue.B24 = true := by kernel_rfl
set_option maxHeartbeats 8000000 in
set_option maxRecDepth 100000 in
theorem laws_FnExactAddClue.calls (k : Nat) (a0_0 : Int) (A0_1 : Option Addr) (c0_1 : Nat) (l0_1 : List (S23)) (a1_0 : Int) (a1_1 : Int) (a1_2 : Int) (r : Bool) (w : World) (hr0_1 : Kd.C k23 w A0_1 l0_1.length l0_1) (hc0_1 : l0_1.length ≤ c0_1) (h : laws_FnExactAddClue.f k a0_0 l0_1 a1_0 a1_1 a1_2 = some r) :
  Calls Try.prog 7 #[.agg #[.int .i64 a0_0, .slice A0_1 l0_1.length c0_1], .agg #[.int .i64 a1_0, .int .i64 a1_1, .int .i64 a1_2]] w fun e w' => e = .returned (.bool r) ∧ Below w.heap.size w w' := by
 have hu34 := Try.underlying34
 have hu23 := Try.underlying23
 have hu39 := Try.underlying39
 have HR0_1 := Aside0.mk hr0_1
 have HC0_1 := Aside0.mk hc0_1
 clear hr0_1 hc0_1
 have HB := Aside0.mk (Below.refl w.heap.size w)
 have H : ((laws_szPuzzle.f a0_0 l0_1 1048576).bind fun t292 => (if t292 < 0 then (some true) else ((laws_toPuzzle.f k a0_0 l0_1).bind fun bt293 => ((laws_toClue.f a1_0 a1_1 a1_2).bind fun bt297 => ((spec_AddClue.f k bt293.1 bt293.2 bt297.1 bt297.2.1 bt297.2.2).bind fun bt300 => ((laws_toPuzzle.f k a0_0 l0_1).bind fun bt306 => ((laws_toClue.f a1_0 a1_1 a1_2).bind fun bt311 => ((impl_AddClue.f k bt306.1 bt306.2 bt311.1 bt311.2.1 bt311.2.2).bind fun bt314 => ((laws_eqPuzzle.f k bt314.1 bt314.2.1 bt300.1 bt300.2.1).bind fun t320 => (if t320 = true then (laws_FnExactAddClue.j0 k bt300.2.2 bt314.2.2 (bt314.2.2 != bt300.2.2) a0_0 l0_1 a1_0 a1_1 a1_2 bt300.1 bt300.2.1 bt306.1 bt306.2 bt314.1 bt314.2.1) else (laws_FnExactAddClue.j0 k bt300.2.2 bt314.2.2 true a0_0 l0_1 a1_0 a1_1 a1_2 bt300.1 bt300.2.1 bt306.1 bt306.2 bt314.1 bt314.2.1))))))))))) = some r := h
 clear h
 replace H := Option.bind_eq_some_iff.mp H
 obtain ⟨t292, A30, H⟩ := H
 replace H : (if t292 < 0 then (some true) else ((laws_toPuzzle.f k a0_0 l0_1).bind fun bt293 => ((laws_toClue.f a1_0 a1_1 a1_2).bind fun bt297 => ((spec_AddClue.f k bt293.1 bt293.2 bt297.1 bt297.2.1 bt297.2.2).bind fun bt300 => ((laws_toPuzzle.f k a0_0 l0_1).bind fun bt306 => ((laws_toClue.f a1_0 a1_1 a1_2).bind fun bt311 => ((impl_AddClue.f k bt306.1 bt306.2 bt311.1 bt311.2.1 bt311.2.2).bind fun bt314 => ((laws_eqPuzzle.f k bt314.1 bt314.2.1 bt300.1 bt300.2.1).bind fun t320 => (if t320 = true then (laws_FnExactAddClue.j0 k bt300.2.2 bt314.2.2 (bt314.2.2 != bt300.2.2) a0_0 l0_1 a1_0 a1_1 a1_2 bt300.1 bt300.2.1 bt306.1 bt306.2 bt314.1 bt314.2.1) else (laws_FnExactAddClue.j0 k bt300.2.2 bt314.2.2 true a0_0 l0_1 a1_0 a1_1 a1_2 bt300.1 bt300.2.1 bt306.1 bt306.2 bt314.1 bt314.2.1)))))))))) = some r := H
 have A3 := Aside0.mk A30
 clear A30
 have HC4 := Aside0.mk H
 clear H
 go_enter Try.func7, Try.ntmps7
 go_upto_if 20 with (first | ((with_reducible refine gate_dst (N := 2) rfl ?_); refine box_event ?hg (N := 2) ?hd (cs := #[.int .i64 a0_0, .slice A0_1 l0_1.length c0_1]) (t := 34) ?hr ?_; (case hd => rfl); (case hg => rfl); (case hr => first | (go_simp; done) | (go_simp; rfl)); intro gb290 hg w5 hbox hb; have n0_ := Aside0.mk (below_step (by repeat (first | (with_reducible first | exact HB.out | apply below_alloc | apply pw_below_drewN | apply below_drew1) | exact HB.out)) hb); have n1_ := Aside0.mk (hbox); have n2_ := Aside0.mk ((by rw [hg]; exact (below_size (by repeat (first | (with_reducible first | exact HB.out | apply below_alloc | apply pw_below_drewN | apply below_drew1) | exact HB.out))) : w.heap.size ≤ gb290)); have n3_ := n2_; clear HB; have HB := n0_; have BK290 := n1_; have GW290 := n2_; have GE290 := n3_; clear n0_ n1_ n2_ n3_; clear hb hbox hg) | ((with_reducible refine gate_dst (N := 3) rfl ?_); refine box_event ?hg (N := 3) ?hd (cs := #[.int .i64 a1_0, .int .i64 a1_1, .int .i64 a1_2]) (t := 23) ?hr ?_; (case hd => rfl); (case hg => rfl); (case hr => first | (go_simp; done) | (go_simp; rfl)); intro gb291 hg w6 hbox hb; have n0_ := Aside0.mk (blk_below (pk BK290.out) hb); have n1_ := Aside0.mk (below_step (by repeat (first | (with_reducible first | exact HB.out | apply below_alloc | apply pw_below_drewN | apply below_drew1 | refine below_set ?_ GE290.out) | exact HB.out)) hb); have n2_ := Aside0.mk (hbox); have n3_ := Aside0.mk ((by rw [hg]; exact (below_size (by repeat (first | (with_reducible first | exact HB.out | apply below_alloc | apply pw_below_drewN | apply below_drew1 | refine below_set ?_ GE290.out) | exact HB.out))) : w.heap.size ≤ gb291)); have n4_ := n3_; have n5_ := Aside0.mk ((by rw [hg]; exact Nat.ne_of_lt (blk_lt (pk BK290.out)) : gb290 ≠ gb291)); have n6_ := Aside0.mk n5_.out.symm; clear BK290; clear HB; have BK290 := n0_; have HB := n1_; have BK291 := n2_; have GW291 := n3_; have GE291 := n4_; have NB290_291 := n5_; have NB291_290 := n6_; clear n0_ n1_ n2_ n3_ n4_ n5_ n6_; clear hb hbox hg; have hnb7 := NB290_291.out; have hnc7 := NB291_290.out; have hcz8_0 : w6.cell? ⟨gb290, 0, none⟩ = some (.int .i64 a0_0) := (blk_cell BK290.out 0).trans rfl; have hcz8_1 : w6.cell? ⟨gb290, 1, none⟩ = some (.slice A0_1 l0_1.length c0_1) := (blk_cell BK290.out 1).trans rfl; have hfz8_0 := blk_frozen BK290.out 0; have hfz8_1 := blk_frozen BK290.out 1) | ((with_reducible refine gate_callee (f := 17) rfl ?_); refine goesL_ (some 18) rfl rfl Try.func17 (by kernel_rfl) rfl #[.agg #[.int .i64 a0_0, .slice A0_1 l0_1.length c0_1], .int .i64 1048576] rfl (by (try simp only [List.map_toArray, List.map_cons, List.map_nil]); first | done | rfl | (simp only [List.length_drop, List.length_take]; rfl)) ?_; (with_reducible refine (laws_szPuzzle.calls a0_0 _ _ l0_1 1048576 t292 _ ?side1 ?side2 A3.out).mono ?_); (case side1 => repeat (first | exact (Kd.C_below HR0_1.out HB.out) | (with_reducible refine Kd.C_alloc ?_ _) | (with_reducible refine Kd.C_drewN ?_ _) | (with_reducible refine Kd.C_drew ?_))); (case side2 => exact HC0_1.out); rintro e w9 ⟨rfl, hb⟩; refine ⟨_, rfl, ?_⟩; have n0_ := Aside0.mk (blk_below (pk BK290.out) hb); have n1_ := Aside0.mk (blk_below (pk BK291.out) hb); have n2_ := Aside0.mk (below_step (by repeat (first | (with_reducible first | exact HB.out | apply below_alloc | apply pw_below_drewN | apply below_drew1 | refine below_set ?_ (Aside0.out (by assumption))) | exact HB.out)) hb); clear BK290; clear BK291; clear HB; have BK290 := n0_; have BK291 := n1_; have HB := n2_; clear n0_ n1_ n2_; (try clear hb); (try clear hb2); (try clear hk); (try clear hi)))
 (try simp only [Act.put, List.setIfInBounds_toArray, List.set_cons_zero, List.set_cons_succ])
 have H := HC4.out
 clear HC4
 by_cases c10 : t292 < 0
 ·
  rw [if_pos c10] at H
  have c10b0 : decide (t292 < 0) = true := decide_eq_true c10
  clear c10
  (first | rw [c10b0] | (simp only [i64_w, i32_w]; rw [c10b0]) | skip)
  obtain rfl := Option.some.inj H
  go_wp2
  go_ret
  exact ⟨by first | rfl | (simp [errW_none, errW_some] <;> rfl) | (simp [*, errW_none, errW_some] <;> rfl), by repeat (first | (with_reducible first | exact HB.out | apply below_alloc | apply pw_below_drewN | apply below_drew1 | refine below_set ?_ (Aside0.out (by assumption))) | exact HB.out)⟩
 ·
  rw [if_neg c10] at H
  have c10b0 : decide (t292 < 0) = false := decide_eq_false c10
  clear c10
  (first | rw [c10b0] | (simp only [i64_w, i32_w]; rw [c10b0]) | skip)
  replace H := Option.bind_eq_some_iff.mp H
  obtain ⟨⟨t293, t294⟩, A110, H⟩ := H
  replace H : ((laws_toClue.f a1_0 a1_1 a1_2).bind fun bt297 => ((spec_AddClue.f k t293 t294 bt297.1 bt297.2.1 bt297.2.2).bind fun bt300 => ((laws_toPuzzle.f k a0_0 l0_1).bind fun bt306 => ((laws_toClue.f a1_0 a1_1 a1_2).bind fun bt311 => ((impl_AddClue.f k bt306.1 bt306.2 bt311.1 bt311.2.1 bt311.2.2).bind fun bt314 => ((laws_eqPuzzle.f k bt314.1 bt314.2.1 bt300.1 bt300.2.1).bind fun t320 => (if t320 = true then (laws_FnExactAddClue.j0 k bt300.2.2 bt314.2.2 (bt314.2.2 != bt300.2.2) a0_0 l0_1 a1_0 a1_1 a1_2 bt300.1 bt300.2.1 bt306.1 bt306.2 bt314.1 bt314.2.1) else (laws_FnExactAddClue.j0 k bt300.2.2 bt314.2.2 true a0_0 l0_1 a1_0 a1_1 a1_2 bt300.1 bt300.2.1 bt306.1 bt306.2 bt314.1 bt314.2.1)))))))) = some r := H
  have A11 := Aside0.mk A110
  clear A110
  replace H := Option.bind_eq_some_iff.mp H
  obtain ⟨⟨t297, t298, t299⟩, A120, H⟩ := H
  replace H : ((spec_AddClue.f k t293 t294 t297 t298 t299).bind fun bt300 => ((laws_toPuzzle.f k a0_0 l0_1).bind fun bt306 => ((laws_toClue.f a1_0 a1_1 a1_2).bind fun bt311 => ((impl_AddClue.f k bt306.1 bt306.2 bt311.1 bt311.2.1 bt311.2.2).bind fun bt314 => ((laws_eqPuzzle.f k bt314.1 bt314.2.1 bt300.1 bt300.2.1).bind fun t320 => (if t320 = true then (laws_FnExactAddClue.j0 k bt300.2.2 bt314.2.2 (bt314.2.2 != bt300.2.2) a0_0 l0_1 a1_0 a1_1 a1_2 bt300.1 bt300.2.1 bt306.1 bt306.2 bt314.1 bt314.2.1) else (laws_FnExactAddClue.j0 k bt300.2.2 bt314.2.2 true a0_0 l0_1 a1_0 a1_1 a1_2 bt300.1 bt300.2.1 bt306.1 bt306.2 bt314.1 bt314.2.1))))))) = some r := H
  have A12 := Aside0.mk A120
  clear A120
  replace H := Option.bind_eq_some_iff.mp H
  obtain ⟨⟨t300, t301, t304⟩, A130, H⟩ := H
  replace H : ((laws_toPuzzle.f k a0_0 l0_1).bind fun bt306 => ((laws_toClue.f a1_0 a1_1 a1_2).bind fun bt311 => ((impl_AddClue.f k bt306.1 bt306.2 bt311.1 bt311.2.1 bt311.2.2).bind fun bt314 => ((laws_eqPuzzle.f k bt314.1 bt314.2.1 t300 t301).bind fun t320 => (if t320 = true then (laws_FnExactAddClue.j0 k t304 bt314.2.2 (bt314.2.2 != t304) a0_0 l0_1 a1_0 a1_1 a1_2 t300 t301 bt306.1 bt306.2 bt314.1 bt314.2.1) else (laws_FnExactAddClue.j0 k t304 bt314.2.2 true a0_0 l0_1 a1_0 a1_1 a1_2 t300 t301 bt306.1 bt306.2 bt314.1 bt314.2.1)))))) = some r := H
  have A13 := Aside0.mk A130
  clear A130
  replace H := Option.bind_eq_some_iff.mp H
  obtain ⟨⟨t306, t307⟩, A140, H⟩ := H
  replace H : ((laws_toClue.f a1_0 a1_1 a1_2).bind fun bt311 => ((impl_AddClue.f k t306 t307 bt311.1 bt311.2.1 bt311.2.2).bind fun bt314 => ((laws_eqPuzzle.f k bt314.1 bt314.2.1 t300 t301).bind fun t320 => (if t320 = true then (laws_FnExactAddClue.j0 k t304 bt314.2.2 (bt314.2.2 != t304) a0_0 l0_1 a1_0 a1_1 a1_2 t300 t301 t306 t307 bt314.1 bt314.2.1) else (laws_FnExactAddClue.j0 k t304 bt314.2.2 true a0_0 l0_1 a1_0 a1_1 a1_2 t300 t301 t306 t307 bt314.1 bt314.2.1))))) = some r := H
  have A14 := Aside0.mk A140
  clear A140
  replace H := Option.bind_eq_some_iff.mp H
  obtain ⟨⟨t311, t312, t313⟩, A150, H⟩ := H
  replace H : ((impl_AddClue.f k t306 t307 t311 t312 t313).bind fun bt314 => ((laws_eqPuzzle.f k bt314.1 bt314.2.1 t300 t301).bind fun t320 => (if t320 = true then (laws_FnExactAddClue.j0 k t304 bt314.2.2 (bt314.2.2 != t304) a0_0 l0_1 a1_0 a1_1 a1_2 t300 t301 t306 t307 bt314.1 bt314.2.1) else (laws_FnExactAddClue.j0 k t304 bt314.2.2 true a0_0 l0_1 a1_0 a1_1 a1_2 t300 t301 t306 t307 bt314.1 bt314.2.1)))) = some r := H
  have A15 := Aside0.mk A150
  clear A150
  replace H := Option.bind_eq_some_iff.mp H
  obtain ⟨⟨t314, t315, t318⟩, A160, H⟩ := H
  replace H : ((laws_eqPuzzle.f k t314 t315 t300 t301).bind fun t320 => (if t320 = true then (laws_FnExactAddClue.j0 k t304 t318 (t318 != t304) a0_0 l0_1 a1_0 a1_1 a1_2 t300 t301 t306 t307 t314 t315) else (laws_FnExactAddClue.j0 k t304 t318 true a0_0 l0_1 a1_0 a1_1 a1_2 t300 t301 t306 t307 t314 t315))) = some r := H
  have A16 := Aside0.mk A160
  clear A160
  have HC17 := Aside0.mk H
  clear H
  try go_wp2
  have n0_ := Aside0.mk (blk_drew BK290.out)
  have n1_ := Aside0.mk (blk_drew BK291.out)
  have n2_ := Aside0.mk (below_drew1 HB.out)
  clear BK290 BK291 HB
  have BK290 := n0_; have BK291 := n1_; have HB := n2_
  clear n0_ n1_ n2_
  refine start_ (n := 11) (S := fun w' => w'.cell? ⟨gb290, 0, none⟩ = some (.int .i64 a0_0) ∧ w'.cell? ⟨gb290, 1, none⟩ = some (.slice A0_1 l0_1.length c0_1) ∧ w'.cell? ⟨gb291, 0, none⟩ = some (.int .i64 a1_0) ∧ w'.cell? ⟨gb291, 1, none⟩ = some (.int .i64 a1_1) ∧ w'.cell? ⟨gb291, 2, none⟩ = some (.int .i64 a1_2)) (ds := []) #[false, false, false, false, false, false, false, false, false, false, false] (by kernel_rfl) rfl rfl ⟨(blk_cell BK290.out 0).trans rfl, (blk_cell BK290.out 1).trans rfl, (blk_cell BK291.out 0).trans rfl, (blk_cell BK291.out 1).trans rfl, (blk_cell BK291.out 2).trans rfl⟩ (fun hHeld => ?_); refine with_tabW laws_FnExactAddClue.tab5 laws_FnExactAddClue.bits5 (fun HT_ HW_ => ?_)
  generalize w9.drew = w18 at BK290 BK291 HB hHeld ⊢
  refine take_ (i := 0) (N := some 22) (v := ?_) (a' := ?_) #[true, false, false, false, false, false, false, false, false, false, false] rfl rfl (take_ofW HT_.out HW_.out (by kernel_rfl)) (fun _ _ _ h => h) (Or.inl ⟨by rfl, ?_⟩) hHeld ?_ ?_
  rotate_left
  ·
   rintro w' ⟨s0, s1, s2, s3, s4⟩
   go_simp
   with_reducible rfl
  rotate_left
  ·
   simp only [Act.put, List.setIfInBounds_toArray, List.set_cons_zero, List.set_cons_succ, i64_w, i32_w]
   rfl
  refine take_ (i := 2) (N := some 24) (v := ?_) (a' := ?_) #[true, false, true, false, false, false, false, false, false, false, false] rfl rfl (take_ofW HT_.out HW_.out (by kernel_rfl)) (fun _ _ _ h => h) (Or.inl ⟨by rfl, ?_⟩) hHeld ?_ ?_
  rotate_left
  ·
   rintro w' ⟨s0, s1, s2, s3, s4⟩
   go_simp
   with_reducible rfl
  rotate_left
  ·
   simp only [Act.put, List.setIfInBounds_toArray, List.set_cons_zero, List.set_cons_succ, i64_w, i32_w]
   rfl
  refine join_ (σ := Value × Value × Nat) 2 #[true, true, true, true, true, true, true, true, true, false, false] (fun s_ => [(23, .agg #[.int .i64 t293, s_.1]), (25, .agg #[.int .i64 t297, .int .i64 t298, .int .i64 t299]), (26, .tuple #[.agg #[.int .i64 t300, s_.2.1], .bool t304]), (6, .pointer (some ⟨s_.2.2, 0, none⟩)), (21, .tuple #[.agg #[.int .i64 t300, s_.2.1], .bool t304]), (27, .agg #[.int .i64 t300, s_.2.1]), (28, .bool t304)]) (fun s_ w' => (w'.cell? ⟨gb290, 0, none⟩ = some (.int .i64 a0_0) ∧ w'.cell? ⟨gb290, 1, none⟩ = some (.slice A0_1 l0_1.length c0_1) ∧ w'.cell? ⟨gb291, 0, none⟩ = some (.int .i64 a1_0) ∧ w'.cell? ⟨gb291, 1, none⟩ = some (.int .i64 a1_1) ∧ w'.cell? ⟨gb291, 2, none⟩ = some (.int .i64 a1_2)) ∧ (Kd.R k25 25 w' w.heap.size (fun k_ => some k_ ≠ (s_.2.1 : Value).ownBlock) s_.1 t294) ∧ (Kd.R k25 25 w' w.heap.size (fun k_ => some k_ ≠ (s_.1 : Value).ownBlock) s_.2.1 t301) ∧ (w'.heap[gb290]? = some (.cells #[.int .i64 a0_0, .slice A0_1 l0_1.length c0_1] 34 (0, 0))) ∧ (w'.heap[gb291]? = some (.cells #[.int .i64 a1_0, .int .i64 a1_1, .int .i64 a1_2] 23 (0, 0))) ∧ (w'.heap[s_.2.2]? = some (.cells #[.int .i64 0, .slice none 0 0] 39 (0, 0))) ∧ (w.heap.size ≤ s_.2.2) ∧ (w.heap.size ≤ s_.2.2) ∧ (gb290 ≠ s_.2.2) ∧ (s_.2.2 ≠ gb290) ∧ (gb291 ≠ s_.2.2) ∧ (s_.2.2 ≠ gb291) ∧ (Below w.heap.size w w')) ?_ ?_
  rotate_left
  ·
   intro hCont
   refine two_ (i := 1) (j := 8) (Ni := some 23) (Nj := some 6) #[true, true, true, false, false, false, false, false, false, false, false] #[true, false, true, false, false, false, false, false, true, false, false] rfl rfl rfl rfl (two_of HT_.out (by kernel_rfl)) (by decide) (by decide) (fun K hK => ?_) (fun K hK => ?_)
   ·
    skip
    refine goes_ Try.func19 (by kernel_rfl) rfl #[.agg #[.int .i64 a0_0, .slice A0_1 l0_1.length c0_1]] (by rfl) rfl rfl (by (try simp only [List.map_toArray, List.map_cons, List.map_nil]); first | done | rfl | (simp only [List.length_drop, List.length_take]; rfl)) ?_
    with_reducible refine (laws_toPuzzle.calls k a0_0 _ _ l0_1 t293 t294 _ ?side1 ?side2 A11.out).mono ?_
    (case side1 => repeat (first | exact (Kd.C_below HR0_1.out HB.out) | (with_reducible refine Kd.C_alloc ?_ _) | (with_reducible refine Kd.C_drewN ?_ _) | (with_reducible refine Kd.C_drew ?_)))
    (case side2 => exact HC0_1.out)
    rintro e w19 ⟨v295, rfl, ho0, hb⟩
    refine ⟨_, rfl, ?_⟩
    have n0_ := Aside0.mk (Kd.R_lower ho0 (below_size (by repeat (first | (with_reducible first | exact HB.out | apply below_alloc | apply pw_below_drewN | apply below_drew1 | refine below_set ?_ (Aside0.out (by assumption))) | exact HB.out))))
    have n1_ := Aside0.mk (blk_below (pk BK290.out) hb)
    have n2_ := Aside0.mk (blk_below (pk BK291.out) hb)
    have n3_ := Aside0.mk (below_step (by repeat (first | (with_reducible first | exact HB.out | apply below_alloc | apply pw_below_drewN | apply below_drew1 | refine below_set ?_ (Aside0.out (by assumption))) | exact HB.out)) hb)
    clear BK290 BK291 HB
    have HO296 := n0_; have BK290 := n1_; have BK291 := n2_; have HB := n3_
    clear n0_ n1_ n2_ n3_
    (try clear hb)
    (try clear hb2)
    (try clear hk)
    (try clear hi)
    (try clear ho0)
    refine hK.out _ _ ⟨(blk_cell BK290.out 0).trans rfl, (blk_cell BK290.out 1).trans rfl, (blk_cell BK291.out 0).trans rfl, (blk_cell BK291.out 1).trans rfl, (blk_cell BK291.out 2).trans rfl⟩ (fun hHeld => ?_)
    clear hK K
    refine norm_ (a' := ?_) ?_ ?_
    rotate_left
    ·
     show Act.put _ (some 23) _ = _
     simp only [Act.put, List.setIfInBounds_toArray, List.set_cons_zero, List.set_cons_succ, i64_w, i32_w]
     rfl
    refine two_ (i := 3) (j := 8) (Ni := some 25) (Nj := some 6) #[true, true, true, true, false, false, false, false, false, false, false] #[true, true, true, false, false, false, false, false, true, false, false] rfl rfl rfl rfl (two_of HT_.out (by kernel_rfl)) (by decide) (by decide) (fun K hK => ?_) (fun K hK => ?_)
    ·
     skip
     refine goes_ Try.func11 (by kernel_rfl) rfl #[.agg #[.int .i64 a1_0, .int .i64 a1_1, .int .i64 a1_2]] (by rfl) rfl rfl (by (try simp only [List.map_toArray, List.map_cons, List.map_nil]); first | done | rfl | (simp only [List.length_drop, List.length_take]; rfl)) ?_
     with_reducible refine (laws_toClue.calls a1_0 a1_1 a1_2 t297 t298 t299 _ A12.out).mono ?_
     rintro e w20 ⟨rfl, hb⟩
     refine ⟨_, rfl, ?_⟩
     have n0_ := Aside0.mk (Kd.R_below (Kd.pR HO296.out) hb)
     have n1_ := Aside0.mk (blk_below (pk BK290.out) hb)
     have n2_ := Aside0.mk (blk_below (pk BK291.out) hb)
     have n3_ := Aside0.mk (below_step (by repeat (first | (with_reducible first | exact HB.out | apply below_alloc | apply pw_below_drewN | apply below_drew1 | refine below_set ?_ (Aside0.out (by assumption))) | exact HB.out)) hb)
     clear HO296 BK290 BK291 HB
     have HO296 := n0_; have BK290 := n1_; have BK291 := n2_; have HB := n3_
     clear n0_ n1_ n2_ n3_
     (try clear hb)
     (try clear hb2)
     (try clear hk)
     (try clear hi)
     obtain ⟨Ao21, co21, eo21⟩ := Kd.R_slice HO296.out
     (first | subst eo21 | (injection eo21 with f1_ f2_ f3_; have f4_ := f1_.symm; have f5_ := f3_.symm; clear f1_ f2_ f3_; subst f4_; subst f5_))
     refine hK.out _ _ ⟨(blk_cell BK290.out 0).trans rfl, (blk_cell BK290.out 1).trans rfl, (blk_cell BK291.out 0).trans rfl, (blk_cell BK291.out 1).trans rfl, (blk_cell BK291.out 2).trans rfl⟩ (fun hHeld => ?_)
     clear hK K
     refine norm_ (a' := ?_) ?_ ?_
     rotate_left
     ·
      show Act.put _ (some 25) _ = _
      simp only [Act.put, List.setIfInBounds_toArray, List.set_cons_zero, List.set_cons_succ, i64_w, i32_w]
      rfl
     refine two_ (i := 4) (j := 8) (Ni := some 26) (Nj := some 6) #[true, true, true, true, true, false, false, false, false, false, false] #[true, true, true, true, false, false, false, false, true, false, false] rfl rfl rfl rfl (two_of HT_.out (by kernel_rfl)) (by decide) (by decide) (fun K hK => ?_) (fun K hK => ?_)
     ·
      skip
      refine goes_ Try.func30 (by kernel_rfl) rfl #[.agg #[.int .i64 t293, .slice Ao21 t294.length co21], .agg #[.int .i64 t297, .int .i64 t298, .int .i64 t299]] (by rfl) rfl rfl (by (try simp only [List.map_toArray, List.map_cons, List.map_nil]); first | done | rfl | (simp only [List.length_drop, List.length_take]; rfl)) ?_
      with_reducible refine (spec_AddClue.calls k t293 _ _ t294 t297 t298 t299 t300 t301 t304 _ ?side1 ?side2 A13.out).mono ?_
      (case side1 => repeat (first | exact (Kd.R_reads' HO296.out).2.2 | (with_reducible refine Kd.C_alloc ?_ _) | (with_reducible refine Kd.C_drewN ?_ _) | (with_reducible refine Kd.C_drew ?_)))
      (case side2 => exact (Kd.R_reads' HO296.out).2.1)
      rintro e w22 ⟨v302, rfl, ho0, hb⟩
      refine ⟨_, rfl, ?_⟩
      have n0_ := Aside0.mk (Kd.R_elder' (Kd.pR HO296.out) (Kd.R_base ho0) hb)
      have n1_ := Aside0.mk (Kd.R_lower (Kd.R_new' ho0 (Kd.R_lt (Kd.pR HO296.out))) (below_size (by repeat (first | (with_reducible first | exact HB.out | apply below_alloc | apply pw_below_drewN | apply below_drew1 | refine below_set ?_ (Aside0.out (by assumption))) | exact HB.out))))
      have n2_ := Aside0.mk (blk_below (pk BK290.out) hb)
      have n3_ := Aside0.mk (blk_below (pk BK291.out) hb)
      have n4_ := Aside0.mk (below_step (by repeat (first | (with_reducible first | exact HB.out | apply below_alloc | apply pw_below_drewN | apply below_drew1 | refine below_set ?_ (Aside0.out (by assumption))) | exact HB.out)) hb)
      clear HO296 BK290 BK291 HB
      have HO296 := n0_; have HO303 := n1_; have BK290 := n2_; have BK291 := n3_; have HB := n4_
      clear n0_ n1_ n2_ n3_ n4_
      (try clear hb)
      (try clear hb2)
      (try clear hk)
      (try clear hi)
      (try clear ho0)
      refine hK.out _ _ ⟨(blk_cell BK290.out 0).trans rfl, (blk_cell BK290.out 1).trans rfl, (blk_cell BK291.out 0).trans rfl, (blk_cell BK291.out 1).trans rfl, (blk_cell BK291.out 2).trans rfl⟩ (fun hHeld => ?_)
      clear hK K
      refine norm_ (a' := ?_) ?_ ?_
      rotate_left
      ·
       show Act.put _ (some 26) _ = _
       simp only [Act.put, List.setIfInBounds_toArray, List.set_cons_zero, List.set_cons_succ, i64_w, i32_w]
       rfl
      refine pure_ (i := 5) (N := some 21) (v := ?_) (a' := ?_) #[true, true, true, true, true, true, false, false, false, false, false] rfl rfl (any_of HT_.out (by kernel_rfl)) (fun _ _ _ h => h) (Or.inl ⟨by rfl, ?_⟩) ?_ ?_
      rotate_left
      ·
       intro w'
       go_simp
       with_reducible rfl
      rotate_left
      ·
       simp only [Act.put, List.setIfInBounds_toArray, List.set_cons_zero, List.set_cons_succ, i64_w, i32_w]
       rfl
      refine pure_ (i := 6) (N := some 27) (v := ?_) (a' := ?_) #[true, true, true, true, true, true, true, false, false, false, false] rfl rfl (any_of HT_.out (by kernel_rfl)) (fun _ _ _ h => h) (Or.inl ⟨by rfl, ?_⟩) ?_ ?_
      rotate_left
      ·
       intro w'
       go_simp
       with_reducible rfl
      rotate_left
      ·
       simp only [Act.put, List.setIfInBounds_toArray, List.set_cons_zero, List.set_cons_succ, i64_w, i32_w]
       rfl
      refine pure_ (i := 7) (N := some 28) (v := ?_) (a' := ?_) #[true, true, true, true, true, true, true, true, false, false, false] rfl rfl (any_of HT_.out (by kernel_rfl)) (fun _ _ _ h => h) (Or.inl ⟨by rfl, ?_⟩) ?_ ?_
      rotate_left
      ·
       intro w'
       go_simp
       with_reducible rfl
      rotate_left
      ·
       simp only [Act.put, List.setIfInBounds_toArray, List.set_cons_zero, List.set_cons_succ, i64_w, i32_w]
       rfl
      refine one_ (i := 8) (N := some 6) #[true, true, true, true, true, true, true, true, true, false, false] rfl rfl (one_of HT_.out (by kernel_rfl)) (by decide) (fun K hK => ?_)
      refine box_step ?hg (N := 6) ?hd (cs := #[.int .i64 0, .slice none 0 0]) (t := 39) ?hr ?_; (case hd => rfl); (case hg => rfl); (case hr => first | (go_simp; done) | (go_simp; rfl))
      intro gb305 hg w23 hbox hb
      have n0_ := Aside0.mk (Kd.R_below (Kd.pR HO296.out) hb)
      have n1_ := Aside0.mk (Kd.R_below (Kd.pR HO303.out) hb)
      have n2_ := Aside0.mk (blk_below (pk BK290.out) hb)
      have n3_ := Aside0.mk (blk_below (pk BK291.out) hb)
      have n4_ := Aside0.mk (below_step (by repeat (first | (with_reducible first | exact HB.out | apply below_alloc | apply pw_below_drewN | apply below_drew1 | refine below_set ?_ (Aside0.out (by assumption))) | exact HB.out)) hb)
      have n5_ := Aside0.mk (hbox)
      have n6_ := Aside0.mk ((by rw [hg]; exact (below_size (by repeat (first | (with_reducible first | exact HB.out | apply below_alloc | apply pw_below_drewN | apply below_drew1 | refine below_set ?_ (Aside0.out (by assumption))) | exact HB.out))) : w.heap.size ≤ gb305))
      have n7_ := n6_
      have n8_ := Aside0.mk ((by rw [hg]; exact Nat.ne_of_lt (blk_lt (pk BK290.out)) : gb290 ≠ gb305))
      have n9_ := Aside0.mk n8_.out.symm
      have n10_ := Aside0.mk ((by rw [hg]; exact Nat.ne_of_lt (blk_lt (pk BK291.out)) : gb291 ≠ gb305))
      have n11_ := Aside0.mk n10_.out.symm
      clear HO296 HO303 BK290 BK291 HB
      have HO296 := n0_; have HO303 := n1_; have BK290 := n2_; have BK291 := n3_; have HB := n4_; have BK305 := n5_; have GW305 := n6_; have GE305 := n7_; have NB290_305 := n8_; have NB305_290 := n9_; have NB291_305 := n10_; have NB305_291 := n11_
      clear n0_ n1_ n2_ n3_ n4_ n5_ n6_ n7_ n8_ n9_ n10_ n11_ hb hbox hg
      refine hK.out _ _ ⟨(blk_cell BK290.out 0).trans rfl, (blk_cell BK290.out 1).trans rfl, (blk_cell BK291.out 0).trans rfl, (blk_cell BK291.out 1).trans rfl, (blk_cell BK291.out 2).trans rfl⟩ (fun hHeld => ?_)
      clear hK K
      refine norm_ (a' := ?_) ?_ ?_
      rotate_left
      ·
       show Act.put _ (some 6) _ = _
       simp only [Act.put, List.setIfInBounds_toArray, List.set_cons_zero, List.set_cons_succ, i64_w, i32_w]
       rfl
      exact norm_ (by simp only [putAll, Act.put, List.setIfInBounds_toArray, List.set_cons_zero, List.set_cons_succ]) (hCont (.slice Ao21 t294.length co21, v302, gb305) _ ⟨hHeld, (by (with_reducible repeat (first | apply Kd.R_alloc | apply Kd.R_drewN | apply Kd.R_drew)); exact Kd.R_mono HO296.out (fun _ hk => hk.2)), (by (with_reducible repeat (first | apply Kd.R_alloc | apply Kd.R_drewN | apply Kd.R_drew)); exact Kd.R_mono HO303.out (fun _ hk => hk.2)), (pk BK290.out), (pk BK291.out), (pk BK305.out), GW305.out, GE305.out, NB290_305.out, NB305_290.out, NB291_305.out, NB305_291.out, (by repeat (first | (with_reducible first | exact HB.out | apply below_alloc | apply pw_below_drewN | apply below_drew1 | refine below_set ?_ (Aside0.out (by assumption))) | exact HB.out))⟩)
     ·
      skip
      refine box_step ?hg (N := 6) ?hd (cs := #[.int .i64 0, .slice none 0 0]) (t := 39) ?hr ?_; (case hd => rfl); (case hg => rfl); (case hr => first | (go_simp; done) | (go_simp; rfl))
      intro gb305 hg w21 hbox hb
      have n0_ := Aside0.mk (Kd.R_below (Kd.pR HO296.out) hb)
      have n1_ := Aside0.mk (blk_below (pk BK290.out) hb)
      have n2_ := Aside0.mk (blk_below (pk BK291.out) hb)
      have n3_ := Aside0.mk (below_step (by repeat (first | (with_reducible first | exact HB.out | apply below_alloc | apply pw_below_drewN | apply below_drew1 | refine below_set ?_ (Aside0.out (by assumption))) | exact HB.out)) hb)
      have n4_ := Aside0.mk (hbox)
      have n5_ := Aside0.mk ((by rw [hg]; exact (below_size (by repeat (first | (with_reducible first | exact HB.out | apply below_alloc | apply pw_below_drewN | apply below_drew1 | refine below_set ?_ (Aside0.out (by assumption))) | exact HB.out))) : w.heap.size ≤ gb305))
      have n6_ := n5_
      have n7_ := Aside0.mk ((by rw [hg]; exact Nat.ne_of_lt (blk_lt (pk BK290.out)) : gb290 ≠ gb305))
      have n8_ := Aside0.mk n7_.out.symm
      have n9_ := Aside0.mk ((by rw [hg]; exact Nat.ne_of_lt (blk_lt (pk BK291.out)) : gb291 ≠ gb305))
      have n10_ := Aside0.mk n9_.out.symm
      clear HO296 BK290 BK291 HB
      have HO296 := n0_; have BK290 := n1_; have BK291 := n2_; have HB := n3_; have BK305 := n4_; have GW305 := n5_; have GE305 := n6_; have NB290_305 := n7_; have NB305_290 := n8_; have NB291_305 := n9_; have NB305_291 := n10_
      clear n0_ n1_ n2_ n3_ n4_ n5_ n6_ n7_ n8_ n9_ n10_ hb hbox hg
      obtain ⟨Ao22, co22, eo22⟩ := Kd.R_slice HO296.out
      (first | subst eo22 | (injection eo22 with f1_ f2_ f3_; have f4_ := f1_.symm; have f5_ := f3_.symm; clear f1_ f2_ f3_; subst f4_; subst f5_))
      refine hK.out _ _ ⟨(blk_cell BK290.out 0).trans rfl, (blk_cell BK290.out 1).trans rfl, (blk_cell BK291.out 0).trans rfl, (blk_cell BK291.out 1).trans rfl, (blk_cell BK291.out 2).trans rfl⟩ (fun hHeld => ?_)
      clear hK K
      refine norm_ (a' := ?_) ?_ ?_
      rotate_left
      ·
       show Act.put _ (some 6) _ = _
       simp only [Act.put, List.setIfInBounds_toArray, List.set_cons_zero, List.set_cons_succ, i64_w, i32_w]
       rfl
      refine one_ (i := 4) (N := some 26) #[true, true, true, true, true, false, false, false, true, false, false] rfl rfl (one_of HT_.out (by kernel_rfl)) (by decide) (fun K hK => ?_)
      refine goes_ Try.func30 (by kernel_rfl) rfl #[.agg #[.int .i64 t293, .slice Ao22 t294.length co22], .agg #[.int .i64 t297, .int .i64 t298, .int .i64 t299]] (by rfl) rfl rfl (by (try simp only [List.map_toArray, List.map_cons, List.map_nil]); first | done | rfl | (simp only [List.length_drop, List.length_take]; rfl)) ?_
      with_reducible refine (spec_AddClue.calls k t293 _ _ t294 t297 t298 t299 t300 t301 t304 _ ?side1 ?side2 A13.out).mono ?_
      (case side1 => repeat (first | exact (Kd.R_reads' HO296.out).2.2 | (with_reducible refine Kd.C_alloc ?_ _) | (with_reducible refine Kd.C_drewN ?_ _) | (with_reducible refine Kd.C_drew ?_)))
      (case side2 => exact (Kd.R_reads' HO296.out).2.1)
      rintro e w23 ⟨v302, rfl, ho0, hb⟩
      refine ⟨_, rfl, ?_⟩
      have n0_ := Aside0.mk (Kd.R_elder' (Kd.pR HO296.out) (Kd.R_base ho0) hb)
      have n1_ := Aside0.mk (Kd.R_lower (Kd.R_new' ho0 (Kd.R_lt (Kd.pR HO296.out))) (below_size (by repeat (first | (with_reducible first | exact HB.out | apply below_alloc | apply pw_below_drewN | apply below_drew1 | refine below_set ?_ (Aside0.out (by assumption))) | exact HB.out))))
      have n2_ := Aside0.mk (blk_below (pk BK290.out) hb)
      have n3_ := Aside0.mk (blk_below (pk BK291.out) hb)
      have n4_ := Aside0.mk (blk_below (pk BK305.out) hb)
      have n5_ := Aside0.mk (below_step (by repeat (first | (with_reducible first | exact HB.out | apply below_alloc | apply pw_below_drewN | apply below_drew1 | refine below_set ?_ (Aside0.out (by assumption))) | exact HB.out)) hb)
      clear HO296 BK290 BK291 BK305 HB
      have HO296 := n0_; have HO303 := n1_; have BK290 := n2_; have BK291 := n3_; have BK305 := n4_; have HB := n5_
      clear n0_ n1_ n2_ n3_ n4_ n5_
      (try clear hb)
      (try clear hb2)
      (try clear hk)
      (try clear hi)
      (try clear ho0)
      refine hK.out _ _ ⟨(blk_cell BK290.out 0).trans rfl, (blk_cell BK290.out 1).trans rfl, (blk_cell BK291.out 0).trans rfl, (blk_cell BK291.out 1).trans rfl, (blk_cell BK291.out 2).trans rfl⟩ (fun hHeld => ?_)
      clear hK K
      refine norm_ (a' := ?_) ?_ ?_
      rotate_left
      ·
       show Act.put _ (some 26) _ = _
       simp only [Act.put, List.setIfInBounds_toArray, List.set_cons_zero, List.set_cons_succ, i64_w, i32_w]
       rfl
      refine pure_ (i := 5) (N := some 21) (v := ?_) (a' := ?_) #[true, true, true, true, true, true, false, false, true, false, false] rfl rfl (any_of HT_.out (by kernel_rfl)) (fun _ _ _ h => h) (Or.inl ⟨by rfl, ?_⟩) ?_ ?_
      rotate_left
      ·
       intro w'
       go_simp
       with_reducible rfl
      rotate_left
      ·
       simp only [Act.put, List.setIfInBounds_toArray, List.set_cons_zero, List.set_cons_succ, i64_w, i32_w]
       rfl
      refine pure_ (i := 6) (N := some 27) (v := ?_) (a' := ?_) #[true, true, true, true, true, true, true, false, true, false, false] rfl rfl (any_of HT_.out (by kernel_rfl)) (fun _ _ _ h => h) (Or.inl ⟨by rfl, ?_⟩) ?_ ?_
      rotate_left
      ·
       intro w'
       go_simp
       with_reducible rfl
      rotate_left
      ·
       simp only [Act.put, List.setIfInBounds_toArray, List.set_cons_zero, List.set_cons_succ, i64_w, i32_w]
       rfl
      refine pure_ (i := 7) (N := some 28) (v := ?_) (a' := ?_) #[true, true, true, true, true, true, true, true, true, false, false] rfl rfl (any_of HT_.out (by kernel_rfl)) (fun _ _ _ h => h) (Or.inl ⟨by rfl, ?_⟩) ?_ ?_
      rotate_left
      ·
       intro w'
       go_simp
       with_reducible rfl
      rotate_left
      ·
       simp only [Act.put, List.setIfInBounds_toArray, List.set_cons_zero, List.set_cons_succ, i64_w, i32_w]
       rfl
      exact norm_ (by simp only [putAll, Act.put, List.setIfInBounds_toArray, List.set_cons_zero, List.set_cons_succ]) (hCont (.slice Ao22 t294.length co22, v302, gb305) _ ⟨hHeld, (by (with_reducible repeat (first | apply Kd.R_alloc | apply Kd.R_drewN | apply Kd.R_drew)); exact Kd.R_mono HO296.out (fun _ hk => hk.2)), (by (with_reducible repeat (first | apply Kd.R_alloc | apply Kd.R_drewN | apply Kd.R_drew)); exact Kd.R_mono HO303.out (fun _ hk => hk.2)), (pk BK290.out), (pk BK291.out), (pk BK305.out), GW305.out, GE305.out, NB290_305.out, NB305_290.out, NB291_305.out, NB305_291.out, (by repeat (first | (with_reducible first | exact HB.out | apply below_alloc | apply pw_below_drewN | apply below_drew1 | refine below_set ?_ (Aside0.out (by assumption))) | exact HB.out))⟩)
    ·
     skip
     refine box_step ?hg (N := 6) ?hd (cs := #[.int .i64 0, .slice none 0 0]) (t := 39) ?hr ?_; (case hd => rfl); (case hg => rfl); (case hr => first | (go_simp; done) | (go_simp; rfl))
     intro gb305 hg w20 hbox hb
     have n0_ := Aside0.mk (Kd.R_below (Kd.pR HO296.out) hb)
     have n1_ := Aside0.mk (blk_below (pk BK290.out) hb)
     have n2_ := Aside0.mk (blk_below (pk BK291.out) hb)
     have n3_ := Aside0.mk (below_step (by repeat (first | (with_reducible first | exact HB.out | apply below_alloc | apply pw_below_drewN | apply below_drew1 | refine below_set ?_ (Aside0.out (by assumption))) | exact HB.out)) hb)
     have n4_ := Aside0.mk (hbox)
     have n5_ := Aside0.mk ((by rw [hg]; exact (below_size (by repeat (first | (with_reducible first | exact HB.out | apply below_alloc | apply pw_below_drewN | apply below_drew1 | refine below_set ?_ (Aside0.out (by assumption))) | exact HB.out))) : w.heap.size ≤ gb305))
     have n6_ := n5_
     have n7_ := Aside0.mk ((by rw [hg]; exact Nat.ne_of_lt (blk_lt (pk BK290.out)) : gb290 ≠ gb305))
     have n8_ := Aside0.mk n7_.out.symm
     have n9_ := Aside0.mk ((by rw [hg]; exact Nat.ne_of_lt (blk_lt (pk BK291.out)) : gb291 ≠ gb305))
     have n10_ := Aside0.mk n9_.out.symm
     clear HO296 BK290 BK291 HB
     have HO296 := n0_; have BK290 := n1_; have BK291 := n2_; have HB := n3_; have BK305 := n4_; have GW305 := n5_; have GE305 := n6_; have NB290_305 := n7_; have NB305_290 := n8_; have NB291_305 := n9_; have NB305_291 := n10_
     clear n0_ n1_ n2_ n3_ n4_ n5_ n6_ n7_ n8_ n9_ n10_ hb hbox hg
     refine hK.out _ _ ⟨(blk_cell BK290.out 0).trans rfl, (blk_cell BK290.out 1).trans rfl, (blk_cell BK291.out 0).trans rfl, (blk_cell BK291.out 1).trans rfl, (blk_cell BK291.out 2).trans rfl⟩ (fun hHeld => ?_)
     clear hK K
     refine norm_ (a' := ?_) ?_ ?_
     rotate_left
     ·
      show Act.put _ (some 6) _ = _
      simp only [Act.put, List.setIfInBounds_toArray, List.set_cons_zero, List.set_cons_succ, i64_w, i32_w]
      rfl
     refine one_ (i := 3) (N := some 25) #[true, true, true, true, false, false, false, false, true, false, false] rfl rfl (one_of HT_.out (by kernel_rfl)) (by decide) (fun K hK => ?_)
     refine goes_ Try.func11 (by kernel_rfl) rfl #[.agg #[.int .i64 a1_0, .int .i64 a1_1, .int .i64 a1_2]] (by rfl) rfl rfl (by (try simp only [List.map_toArray, List.map_cons, List.map_nil]); first | done | rfl | (simp only [List.length_drop, List.length_take]; rfl)) ?_
     with_reducible refine (laws_toClue.calls a1_0 a1_1 a1_2 t297 t298 t299 _ A12.out).mono ?_
     rintro e w21 ⟨rfl, hb⟩
     refine ⟨_, rfl, ?_⟩
     have n0_ := Aside0.mk (Kd.R_below (Kd.pR HO296.out) hb)
     have n1_ := Aside0.mk (blk_below (pk BK290.out) hb)
     have n2_ := Aside0.mk (blk_below (pk BK291.out) hb)
     have n3_ := Aside0.mk (blk_below (pk BK305.out) hb)
     have n4_ := Aside0.mk (below_step (by repeat (first | (with_reducible first | exact HB.out | apply below_alloc | apply pw_below_drewN | apply below_drew1 | refine below_set ?_ (Aside0.out (by assumption))) | exact HB.out)) hb)
     clear HO296 BK290 BK291 BK305 HB
     have HO296 := n0_; have BK290 := n1_; have BK291 := n2_; have BK305 := n3_; have HB := n4_
     clear n0_ n1_ n2_ n3_ n4_
     (try clear hb)
     (try clear hb2)
     (try clear hk)
     (try clear hi)
     obtain ⟨Ao22, co22, eo22⟩ := Kd.R_slice HO296.out
     (first | subst eo22 | (injection eo22 with f1_ f2_ f3_; have f4_ := f1_.symm; have f5_ := f3_.symm; clear f1_ f2_ f3_; subst f4_; subst f5_))
     refine hK.out _ _ ⟨(blk_cell BK290.out 0).trans rfl, (blk_cell BK290.out 1).trans rfl, (blk_cell BK291.out 0).trans rfl, (blk_cell BK291.out 1).trans rfl, (blk_cell BK291.out 2).trans rfl⟩ (fun hHeld => ?_)
     clear hK K
     refine norm_ (a' := ?_) ?_ ?_
     rotate_left
     ·
      show Act.put _ (some 25) _ = _
      simp only [Act.put, List.setIfInBounds_toArray, List.set_cons_zero, List.set_cons_succ, i64_w, i32_w]
      rfl
     refine one_ (i := 4) (N := some 26) #[true, true, true, true, true, false, false, false, true, false, false] rfl rfl (one_of HT_.out (by kernel_rfl)) (by decide) (fun K hK => ?_)
     refine goes_ Try.func30 (by kernel_rfl) rfl #[.agg #[.int .i64 t293, .slice Ao22 t294.length co22], .agg #[.int .i64 t297, .int .i64 t298, .int .i64 t299]] (by rfl) rfl rfl (by (try simp only [List.map_toArray, List.map_cons, List.map_nil]); first | done | rfl | (simp only [List.length_drop, List.length_take]; rfl)) ?_
     with_reducible refine (spec_AddClue.calls k t293 _ _ t294 t297 t298 t299 t300 t301 t304 _ ?side1 ?side2 A13.out).mono ?_
     (case side1 => repeat (first | exact (Kd.R_reads' HO296.out).2.2 | (with_reducible refine Kd.C_alloc ?_ _) | (with_reducible refine Kd.C_drewN ?_ _) | (with_reducible refine Kd.C_drew ?_)))
     (case side2 => exact (Kd.R_reads' HO296.out).2.1)
     rintro e w23 ⟨v302, rfl, ho0, hb⟩
     refine ⟨_, rfl, ?_⟩
     have n0_ := Aside0.mk (Kd.R_elder' (Kd.pR HO296.out) (Kd.R_base ho0) hb)
     have n1_ := Aside0.mk (Kd.R_lower (Kd.R_new' ho0 (Kd.R_lt (Kd.pR HO296.out))) (below_size (by repeat (first | (with_reducible first | exact HB.out | apply below_alloc | apply pw_below_drewN | apply below_drew1 | refine below_set ?_ (Aside0.out (by assumption))) | exact HB.out))))
     have n2_ := Aside0.mk (blk_below (pk BK290.out) hb)
     have n3_ := Aside0.mk (blk_below (pk BK291.out) hb)
     have n4_ := Aside0.mk (blk_below (pk BK305.out) hb)
     have n5_ := Aside0.mk (below_step (by repeat (first | (with_reducible first | exact HB.out | apply below_alloc | apply pw_below_drewN | apply below_drew1 | refine below_set ?_ (Aside0.out (by assumption))) | exact HB.out)) hb)
     clear HO296 BK290 BK291 BK305 HB
     have HO296 := n0_; have HO303 := n1_; have BK290 := n2_; have BK291 := n3_; have BK305 := n4_; have HB := n5_
     clear n0_ n1_ n2_ n3_ n4_ n5_
     (try clear hb)
     (try clear hb2)
     (try clear hk)
     (try clear hi)
     (try clear ho0)
     refine hK.out _ _ ⟨(blk_cell BK290.out 0).trans rfl, (blk_cell BK290.out 1).trans rfl, (blk_cell BK291.out 0).trans rfl, (blk_cell BK291.out 1).trans rfl, (blk_cell BK291.out 2).trans rfl⟩ (fun hHeld => ?_)
     clear hK K
     refine norm_ (a' := ?_) ?_ ?_
     rotate_left
     ·
      show Act.put _ (some 26) _ = _
      simp only [Act.put, List.setIfInBounds_toArray, List.set_cons_zero, List.set_cons_succ, i64_w, i32_w]
      rfl
     refine pure_ (i := 5) (N := some 21) (v := ?_) (a' := ?_) #[true, true, true, true, true, true, false, false, true, false, false] rfl rfl (any_of HT_.out (by kernel_rfl)) (fun _ _ _ h => h) (Or.inl ⟨by rfl, ?_⟩) ?_ ?_
     rotate_left
     ·
      intro w'
      go_simp
      with_reducible rfl
     rotate_left
     ·
      simp only [Act.put, List.setIfInBounds_toArray, List.set_cons_zero, List.set_cons_succ, i64_w, i32_w]
      rfl
     refine pure_ (i := 6) (N := some 27) (v := ?_) (a' := ?_) #[true, true, true, true, true, true, true, false, true, false, false] rfl rfl (any_of HT_.out (by kernel_rfl)) (fun _ _ _ h => h) (Or.inl ⟨by rfl, ?_⟩) ?_ ?_
     rotate_left
     ·
      intro w'
      go_simp
      with_reducible rfl
     rotate_left
     ·
      simp only [Act.put, List.setIfInBounds_toArray, List.set_cons_zero, List.set_cons_succ, i64_w, i32_w]
      rfl
     refine pure_ (i := 7) (N := some 28) (v := ?_) (a' := ?_) #[true, true, true, true, true, true, true, true, true, false, false] rfl rfl (any_of HT_.out (by kernel_rfl)) (fun _ _ _ h => h) (Or.inl ⟨by rfl, ?_⟩) ?_ ?_
     rotate_left
     ·
      intro w'
      go_simp
      with_reducible rfl
     rotate_left
     ·
      simp only [Act.put, List.setIfInBounds_toArray, List.set_cons_zero, List.set_cons_succ, i64_w, i32_w]
      rfl
     exact norm_ (by simp only [putAll, Act.put, List.setIfInBounds_toArray, List.set_cons_zero, List.set_cons_succ]) (hCont (.slice Ao22 t294.length co22, v302, gb305) _ ⟨hHeld, (by (with_reducible repeat (first | apply Kd.R_alloc | apply Kd.R_drewN | apply Kd.R_drew)); exact Kd.R_mono HO296.out (fun _ hk => hk.2)), (by (with_reducible repeat (first | apply Kd.R_alloc | apply Kd.R_drewN | apply Kd.R_drew)); exact Kd.R_mono HO303.out (fun _ hk => hk.2)), (pk BK290.out), (pk BK291.out), (pk BK305.out), GW305.out, GE305.out, NB290_305.out, NB305_290.out, NB291_305.out, NB305_291.out, (by repeat (first | (with_reducible first | exact HB.out | apply below_alloc | apply pw_below_drewN | apply below_drew1 | refine below_set ?_ (Aside0.out (by assumption))) | exact HB.out))⟩)
   ·
    skip
    refine box_step ?hg (N := 6) ?hd (cs := #[.int .i64 0, .slice none 0 0]) (t := 39) ?hr ?_; (case hd => rfl); (case hg => rfl); (case hr => first | (go_simp; done) | (go_simp; rfl))
    intro gb305 hg w19 hbox hb
    have n0_ := Aside0.mk (blk_below (pk BK290.out) hb)
    have n1_ := Aside0.mk (blk_below (pk BK291.out) hb)
    have n2_ := Aside0.mk (below_step (by repeat (first | (with_reducible first | exact HB.out | apply below_alloc | apply pw_below_drewN | apply below_drew1 | refine below_set ?_ (Aside0.out (by assumption))) | exact HB.out)) hb)
    have n3_ := Aside0.mk (hbox)
    have n4_ := Aside0.mk ((by rw [hg]; exact (below_size (by repeat (first | (with_reducible first | exact HB.out | apply below_alloc | apply pw_below_drewN | apply below_drew1 | refine below_set ?_ (Aside0.out (by assumption))) | exact HB.out))) : w.heap.size ≤ gb305))
    have n5_ := n4_
    have n6_ := Aside0.mk ((by rw [hg]; exact Nat.ne_of_lt (blk_lt (pk BK290.out)) : gb290 ≠ gb305))
    have n7_ := Aside0.mk n6_.out.symm
    have n8_ := Aside0.mk ((by rw [hg]; exact Nat.ne_of_lt (blk_lt (pk BK291.out)) : gb291 ≠ gb305))
    have n9_ := Aside0.mk n8_.out.symm
    clear BK290 BK291 HB
    have BK290 := n0_; have BK291 := n1_; have HB := n2_; have BK305 := n3_; have GW305 := n4_; have GE305 := n5_; have NB290_305 := n6_; have NB305_290 := n7_; have NB291_305 := n8_; have NB305_291 := n9_
    clear n0_ n1_ n2_ n3_ n4_ n5_ n6_ n7_ n8_ n9_ hb hbox hg
    refine hK.out _ _ ⟨(blk_cell BK290.out 0).trans rfl, (blk_cell BK290.out 1).trans rfl, (blk_cell BK291.out 0).trans rfl, (blk_cell BK291.out 1).trans rfl, (blk_cell BK291.out 2).trans rfl⟩ (fun hHeld => ?_)
    clear hK K
    refine norm_ (a' := ?_) ?_ ?_
    rotate_left
    ·
     show Act.put _ (some 6) _ = _
     simp only [Act.put, List.setIfInBounds_toArray, List.set_cons_zero, List.set_cons_succ, i64_w, i32_w]
     rfl
    refine one_ (i := 1) (N := some 23) #[true, true, true, false, false, false, false, false, true, false, false] rfl rfl (one_of HT_.out (by kernel_rfl)) (by decide) (fun K hK => ?_)
    refine goes_ Try.func19 (by kernel_rfl) rfl #[.agg #[.int .i64 a0_0, .slice A0_1 l0_1.length c0_1]] (by rfl) rfl rfl (by (try simp only [List.map_toArray, List.map_cons, List.map_nil]); first | done | rfl | (simp only [List.length_drop, List.length_take]; rfl)) ?_
    with_reducible refine (laws_toPuzzle.calls k a0_0 _ _ l0_1 t293 t294 _ ?side1 ?side2 A11.out).mono ?_
    (case side1 => repeat (first | exact (Kd.C_below HR0_1.out HB.out) | (with_reducible refine Kd.C_alloc ?_ _) | (with_reducible refine Kd.C_drewN ?_ _) | (with_reducible refine Kd.C_drew ?_)))
    (case side2 => exact HC0_1.out)
    rintro e w20 ⟨v295, rfl, ho0, hb⟩
    refine ⟨_, rfl, ?_⟩
    have n0_ := Aside0.mk (Kd.R_lower ho0 (below_size (by repeat (first | (with_reducible first | exact HB.out | apply below_alloc | apply pw_below_drewN | apply below_drew1 | refine below_set ?_ (Aside0.out (by assumption))) | exact HB.out))))
    have n1_ := Aside0.mk (blk_below (pk BK290.out) hb)
    have n2_ := Aside0.mk (blk_below (pk BK291.out) hb)
    have n3_ := Aside0.mk (blk_below (pk BK305.out) hb)
    have n4_ := Aside0.mk (below_step (by repeat (first | (with_reducible first | exact HB.out | apply below_alloc | apply pw_below_drewN | apply below_drew1 | refine below_set ?_ (Aside0.out (by assumption))) | exact HB.out)) hb)
    clear BK290 BK291 BK305 HB
    have HO296 := n0_; have BK290 := n1_; have BK291 := n2_; have BK305 := n3_; have HB := n4_
    clear n0_ n1_ n2_ n3_ n4_
    (try clear hb)
    (try clear hb2)
    (try clear hk)
    (try clear hi)
    (try clear ho0)
    refine hK.out _ _ ⟨(blk_cell BK290.out 0).trans rfl, (blk_cell BK290.out 1).trans rfl, (blk_cell BK291.out 0).trans rfl, (blk_cell BK291.out 1).trans rfl, (blk_cell BK291.out 2).trans rfl⟩ (fun hHeld => ?_)
    clear hK K
    refine norm_ (a' := ?_) ?_ ?_
    rotate_left
    ·
     show Act.put _ (some 23) _ = _
     simp only [Act.put, List.setIfInBounds_toArray, List.set_cons_zero, List.set_cons_succ, i64_w, i32_w]
     rfl
    refine one_ (i := 3) (N := some 25) #[true, true, true, true, false, false, false, false, true, false, false] rfl rfl (one_of HT_.out (by kernel_rfl)) (by decide) (fun K hK => ?_)
    refine goes_ Try.func11 (by kernel_rfl) rfl #[.agg #[.int .i64 a1_0, .int .i64 a1_1, .int .i64 a1_2]] (by rfl) rfl rfl (by (try simp only [List.map_toArray, List.map_cons, List.map_nil]); first | done | rfl | (simp only [List.length_drop, List.length_take]; rfl)) ?_
    with_reducible refine (laws_toClue.calls a1_0 a1_1 a1_2 t297 t298 t299 _ A12.out).mono ?_
    rintro e w21 ⟨rfl, hb⟩
    refine ⟨_, rfl, ?_⟩
    have n0_ := Aside0.mk (Kd.R_below (Kd.pR HO296.out) hb)
    have n1_ := Aside0.mk (blk_below (pk BK290.out) hb)
    have n2_ := Aside0.mk (blk_below (pk BK291.out) hb)
    have n3_ := Aside0.mk (blk_below (pk BK305.out) hb)
    have n4_ := Aside0.mk (below_step (by repeat (first | (with_reducible first | exact HB.out | apply below_alloc | apply pw_below_drewN | apply below_drew1 | refine below_set ?_ (Aside0.out (by assumption))) | exact HB.out)) hb)
    clear HO296 BK290 BK291 BK305 HB
    have HO296 := n0_; have BK290 := n1_; have BK291 := n2_; have BK305 := n3_; have HB := n4_
    clear n0_ n1_ n2_ n3_ n4_
    (try clear hb)
    (try clear hb2)
    (try clear hk)
    (try clear hi)
    obtain ⟨Ao22, co22, eo22⟩ := Kd.R_slice HO296.out
    (first | subst eo22 | (injection eo22 with f1_ f2_ f3_; have f4_ := f1_.symm; have f5_ := f3_.symm; clear f1_ f2_ f3_; subst f4_; subst f5_))
    refine hK.out _ _ ⟨(blk_cell BK290.out 0).trans rfl, (blk_cell BK290.out 1).trans rfl, (blk_cell BK291.out 0).trans rfl, (blk_cell BK291.out 1).trans rfl, (blk_cell BK291.out 2).trans rfl⟩ (fun hHeld => ?_)
    clear hK K
    refine norm_ (a' := ?_) ?_ ?_
    rotate_left
    ·
     show Act.put _ (some 25) _ = _
     simp only [Act.put, List.setIfInBounds_toArray, List.set_cons_zero, List.set_cons_succ, i64_w, i32_w]
     rfl
    refine one_ (i := 4) (N := some 26) #[true, true, true, true, true, false, false, false, true, false, false] rfl rfl (one_of HT_.out (by kernel_rfl)) (by decide) (fun K hK => ?_)
    refine goes_ Try.func30 (by kernel_rfl) rfl #[.agg #[.int .i64 t293, .slice Ao22 t294.length co22], .agg #[.int .i64 t297, .int .i64 t298, .int .i64 t299]] (by rfl) rfl rfl (by (try simp only [List.map_toArray, List.map_cons, List.map_nil]); first | done | rfl | (simp only [List.length_drop, List.length_take]; rfl)) ?_
    with_reducible refine (spec_AddClue.calls k t293 _ _ t294 t297 t298 t299 t300 t301 t304 _ ?side1 ?side2 A13.out).mono ?_
    (case side1 => repeat (first | exact (Kd.R_reads' HO296.out).2.2 | (with_reducible refine Kd.C_alloc ?_ _) | (with_reducible refine Kd.C_drewN ?_ _) | (with_reducible refine Kd.C_drew ?_)))
    (case side2 => exact (Kd.R_reads' HO296.out).2.1)
    rintro e w23 ⟨v302, rfl, ho0, hb⟩
    refine ⟨_, rfl, ?_⟩
    have n0_ := Aside0.mk (Kd.R_elder' (Kd.pR HO296.out) (Kd.R_base ho0) hb)
    have n1_ := Aside0.mk (Kd.R_lower (Kd.R_new' ho0 (Kd.R_lt (Kd.pR HO296.out))) (below_size (by repeat (first | (with_reducible first | exact HB.out | apply below_alloc | apply pw_below_drewN | apply below_drew1 | refine below_set ?_ (Aside0.out (by assumption))) | exact HB.out))))
    have n2_ := Aside0.mk (blk_below (pk BK290.out) hb)
    have n3_ := Aside0.mk (blk_below (pk BK291.out) hb)
    have n4_ := Aside0.mk (blk_below (pk BK305.out) hb)
    have n5_ := Aside0.mk (below_step (by repeat (first | (with_reducible first | exact HB.out | apply below_alloc | apply pw_below_drewN | apply below_drew1 | refine below_set ?_ (Aside0.out (by assumption))) | exact HB.out)) hb)
    clear HO296 BK290 BK291 BK305 HB
    have HO296 := n0_; have HO303 := n1_; have BK290 := n2_; have BK291 := n3_; have BK305 := n4_; have HB := n5_
    clear n0_ n1_ n2_ n3_ n4_ n5_
    (try clear hb)
    (try clear hb2)
    (try clear hk)
    (try clear hi)
    (try clear ho0)
    refine hK.out _ _ ⟨(blk_cell BK290.out 0).trans rfl, (blk_cell BK290.out 1).trans rfl, (blk_cell BK291.out 0).trans rfl, (blk_cell BK291.out 1).trans rfl, (blk_cell BK291.out 2).trans rfl⟩ (fun hHeld => ?_)
    clear hK K
    refine norm_ (a' := ?_) ?_ ?_
    rotate_left
    ·
     show Act.put _ (some 26) _ = _
     simp only [Act.put, List.setIfInBounds_toArray, List.set_cons_zero, List.set_cons_succ, i64_w, i32_w]
     rfl
    refine pure_ (i := 5) (N := some 21) (v := ?_) (a' := ?_) #[true, true, true, true, true, true, false, false, true, false, false] rfl rfl (any_of HT_.out (by kernel_rfl)) (fun _ _ _ h => h) (Or.inl ⟨by rfl, ?_⟩) ?_ ?_
    rotate_left
    ·
     intro w'
     go_simp
     with_reducible rfl
    rotate_left
    ·
     simp only [Act.put, List.setIfInBounds_toArray, List.set_cons_zero, List.set_cons_succ, i64_w, i32_w]
     rfl
    refine pure_ (i := 6) (N := some 27) (v := ?_) (a' := ?_) #[true, true, true, true, true, true, true, false, true, false, false] rfl rfl (any_of HT_.out (by kernel_rfl)) (fun _ _ _ h => h) (Or.inl ⟨by rfl, ?_⟩) ?_ ?_
    rotate_left
    ·
     intro w'
     go_simp
     with_reducible rfl
    rotate_left
    ·
     simp only [Act.put, List.setIfInBounds_toArray, List.set_cons_zero, List.set_cons_succ, i64_w, i32_w]
     rfl
    refine pure_ (i := 7) (N := some 28) (v := ?_) (a' := ?_) #[true, true, true, true, true, true, true, true, true, false, false] rfl rfl (any_of HT_.out (by kernel_rfl)) (fun _ _ _ h => h) (Or.inl ⟨by rfl, ?_⟩) ?_ ?_
    rotate_left
    ·
     intro w'
     go_simp
     with_reducible rfl
    rotate_left
    ·
     simp only [Act.put, List.setIfInBounds_toArray, List.set_cons_zero, List.set_cons_succ, i64_w, i32_w]
     rfl
    exact norm_ (by simp only [putAll, Act.put, List.setIfInBounds_toArray, List.set_cons_zero, List.set_cons_succ]) (hCont (.slice Ao22 t294.length co22, v302, gb305) _ ⟨hHeld, (by (with_reducible repeat (first | apply Kd.R_alloc | apply Kd.R_drewN | apply Kd.R_drew)); exact Kd.R_mono HO296.out (fun _ hk => hk.2)), (by (with_reducible repeat (first | apply Kd.R_alloc | apply Kd.R_drewN | apply Kd.R_drew)); exact Kd.R_mono HO303.out (fun _ hk => hk.2)), (pk BK290.out), (pk BK291.out), (pk BK305.out), GW305.out, GE305.out, NB290_305.out, NB305_290.out, NB291_305.out, NB305_291.out, (by repeat (first | (with_reducible first | exact HB.out | apply below_alloc | apply pw_below_drewN | apply below_drew1 | refine below_set ?_ (Aside0.out (by assumption))) | exact HB.out))⟩)
  rintro ⟨v295, v302, gb305⟩ w24 ⟨hS_, h0_, h1_, h2_, h3_, h4_, h5_, h6_, h7_, h8_, h9_, h10_, h11_⟩
  have n0_ : Aside0 (Kd.R k25 25 w24 w.heap.size (fun k_ => some k_ ≠ (v302 : Value).ownBlock) v295 t294) := ⟨h0_⟩
  have n1_ : Aside0 (Kd.R k25 25 w24 w.heap.size (fun k_ => some k_ ≠ (v295 : Value).ownBlock) v302 t301) := ⟨h1_⟩
  have n2_ : Aside0 (w24.heap[gb290]? = some (.cells #[.int .i64 a0_0, .slice A0_1 l0_1.length c0_1] 34 (0, 0))) := ⟨h2_⟩
  have n3_ : Aside0 (w24.heap[gb291]? = some (.cells #[.int .i64 a1_0, .int .i64 a1_1, .int .i64 a1_2] 23 (0, 0))) := ⟨h3_⟩
  have n4_ : Aside0 (w24.heap[gb305]? = some (.cells #[.int .i64 0, .slice none 0 0] 39 (0, 0))) := ⟨h4_⟩
  have n5_ : Aside0 (w.heap.size ≤ gb305) := ⟨h5_⟩
  have n6_ : Aside0 (w.heap.size ≤ gb305) := ⟨h6_⟩
  have n7_ : Aside0 (gb290 ≠ gb305) := ⟨h7_⟩
  have n8_ : Aside0 (gb305 ≠ gb290) := ⟨h8_⟩
  have n9_ : Aside0 (gb291 ≠ gb305) := ⟨h9_⟩
  have n10_ : Aside0 (gb305 ≠ gb291) := ⟨h10_⟩
  have n11_ : Aside0 (Below w.heap.size w w24) := ⟨h11_⟩
  clear BK290 BK291 HB h0_ h1_ h2_ h3_ h4_ h5_ h6_ h7_ h8_ h9_ h10_ h11_
  have HO296 := n0_; have HO303 := n1_; have BK290 := n2_; have BK291 := n3_; have BK305 := n4_; have GW305 := n5_; have GE305 := n6_; have NB290_305 := n7_; have NB305_290 := n8_; have NB291_305 := n9_; have NB305_291 := n10_; have HB := n11_
  clear n0_ n1_ n2_ n3_ n4_ n5_ n6_ n7_ n8_ n9_ n10_ n11_
  have hHeld : w24.cell? ⟨gb290, 0, none⟩ = some (.int .i64 a0_0) ∧ w24.cell? ⟨gb290, 1, none⟩ = some (.slice A0_1 l0_1.length c0_1) ∧ w24.cell? ⟨gb291, 0, none⟩ = some (.int .i64 a1_0) ∧ w24.cell? ⟨gb291, 1, none⟩ = some (.int .i64 a1_1) ∧ w24.cell? ⟨gb291, 2, none⟩ = some (.int .i64 a1_2) := hS_
  obtain ⟨Ao26, co26, eo26⟩ := Kd.R_slice HO303.out
  (first | subst eo26 | (injection eo26 with f1_ f2_ f3_; have f4_ := f1_.symm; have f5_ := f3_.symm; clear f1_ f2_ f3_; subst f4_; subst f5_))
  refine norm_ (a' := ?_) ?_ ?_
  rotate_left
  ·
   simp only [putAll, Act.put, List.setIfInBounds_toArray, List.set_cons_zero, List.set_cons_succ]
   rfl
  refine one_ (i := 9) (N := none) #[true, true, true, true, true, true, true, true, true, true, false] rfl rfl (one_of HT_.out (by kernel_rfl)) (by decide) (fun K hK => ?_)
  have hs25 : w24.cell? ⟨gb305, 0, none⟩ = some (.int .i64 0) := (blk_cell BK305.out 0).trans rfl
  have hfs25 := blk_frozen BK305.out 0
  have hns25_0 := NB290_305.out
  have hns25_1 := NB291_305.out
  have hms25_0 := NB305_290.out
  have hms25_1 := NB305_291.out
  have hs27 : w24.cell? ⟨gb305, 1, none⟩ = some (.slice none 0 0) := (blk_cell BK305.out 1).trans rfl
  have hfs27 := blk_frozen BK305.out 1
  have hns27_0 := NB290_305.out
  have hns27_1 := NB291_305.out
  have hms27_0 := NB305_290.out
  have hms27_1 := NB305_291.out
  refine skip_ (w1 := ?_) (by rfl) rfl ?_ ?_
  rotate_left
  ·
   go_simp
   rfl
  refine hK.out _ _ ⟨((cell_far (p := ⟨gb305, _, none⟩) NB290_305.out _).trans (((cell_far (p := ⟨gb305, _, none⟩) NB290_305.out _).trans (hHeld.1)))), ((cell_far (p := ⟨gb305, _, none⟩) NB290_305.out _).trans (((cell_far (p := ⟨gb305, _, none⟩) NB290_305.out _).trans (hHeld.2.1)))), ((cell_far (p := ⟨gb305, _, none⟩) NB291_305.out _).trans (((cell_far (p := ⟨gb305, _, none⟩) NB291_305.out _).trans (hHeld.2.2.1)))), ((cell_far (p := ⟨gb305, _, none⟩) NB291_305.out _).trans (((cell_far (p := ⟨gb305, _, none⟩) NB291_305.out _).trans (hHeld.2.2.2.1)))), ((cell_far (p := ⟨gb305, _, none⟩) NB291_305.out _).trans (((cell_far (p := ⟨gb305, _, none⟩) NB291_305.out _).trans (hHeld.2.2.2.2))))⟩ (fun hHeld => ?_)
  clear hK K
  refine pure_ (i := 10) (N := some 7) (v := ?_) (a' := ?_) #[true, true, true, true, true, true, true, true, true, true, true] rfl rfl (any_of HT_.out (by kernel_rfl)) (fun _ _ _ h => h) (Or.inl ⟨by rfl, ?_⟩) ?_ ?_
  rotate_left
  ·
   intro w'
   go_simp
   with_reducible rfl
  rotate_left
  ·
   simp only [Act.put, List.setIfInBounds_toArray, List.set_cons_zero, List.set_cons_succ, i64_w, i32_w]
   rfl
  refine done_ (done_of HT_.out (by kernel_rfl)) ?_
  have hnb28 := NB290_291.out
  have hnc28 := NB291_290.out
  have hnb29 := NB290_305.out
  have hnc29 := NB305_290.out
  have hcz30_0 : w24.cell? ⟨gb290, 0, none⟩ = some (.int .i64 a0_0) := (blk_cell BK290.out 0).trans rfl
  have hcz30_1 : w24.cell? ⟨gb290, 1, none⟩ = some (.slice A0_1 l0_1.length c0_1) := (blk_cell BK290.out 1).trans rfl
  have hfz30_0 := blk_frozen BK290.out 0
  have hfz30_1 := blk_frozen BK290.out 1
  try go_wp2_with (first | ((with_reducible refine gate_callee (f := 19) rfl ?_); refine goesL_ (some 30) rfl rfl Try.func19 (by kernel_rfl) rfl #[.agg #[.int .i64 a0_0, .slice A0_1 l0_1.length c0_1]] rfl (by (try simp only [List.map_toArray, List.map_cons, List.map_nil]); first | done | rfl | (simp only [List.length_drop, List.length_take]; rfl)) ?_; (with_reducible refine (laws_toPuzzle.calls k a0_0 _ _ l0_1 t306 t307 _ ?side1 ?side2 A14.out).mono ?_); (case side1 => exact Kd.C_below HR0_1.out (by repeat (first | (with_reducible first | exact HB.out | apply below_alloc | apply pw_below_drewN | apply below_drew1 | refine below_set ?_ (Aside0.out (by assumption))) | exact HB.out))); (case side2 => exact HC0_1.out); rintro e w31 ⟨v308, rfl, ho0, hb⟩; refine ⟨_, rfl, ?_⟩; have n0_ := Aside0.mk (Kd.R_elder' (by (with_reducible repeat (first | apply Kd.R_alloc | apply Kd.R_drewN | apply Kd.R_drew)); exact (Kd.R_mono (Kd.R_far (p := ⟨gb305, 1, none⟩) (Kd.R_far (p := ⟨gb305, 0, none⟩) (Kd.R_types HO296.out BK305.out (by decide)) (fun _ hk => hk.2) (.int .i64 t300)) (fun _ hk => hk.2) (.slice Ao26 t301.length co26)) (fun _ h_ => h_.1))) (Kd.R_base ho0) hb); have n1_ := Aside0.mk (Kd.R_elder' (by (with_reducible repeat (first | apply Kd.R_alloc | apply Kd.R_drewN | apply Kd.R_drew)); exact (Kd.R_mono (Kd.R_far (p := ⟨gb305, 1, none⟩) (Kd.R_far (p := ⟨gb305, 0, none⟩) (Kd.R_types HO303.out BK305.out (by decide)) (fun _ hk => hk.2) (.int .i64 t300)) (fun _ hk => hk.2) (.slice Ao26 t301.length co26)) (fun _ h_ => h_.1))) (Kd.R_base ho0) hb); have n2_ := Aside0.mk (Kd.R_lower (Kd.R_new' (Kd.R_new' ho0 (Kd.R_lt (by (with_reducible repeat (first | apply Kd.R_alloc | apply Kd.R_drewN | apply Kd.R_drew)); exact (Kd.R_mono (Kd.R_far (p := ⟨gb305, 1, none⟩) (Kd.R_far (p := ⟨gb305, 0, none⟩) (Kd.R_types HO296.out BK305.out (by decide)) (fun _ hk => hk.2) (.int .i64 t300)) (fun _ hk => hk.2) (.slice Ao26 t301.length co26)) (fun _ h_ => h_.1))))) (Kd.R_lt (by (with_reducible repeat (first | apply Kd.R_alloc | apply Kd.R_drewN | apply Kd.R_drew)); exact (Kd.R_mono (Kd.R_far (p := ⟨gb305, 1, none⟩) (Kd.R_far (p := ⟨gb305, 0, none⟩) (Kd.R_types HO303.out BK305.out (by decide)) (fun _ hk => hk.2) (.int .i64 t300)) (fun _ hk => hk.2) (.slice Ao26 t301.length co26)) (fun _ h_ => h_.1))))) (below_size (by repeat (first | (with_reducible first | exact HB.out | apply below_alloc | apply pw_below_drewN | apply below_drew1 | refine below_set ?_ (Aside0.out (by assumption))) | exact HB.out)))); have n3_ := Aside0.mk (blk_below (g := gb290) (o := .cells #[.int .i64 a0_0, .slice A0_1 l0_1.length c0_1] 34 (0, 0)) (by (with_reducible repeat (first | refine blk_drewN ?_ _ | refine blk_drew ?_ | refine blk_alloc ?_ _)); refine blk_far ?_ NB290_305.out _; (with_reducible repeat (first | refine blk_drewN ?_ _ | refine blk_drew ?_ | refine blk_alloc ?_ _)); refine blk_far ?_ NB290_305.out _; (with_reducible repeat (first | refine blk_drewN ?_ _ | refine blk_drew ?_ | refine blk_alloc ?_ _)); exact BK290.out) hb); have n4_ := Aside0.mk (blk_below (g := gb291) (o := .cells #[.int .i64 a1_0, .int .i64 a1_1, .int .i64 a1_2] 23 (0, 0)) (by (with_reducible repeat (first | refine blk_drewN ?_ _ | refine blk_drew ?_ | refine blk_alloc ?_ _)); refine blk_far ?_ NB291_305.out _; (with_reducible repeat (first | refine blk_drewN ?_ _ | refine blk_drew ?_ | refine blk_alloc ?_ _)); refine blk_far ?_ NB291_305.out _; (with_reducible repeat (first | refine blk_drewN ?_ _ | refine blk_drew ?_ | refine blk_alloc ?_ _)); exact BK291.out) hb); have n5_ := Aside0.mk (blk_below (g := gb305) (o := .cells #[.int .i64 t300, .slice Ao26 t301.length co26] 39 (0, 0)) (by (with_reducible repeat (first | refine blk_drewN ?_ _ | refine blk_drew ?_ | refine blk_alloc ?_ _)); refine blk_put (cs := #[.int .i64 t300, .slice none 0 0]) ?_ 1 _ rfl; (with_reducible repeat (first | refine blk_drewN ?_ _ | refine blk_drew ?_ | refine blk_alloc ?_ _)); refine blk_put (cs := #[.int .i64 0, .slice none 0 0]) ?_ 0 _ rfl; (with_reducible repeat (first | refine blk_drewN ?_ _ | refine blk_drew ?_ | refine blk_alloc ?_ _)); exact BK305.out) hb); have n6_ := Aside0.mk (below_step (by repeat (first | (with_reducible first | exact HB.out | apply below_alloc | apply pw_below_drewN | apply below_drew1 | refine below_set ?_ (Aside0.out (by assumption))) | exact HB.out)) hb); clear HO296; clear HO303; clear BK290; clear BK291; clear BK305; clear HB; have HO296 := n0_; have HO303 := n1_; have HO309 := n2_; have BK290 := n3_; have BK291 := n4_; have BK305 := n5_; have HB := n6_; clear n0_ n1_ n2_ n3_ n4_ n5_ n6_; (try clear hb); (try clear hb2); (try clear hk); (try clear hi); (try clear ho0)) | ((with_reducible refine gate_dst (N := 8) rfl ?_); refine box_event ?hg (N := 8) ?hd (cs := #[.int .i64 0, .slice none 0 0]) (t := 39) ?hr ?_; (case hd => rfl); (case hg => rfl); (case hr => first | (go_simp; done) | (go_simp; rfl)); intro gb310 hg w32 hbox hb; have n0_ := Aside0.mk (Kd.R_below (Kd.pR HO296.out) hb); have n1_ := Aside0.mk (Kd.R_below (Kd.pR HO303.out) hb); have n2_ := Aside0.mk (Kd.R_below (Kd.pR HO309.out) hb); have n3_ := Aside0.mk (blk_below (pk BK290.out) hb); have n4_ := Aside0.mk (blk_below (pk BK291.out) hb); have n5_ := Aside0.mk (blk_below (pk BK305.out) hb); have n6_ := Aside0.mk (below_step (by repeat (first | (with_reducible first | exact HB.out | apply below_alloc | apply pw_below_drewN | apply below_drew1 | refine below_set ?_ (Aside0.out (by assumption))) | exact HB.out)) hb); have n7_ := Aside0.mk (hbox); have n8_ := Aside0.mk ((by rw [hg]; exact (below_size (by repeat (first | (with_reducible first | exact HB.out | apply below_alloc | apply pw_below_drewN | apply below_drew1 | refine below_set ?_ (Aside0.out (by assumption))) | exact HB.out))) : w.heap.size ≤ gb310)); have n9_ := n8_; have n10_ := Aside0.mk ((by rw [hg]; exact Nat.ne_of_lt (blk_lt (pk BK290.out)) : gb290 ≠ gb310)); have n11_ := Aside0.mk n10_.out.symm; have n12_ := Aside0.mk ((by rw [hg]; exact Nat.ne_of_lt (blk_lt (pk BK291.out)) : gb291 ≠ gb310)); have n13_ := Aside0.mk n12_.out.symm; have n14_ := Aside0.mk ((by rw [hg]; exact Nat.ne_of_lt (blk_lt (pk BK305.out)) : gb305 ≠ gb310)); have n15_ := Aside0.mk n14_.out.symm; clear HO296; clear HO303; clear HO309; clear BK290; clear BK291; clear BK305; clear HB; have HO296 := n0_; have HO303 := n1_; have HO309 := n2_; have BK290 := n3_; have BK291 := n4_; have BK305 := n5_; have HB := n6_; have BK310 := n7_; have GW310 := n8_; have GE310 := n9_; have NB290_310 := n10_; have NB310_290 := n11_; have NB291_310 := n12_; have NB310_291 := n13_; have NB305_310 := n14_; have NB310_305 := n15_; clear n0_ n1_ n2_ n3_ n4_ n5_ n6_ n7_ n8_ n9_ n10_ n11_ n12_ n13_ n14_ n15_; clear hb hbox hg; have hnb33 := NB310_290.out; have hnc33 := NB290_310.out; have hnb34 := NB310_291.out; have hnc34 := NB291_310.out; have hnb35 := NB310_305.out; have hnc35 := NB305_310.out; have hcz36_0 : w32.cell? ⟨gb310, 0, none⟩ = some (.int .i64 0) := (blk_cell BK310.out 0).trans rfl; have hcz36_1 : w32.cell? ⟨gb310, 1, none⟩ = some (.slice none 0 0) := (blk_cell BK310.out 1).trans rfl; have hfz36_0 := blk_frozen BK310.out 0; have hfz36_1 := blk_frozen BK310.out 1; obtain ⟨Ao37, co37, eo37⟩ := Kd.R_slice HO309.out; subst eo37))
  have n0_ : Aside0 (Kd.R k25 25 ((w32.setCell ⟨gb310, 0, none⟩ (.int .i64 t306)).setCell ⟨gb310, 1, none⟩ (.slice Ao37 t307.length co37)) w.heap.size (fun k_ => some k_ ≠ (.slice Ao26 t301.length co26 : Value).ownBlock ∧ some k_ ≠ (.slice Ao37 t307.length co37 : Value).ownBlock) v295 t294) := ⟨by (with_reducible repeat (first | apply Kd.R_alloc | apply Kd.R_drewN | apply Kd.R_drew)); exact Kd.R_mono (Kd.R_far (p := ⟨gb310, 1, none⟩) (Kd.R_far (p := ⟨gb310, 0, none⟩) (Kd.R_types HO296.out BK310.out (by decide)) (fun _ hk => hk.2) (.int .i64 t306)) (fun _ hk => hk.2) (.slice Ao37 t307.length co37)) (fun _ hk => ⟨hk.1.1, hk.1.2⟩)⟩
  have n1_ : Aside0 (Kd.R k25 25 ((w32.setCell ⟨gb310, 0, none⟩ (.int .i64 t306)).setCell ⟨gb310, 1, none⟩ (.slice Ao37 t307.length co37)) w.heap.size (fun k_ => some k_ ≠ (v295 : Value).ownBlock ∧ some k_ ≠ (.slice Ao37 t307.length co37 : Value).ownBlock) (.slice Ao26 t301.length co26) t301) := ⟨by (with_reducible repeat (first | apply Kd.R_alloc | apply Kd.R_drewN | apply Kd.R_drew)); exact Kd.R_mono (Kd.R_far (p := ⟨gb310, 1, none⟩) (Kd.R_far (p := ⟨gb310, 0, none⟩) (Kd.R_types HO303.out BK310.out (by decide)) (fun _ hk => hk.2) (.int .i64 t306)) (fun _ hk => hk.2) (.slice Ao37 t307.length co37)) (fun _ hk => ⟨hk.1.1, hk.1.2⟩)⟩
  have n2_ : Aside0 (Kd.R k25 25 ((w32.setCell ⟨gb310, 0, none⟩ (.int .i64 t306)).setCell ⟨gb310, 1, none⟩ (.slice Ao37 t307.length co37)) w.heap.size (fun k_ => some k_ ≠ (v295 : Value).ownBlock ∧ some k_ ≠ (.slice Ao26 t301.length co26 : Value).ownBlock) (.slice Ao37 t307.length co37) t307) := ⟨by (with_reducible repeat (first | apply Kd.R_alloc | apply Kd.R_drewN | apply Kd.R_drew)); exact Kd.R_mono (Kd.R_far (p := ⟨gb310, 1, none⟩) (Kd.R_far (p := ⟨gb310, 0, none⟩) (Kd.R_types HO309.out BK310.out (by decide)) (fun _ hk => hk.2) (.int .i64 t306)) (fun _ hk => hk.2) (.slice Ao37 t307.length co37)) (fun _ hk => ⟨hk.1.1.2, hk.1.2⟩)⟩
  have n3_ : Aside0 (((w32.setCell ⟨gb310, 0, none⟩ (.int .i64 t306)).setCell ⟨gb310, 1, none⟩ (.slice Ao37 t307.length co37)).heap[gb290]? = some (.cells #[.int .i64 a0_0, .slice A0_1 l0_1.length c0_1] 34 (0, 0))) := ⟨by (with_reducible repeat (first | refine blk_drewN ?_ _ | refine blk_drew ?_ | refine blk_alloc ?_ _)); refine blk_far ?_ NB290_310.out _; (with_reducible repeat (first | refine blk_drewN ?_ _ | refine blk_drew ?_ | refine blk_alloc ?_ _)); refine blk_far ?_ NB290_310.out _; (with_reducible repeat (first | refine blk_drewN ?_ _ | refine blk_drew ?_ | refine blk_alloc ?_ _)); exact BK290.out⟩
  have n4_ : Aside0 (((w32.setCell ⟨gb310, 0, none⟩ (.int .i64 t306)).setCell ⟨gb310, 1, none⟩ (.slice Ao37 t307.length co37)).heap[gb291]? = some (.cells #[.int .i64 a1_0, .int .i64 a1_1, .int .i64 a1_2] 23 (0, 0))) := ⟨by (with_reducible repeat (first | refine blk_drewN ?_ _ | refine blk_drew ?_ | refine blk_alloc ?_ _)); refine blk_far ?_ NB291_310.out _; (with_reducible repeat (first | refine blk_drewN ?_ _ | refine blk_drew ?_ | refine blk_alloc ?_ _)); refine blk_far ?_ NB291_310.out _; (with_reducible repeat (first | refine blk_drewN ?_ _ | refine blk_drew ?_ | refine blk_alloc ?_ _)); exact BK291.out⟩
  have n5_ : Aside0 (((w32.setCell ⟨gb310, 0, none⟩ (.int .i64 t306)).setCell ⟨gb310, 1, none⟩ (.slice Ao37 t307.length co37)).heap[gb305]? = some (.cells #[.int .i64 t300, .slice Ao26 t301.length co26] 39 (0, 0))) := ⟨by (with_reducible repeat (first | refine blk_drewN ?_ _ | refine blk_drew ?_ | refine blk_alloc ?_ _)); refine blk_far ?_ NB305_310.out _; (with_reducible repeat (first | refine blk_drewN ?_ _ | refine blk_drew ?_ | refine blk_alloc ?_ _)); refine blk_far ?_ NB305_310.out _; (with_reducible repeat (first | refine blk_drewN ?_ _ | refine blk_drew ?_ | refine blk_alloc ?_ _)); exact BK305.out⟩
  have n6_ : Aside0 (((w32.setCell ⟨gb310, 0, none⟩ (.int .i64 t306)).setCell ⟨gb310, 1, none⟩ (.slice Ao37 t307.length co37)).heap[gb310]? = some (.cells #[.int .i64 t306, .slice Ao37 t307.length co37] 39 (0, 0))) := ⟨by (with_reducible repeat (first | refine blk_drewN ?_ _ | refine blk_drew ?_ | refine blk_alloc ?_ _)); refine blk_put (cs := #[.int .i64 t306, .slice none 0 0]) ?_ 1 _ rfl; (with_reducible repeat (first | refine blk_drewN ?_ _ | refine blk_drew ?_ | refine blk_alloc ?_ _)); refine blk_put (cs := #[.int .i64 0, .slice none 0 0]) ?_ 0 _ rfl; (with_reducible repeat (first | refine blk_drewN ?_ _ | refine blk_drew ?_ | refine blk_alloc ?_ _)); exact BK310.out⟩
  have n7_ : Aside0 (Below w.heap.size w ((w32.setCell ⟨gb310, 0, none⟩ (.int .i64 t306)).setCell ⟨gb310, 1, none⟩ (.slice Ao37 t307.length co37))) := ⟨by repeat (first | (with_reducible first | exact HB.out | apply below_alloc | apply pw_below_drewN | apply below_drew1 | refine below_set ?_ (Aside0.out (by assumption))) | exact HB.out)⟩
  (try clear HO296)
  (try clear HO303)
  (try clear HO309)
  (try clear BK290)
  (try clear BK291)
  (try clear BK305)
  (try clear BK310)
  (try clear HB)
  generalize ((w32.setCell ⟨gb310, 0, none⟩ (.int .i64 t306)).setCell ⟨gb310, 1, none⟩ (.slice Ao37 t307.length co37)) = w38 at n0_ n1_ n2_ n3_ n4_ n5_ n6_ n7_ ⊢
  have HO296 := n0_; have HO303 := n1_; have HO309 := n2_; have BK290 := n3_; have BK291 := n4_; have BK305 := n5_; have BK310 := n6_; have HB := n7_
  clear n0_ n1_ n2_ n3_ n4_ n5_ n6_ n7_
  have n0_ := Aside0.mk (Kd.R_drew HO296.out)
  have n1_ := Aside0.mk (Kd.R_drew HO303.out)
  have n2_ := Aside0.mk (Kd.R_drew HO309.out)
  have n3_ := Aside0.mk (blk_drew BK290.out)
  have n4_ := Aside0.mk (blk_drew BK291.out)
  have n5_ := Aside0.mk (blk_drew BK305.out)
  have n6_ := Aside0.mk (blk_drew BK310.out)
  have n7_ := Aside0.mk (below_drew1 HB.out)
  clear HO296 HO303 HO309 BK290 BK291 BK305 BK310 HB
  have HO296 := n0_; have HO303 := n1_; have HO309 := n2_; have BK290 := n3_; have BK291 := n4_; have BK305 := n5_; have BK310 := n6_; have HB := n7_
  clear n0_ n1_ n2_ n3_ n4_ n5_ n6_ n7_
  refine start_ (n := 10) (S := fun w' => w'.cell? ⟨gb310, 0, none⟩ = some (.int .i64 t306) ∧ w'.cell? ⟨gb310, 1, none⟩ = some (.slice Ao37 t307.length co37) ∧ w'.cell? ⟨gb291, 0, none⟩ = some (.int .i64 a1_0) ∧ w'.cell? ⟨gb291, 1, none⟩ = some (.int .i64 a1_1) ∧ w'.cell? ⟨gb291, 2, none⟩ = some (.int .i64 a1_2)) (ds := []) #[false, false, false, false, false, false, false, false, false, false] (by kernel_rfl) rfl rfl ⟨(blk_cell BK310.out 0).trans rfl, (blk_cell BK310.out 1).trans rfl, (blk_cell BK291.out 0).trans rfl, (blk_cell BK291.out 1).trans rfl, (blk_cell BK291.out 2).trans rfl⟩ (fun hHeld => ?_); refine with_tabW laws_FnExactAddClue.tab7 laws_FnExactAddClue.bits7 (fun HT_ HW_ => ?_)
  generalize w38.drew = w39 at HO296 HO303 HO309 BK290 BK291 BK305 BK310 HB hHeld ⊢
  refine take_ (i := 0) (N := some 32) (v := ?_) (a' := ?_) #[true, false, false, false, false, false, false, false, false, false] rfl rfl (take_ofW HT_.out HW_.out (by kernel_rfl)) (fun _ _ _ h => h) (Or.inl ⟨by rfl, ?_⟩) hHeld ?_ ?_
  rotate_left
  ·
   rintro w' ⟨s0, s1, s2, s3, s4⟩
   go_simp
   with_reducible rfl
  rotate_left
  ·
   simp only [Act.put, List.setIfInBounds_toArray, List.set_cons_zero, List.set_cons_succ, i64_w, i32_w]
   rfl
  refine take_ (i := 1) (N := some 33) (v := ?_) (a' := ?_) #[true, true, false, false, false, false, false, false, false, false] rfl rfl (take_ofW HT_.out HW_.out (by kernel_rfl)) (fun _ _ _ h => h) (Or.inl ⟨by rfl, ?_⟩) hHeld ?_ ?_
  rotate_left
  ·
   rintro w' ⟨s0, s1, s2, s3, s4⟩
   go_simp
   with_reducible rfl
  rotate_left
  ·
   simp only [Act.put, List.setIfInBounds_toArray, List.set_cons_zero, List.set_cons_succ, i64_w, i32_w]
   rfl
  refine join_ (σ := Value × Nat) 2 #[true, true, true, true, true, true, true, true, false, false] (fun s_ => [(34, .agg #[.int .i64 t311, .int .i64 t312, .int .i64 t313]), (35, .tuple #[.agg #[.int .i64 t314, s_.1], .bool t318]), (9, .pointer (some ⟨s_.2, 0, none⟩)), (31, .tuple #[.agg #[.int .i64 t314, s_.1], .bool t318]), (36, .agg #[.int .i64 t314, s_.1]), (37, .bool t318)]) (fun s_ w' => (w'.cell? ⟨gb310, 0, none⟩ = some (.int .i64 t306) ∧ w'.cell? ⟨gb310, 1, none⟩ = some (.slice Ao37 t307.length co37) ∧ w'.cell? ⟨gb291, 0, none⟩ = some (.int .i64 a1_0) ∧ w'.cell? ⟨gb291, 1, none⟩ = some (.int .i64 a1_1) ∧ w'.cell? ⟨gb291, 2, none⟩ = some (.int .i64 a1_2)) ∧ (Kd.R k25 25 w' w.heap.size (fun k_ => some k_ ≠ (.slice Ao26 t301.length co26 : Value).ownBlock ∧ some k_ ≠ (.slice Ao37 t307.length co37 : Value).ownBlock ∧ some k_ ≠ (s_.1 : Value).ownBlock) v295 t294) ∧ (Kd.R k25 25 w' w.heap.size (fun k_ => some k_ ≠ (v295 : Value).ownBlock ∧ some k_ ≠ (.slice Ao37 t307.length co37 : Value).ownBlock ∧ some k_ ≠ (s_.1 : Value).ownBlock) (.slice Ao26 t301.length co26) t301) ∧ (Kd.R k25 25 w' w.heap.size (fun k_ => some k_ ≠ (v295 : Value).ownBlock ∧ some k_ ≠ (.slice Ao26 t301.length co26 : Value).ownBlock ∧ some k_ ≠ (s_.1 : Value).ownBlock) (.slice Ao37 t307.length co37) t307) ∧ (Kd.R k25 25 w' w.heap.size (fun k_ => some k_ ≠ (v295 : Value).ownBlock ∧ some k_ ≠ (.slice Ao26 t301.length co26 : Value).ownBlock ∧ some k_ ≠ (.slice Ao37 t307.length co37 : Value).ownBlock) s_.1 t315) ∧ (w'.heap[gb290]? = some (.cells #[.int .i64 a0_0, .slice A0_1 l0_1.length c0_1] 34 (0, 0))) ∧ (w'.heap[gb291]? = some (.cells #[.int .i64 a1_0, .int .i64 a1_1, .int .i64 a1_2] 23 (0, 0))) ∧ (w'.heap[gb305]? = some (.cells #[.int .i64 t300, .slice Ao26 t301.length co26] 39 (0, 0))) ∧ (w'.heap[gb310]? = some (.cells #[.int .i64 t306, .slice Ao37 t307.length co37] 39 (0, 0))) ∧ (w'.heap[s_.2]? = some (.cells #[.int .i64 0, .slice none 0 0] 39 (0, 0))) ∧ (w.heap.size ≤ s_.2) ∧ (w.heap.size ≤ s_.2) ∧ (gb290 ≠ s_.2) ∧ (s_.2 ≠ gb290) ∧ (gb291 ≠ s_.2) ∧ (s_.2 ≠ gb291) ∧ (gb305 ≠ s_.2) ∧ (s_.2 ≠ gb305) ∧ (gb310 ≠ s_.2) ∧ (s_.2 ≠ gb310) ∧ (Below w.heap.size w w')) ?_ ?_
  rotate_left
  ·
   intro hCont
   refine two_ (i := 2) (j := 7) (Ni := some 34) (Nj := some 9) #[true, true, true, false, false, false, false, false, false, false] #[true, true, false, false, false, false, false, true, false, false] rfl rfl rfl rfl (two_of HT_.out (by kernel_rfl)) (by decide) (by decide) (fun K hK => ?_) (fun K hK => ?_)
   ·
    skip
    refine goes_ Try.func11 (by kernel_rfl) rfl #[.agg #[.int .i64 a1_0, .int .i64 a1_1, .int .i64 a1_2]] (by rfl) rfl rfl (by (try simp only [List.map_toArray, List.map_cons, List.map_nil]); first | done | rfl | (simp only [List.length_drop, List.length_take]; rfl)) ?_
    with_reducible refine (laws_toClue.calls a1_0 a1_1 a1_2 t311 t312 t313 _ A15.out).mono ?_
    rintro e w40 ⟨rfl, hb⟩
    refine ⟨_, rfl, ?_⟩
    have n0_ := Aside0.mk (Kd.R_below (Kd.pR HO296.out) hb)
    have n1_ := Aside0.mk (Kd.R_below (Kd.pR HO303.out) hb)
    have n2_ := Aside0.mk (Kd.R_below (Kd.pR HO309.out) hb)
    have n3_ := Aside0.mk (blk_below (pk BK290.out) hb)
    have n4_ := Aside0.mk (blk_below (pk BK291.out) hb)
    have n5_ := Aside0.mk (blk_below (pk BK305.out) hb)
    have n6_ := Aside0.mk (blk_below (pk BK310.out) hb)
    have n7_ := Aside0.mk (below_step (by repeat (first | (with_reducible first | exact HB.out | apply below_alloc | apply pw_below_drewN | apply below_drew1 | refine below_set ?_ (Aside0.out (by assumption))) | exact HB.out)) hb)
    clear HO296 HO303 HO309 BK290 BK291 BK305 BK310 HB
    have HO296 := n0_; have HO303 := n1_; have HO309 := n2_; have BK290 := n3_; have BK291 := n4_; have BK305 := n5_; have BK310 := n6_; have HB := n7_
    clear n0_ n1_ n2_ n3_ n4_ n5_ n6_ n7_
    (try clear hb)
    (try clear hb2)
    (try clear hk)
    (try clear hi)
    refine hK.out _ _ ⟨(blk_cell BK310.out 0).trans rfl, (blk_cell BK310.out 1).trans rfl, (blk_cell BK291.out 0).trans rfl, (blk_cell BK291.out 1).trans rfl, (blk_cell BK291.out 2).trans rfl⟩ (fun hHeld => ?_)
    clear hK K
    refine norm_ (a' := ?_) ?_ ?_
    rotate_left
    ·
     show Act.put _ (some 34) _ = _
     simp only [Act.put, List.setIfInBounds_toArray, List.set_cons_zero, List.set_cons_succ, i64_w, i32_w]
     rfl
    refine two_ (i := 3) (j := 7) (Ni := some 35) (Nj := some 9) #[true, true, true, true, false, false, false, false, false, false] #[true, true, true, false, false, false, false, true, false, false] rfl rfl rfl rfl (two_of HT_.out (by kernel_rfl)) (by decide) (by decide) (fun K hK => ?_) (fun K hK => ?_)
    ·
     skip
     refine goes_ Try.func31 (by kernel_rfl) rfl #[.agg #[.int .i64 t306, .slice Ao37 t307.length co37], .agg #[.int .i64 t311, .int .i64 t312, .int .i64 t313]] (by rfl) rfl rfl (by (try simp only [List.map_toArray, List.map_cons, List.map_nil]); first | done | rfl | (simp only [List.length_drop, List.length_take]; rfl)) ?_
     with_reducible refine (impl_AddClue.calls k t306 _ _ t307 t311 t312 t313 t314 t315 t318 _ ?side1 ?side2 A16.out).mono ?_
     (case side1 => repeat (first | exact (Kd.R_reads' HO309.out).2.2 | (with_reducible refine Kd.C_alloc ?_ _) | (with_reducible refine Kd.C_drewN ?_ _) | (with_reducible refine Kd.C_drew ?_)))
     (case side2 => exact (Kd.R_reads' HO309.out).2.1)
     rintro e w41 ⟨v316, rfl, ho0, hb⟩
     refine ⟨_, rfl, ?_⟩
     have n0_ := Aside0.mk (Kd.R_elder' (Kd.pR HO296.out) (Kd.R_base ho0) hb)
     have n1_ := Aside0.mk (Kd.R_elder' (Kd.pR HO303.out) (Kd.R_base ho0) hb)
     have n2_ := Aside0.mk (Kd.R_elder' (Kd.pR HO309.out) (Kd.R_base ho0) hb)
     have n3_ := Aside0.mk (Kd.R_lower (Kd.R_new' (Kd.R_new' (Kd.R_new' ho0 (Kd.R_lt (Kd.pR HO296.out))) (Kd.R_lt (Kd.pR HO303.out))) (Kd.R_lt (Kd.pR HO309.out))) (below_size (by repeat (first | (with_reducible first | exact HB.out | apply below_alloc | apply pw_below_drewN | apply below_drew1 | refine below_set ?_ (Aside0.out (by assumption))) | exact HB.out))))
     have n4_ := Aside0.mk (blk_below (pk BK290.out) hb)
     have n5_ := Aside0.mk (blk_below (pk BK291.out) hb)
     have n6_ := Aside0.mk (blk_below (pk BK305.out) hb)
     have n7_ := Aside0.mk (blk_below (pk BK310.out) hb)
     have n8_ := Aside0.mk (below_step (by repeat (first | (with_reducible first | exact HB.out | apply below_alloc | apply pw_below_drewN | apply below_drew1 | refine below_set ?_ (Aside0.out (by assumption))) | exact HB.out)) hb)
     clear HO296 HO303 HO309 BK290 BK291 BK305 BK310 HB
     have HO296 := n0_; have HO303 := n1_; have HO309 := n2_; have HO317 := n3_; have BK290 := n4_; have BK291 := n5_; have BK305 := n6_; have BK310 := n7_; have HB := n8_
     clear n0_ n1_ n2_ n3_ n4_ n5_ n6_ n7_ n8_
     (try clear hb)
     (try clear hb2)
     (try clear hk)
     (try clear hi)
     (try clear ho0)
     refine hK.out _ _ ⟨(blk_cell BK310.out 0).trans rfl, (blk_cell BK310.out 1).trans rfl, (blk_cell BK291.out 0).trans rfl, (blk_cell BK291.out 1).trans rfl, (blk_cell BK291.out 2).trans rfl⟩ (fun hHeld => ?_)
     clear hK K
     refine norm_ (a' := ?_) ?_ ?_
     rotate_left
     ·
      show Act.put _ (some 35) _ = _
      simp only [Act.put, List.setIfInBounds_toArray, List.set_cons_zero, List.set_cons_succ, i64_w, i32_w]
      rfl
     refine pure_ (i := 4) (N := some 31) (v := ?_) (a' := ?_) #[true, true, true, true, true, false, false, false, false, false] rfl rfl (any_of HT_.out (by kernel_rfl)) (fun _ _ _ h => h) (Or.inl ⟨by rfl, ?_⟩) ?_ ?_
     rotate_left
     ·
      intro w'
      go_simp
      with_reducible rfl
     rotate_left
     ·
      simp only [Act.put, List.setIfInBounds_toArray, List.set_cons_zero, List.set_cons_succ, i64_w, i32_w]
      rfl
     refine pure_ (i := 5) (N := some 36) (v := ?_) (a' := ?_) #[true, true, true, true, true, true, false, false, false, false] rfl rfl (any_of HT_.out (by kernel_rfl)) (fun _ _ _ h => h) (Or.inl ⟨by rfl, ?_⟩) ?_ ?_
     rotate_left
     ·
      intro w'
      go_simp
      with_reducible rfl
     rotate_left
     ·
      simp only [Act.put, List.setIfInBounds_toArray, List.set_cons_zero, List.set_cons_succ, i64_w, i32_w]
      rfl
     refine pure_ (i := 6) (N := some 37) (v := ?_) (a' := ?_) #[true, true, true, true, true, true, true, false, false, false] rfl rfl (any_of HT_.out (by kernel_rfl)) (fun _ _ _ h => h) (Or.inl ⟨by rfl, ?_⟩) ?_ ?_
     rotate_left
     ·
      intro w'
      go_simp
      with_reducible rfl
     rotate_left
     ·
      simp only [Act.put, List.setIfInBounds_toArray, List.set_cons_zero, List.set_cons_succ, i64_w, i32_w]
      rfl
     refine one_ (i := 7) (N := some 9) #[true, true, true, true, true, true, true, true, false, false] rfl rfl (one_of HT_.out (by kernel_rfl)) (by decide) (fun K hK => ?_)
     refine box_step ?hg (N := 9) ?hd (cs := #[.int .i64 0, .slice none 0 0]) (t := 39) ?hr ?_; (case hd => rfl); (case hg => rfl); (case hr => first | (go_simp; done) | (go_simp; rfl))
     intro gb319 hg w42 hbox hb
     have n0_ := Aside0.mk (Kd.R_below (Kd.pR HO296.out) hb)
     have n1_ := Aside0.mk (Kd.R_below (Kd.pR HO303.out) hb)
     have n2_ := Aside0.mk (Kd.R_below (Kd.pR HO309.out) hb)
     have n3_ := Aside0.mk (Kd.R_below (Kd.pR HO317.out) hb)
     have n4_ := Aside0.mk (blk_below (pk BK290.out) hb)
     have n5_ := Aside0.mk (blk_below (pk BK291.out) hb)
     have n6_ := Aside0.mk (blk_below (pk BK305.out) hb)
     have n7_ := Aside0.mk (blk_below (pk BK310.out) hb)
     have n8_ := Aside0.mk (below_step (by repeat (first | (with_reducible first | exact HB.out | apply below_alloc | apply pw_below_drewN | apply below_drew1 | refine below_set ?_ (Aside0.out (by assumption))) | exact HB.out)) hb)
     have n9_ := Aside0.mk (hbox)
     have n10_ := Aside0.mk ((by rw [hg]; exact (below_size (by repeat (first | (with_reducible first | exact HB.out | apply below_alloc | apply pw_below_drewN | apply below_drew1 | refine below_set ?_ (Aside0.out (by assumption))) | exact HB.out))) : w.heap.size ≤ gb319))
     have n11_ := n10_
     have n12_ := Aside0.mk ((by rw [hg]; exact Nat.ne_of_lt (blk_lt (pk BK290.out)) : gb290 ≠ gb319))
     have n13_ := Aside0.mk n12_.out.symm
     have n14_ := Aside0.mk ((by rw [hg]; exact Nat.ne_of_lt (blk_lt (pk BK291.out)) : gb291 ≠ gb319))
     have n15_ := Aside0.mk n14_.out.symm
     have n16_ := Aside0.mk ((by rw [hg]; exact Nat.ne_of_lt (blk_lt (pk BK305.out)) : gb305 ≠ gb319))
     have n17_ := Aside0.mk n16_.out.symm
     have n18_ := Aside0.mk ((by rw [hg]; exact Nat.ne_of_lt (blk_lt (pk BK310.out)) : gb310 ≠ gb319))
     have n19_ := Aside0.mk n18_.out.symm
     clear HO296 HO303 HO309 HO317 BK290 BK291 BK305 BK310 HB
     have HO296 := n0_; have HO303 := n1_; have HO309 := n2_; have HO317 := n3_; have BK290 := n4_; have BK291 := n5_; have BK305 := n6_; have BK310 := n7_; have HB := n8_; have BK319 := n9_; have GW319 := n10_; have GE319 := n11_; have NB290_319 := n12_; have NB319_290 := n13_; have NB291_319 := n14_; have NB319_291 := n15_; have NB305_319 := n16_; have NB319_305 := n17_; have NB310_319 := n18_; have NB319_310 := n19_
     clear n0_ n1_ n2_ n3_ n4_ n5_ n6_ n7_ n8_ n9_ n10_ n11_ n12_ n13_ n14_ n15_ n16_ n17_ n18_ n19_ hb hbox hg
     refine hK.out _ _ ⟨(blk_cell BK310.out 0).trans rfl, (blk_cell BK310.out 1).trans rfl, (blk_cell BK291.out 0).trans rfl, (blk_cell BK291.out 1).trans rfl, (blk_cell BK291.out 2).trans rfl⟩ (fun hHeld => ?_)
     clear hK K
     refine norm_ (a' := ?_) ?_ ?_
     rotate_left
     ·
      show Act.put _ (some 9) _ = _
      simp only [Act.put, List.setIfInBounds_toArray, List.set_cons_zero, List.set_cons_succ, i64_w, i32_w]
      rfl
     exact norm_ (by simp only [putAll, Act.put, List.setIfInBounds_toArray, List.set_cons_zero, List.set_cons_succ]) (hCont (v316, gb319) _ ⟨hHeld, (by (with_reducible repeat (first | apply Kd.R_alloc | apply Kd.R_drewN | apply Kd.R_drew)); exact Kd.R_mono HO296.out (fun _ hk => ⟨hk.1.1, ⟨hk.1.2, hk.2⟩⟩)), (by (with_reducible repeat (first | apply Kd.R_alloc | apply Kd.R_drewN | apply Kd.R_drew)); exact Kd.R_mono HO303.out (fun _ hk => ⟨hk.1.1, ⟨hk.1.2, hk.2⟩⟩)), (by (with_reducible repeat (first | apply Kd.R_alloc | apply Kd.R_drewN | apply Kd.R_drew)); exact Kd.R_mono HO309.out (fun _ hk => ⟨hk.1.1, ⟨hk.1.2, hk.2⟩⟩)), (by (with_reducible repeat (first | apply Kd.R_alloc | apply Kd.R_drewN | apply Kd.R_drew)); exact Kd.R_mono HO317.out (fun _ hk => ⟨hk.1.1.2, ⟨hk.1.2, hk.2⟩⟩)), (pk BK290.out), (pk BK291.out), (pk BK305.out), (pk BK310.out), (pk BK319.out), GW319.out, GE319.out, NB290_319.out, NB319_290.out, NB291_319.out, NB319_291.out, NB305_319.out, NB319_305.out, NB310_319.out, NB319_310.out, (by repeat (first | (with_reducible first | exact HB.out | apply below_alloc | apply pw_below_drewN | apply below_drew1 | refine below_set ?_ (Aside0.out (by assumption))) | exact HB.out))⟩)
    ·
     skip
     refine box_step ?hg (N := 9) ?hd (cs := #[.int .i64 0, .slice none 0 0]) (t := 39) ?hr ?_; (case hd => rfl); (case hg => rfl); (case hr => first | (go_simp; done) | (go_simp; rfl))
     intro gb319 hg w41 hbox hb
     have n0_ := Aside0.mk (Kd.R_below (Kd.pR HO296.out) hb)
     have n1_ := Aside0.mk (Kd.R_below (Kd.pR HO303.out) hb)
     have n2_ := Aside0.mk (Kd.R_below (Kd.pR HO309.out) hb)
     have n3_ := Aside0.mk (blk_below (pk BK290.out) hb)
     have n4_ := Aside0.mk (blk_below (pk BK291.out) hb)
     have n5_ := Aside0.mk (blk_below (pk BK305.out) hb)
     have n6_ := Aside0.mk (blk_below (pk BK310.out) hb)
     have n7_ := Aside0.mk (below_step (by repeat (first | (with_reducible first | exact HB.out | apply below_alloc | apply pw_below_drewN | apply below_drew1 | refine below_set ?_ (Aside0.out (by assumption))) | exact HB.out)) hb)
     have n8_ := Aside0.mk (hbox)
     have n9_ := Aside0.mk ((by rw [hg]; exact (below_size (by repeat (first | (with_reducible first | exact HB.out | apply below_alloc | apply pw_below_drewN | apply below_drew1 | refine below_set ?_ (Aside0.out (by assumption))) | exact HB.out))) : w.heap.size ≤ gb319))
     have n10_ := n9_
     have n11_ := Aside0.mk ((by rw [hg]; exact Nat.ne_of_lt (blk_lt (pk BK290.out)) : gb290 ≠ gb319))
     have n12_ := Aside0.mk n11_.out.symm
     have n13_ := Aside0.mk ((by rw [hg]; exact Nat.ne_of_lt (blk_lt (pk BK291.out)) : gb291 ≠ gb319))
     have n14_ := Aside0.mk n13_.out.symm
     have n15_ := Aside0.mk ((by rw [hg]; exact Nat.ne_of_lt (blk_lt (pk BK305.out)) : gb305 ≠ gb319))
     have n16_ := Aside0.mk n15_.out.symm
     have n17_ := Aside0.mk ((by rw [hg]; exact Nat.ne_of_lt (blk_lt (pk BK310.out)) : gb310 ≠ gb319))
     have n18_ := Aside0.mk n17_.out.symm
     clear HO296 HO303 HO309 BK290 BK291 BK305 BK310 HB
     have HO296 := n0_; have HO303 := n1_; have HO309 := n2_; have BK290 := n3_; have BK291 := n4_; have BK305 := n5_; have BK310 := n6_; have HB := n7_; have BK319 := n8_; have GW319 := n9_; have GE319 := n10_; have NB290_319 := n11_; have NB319_290 := n12_; have NB291_319 := n13_; have NB319_291 := n14_; have NB305_319 := n15_; have NB319_305 := n16_; have NB310_319 := n17_; have NB319_310 := n18_
     clear n0_ n1_ n2_ n3_ n4_ n5_ n6_ n7_ n8_ n9_ n10_ n11_ n12_ n13_ n14_ n15_ n16_ n17_ n18_ hb hbox hg
     refine hK.out _ _ ⟨(blk_cell BK310.out 0).trans rfl, (blk_cell BK310.out 1).trans rfl, (blk_cell BK291.out 0).trans rfl, (blk_cell BK291.out 1).trans rfl, (blk_cell BK291.out 2).trans rfl⟩ (fun hHeld => ?_)
     clear hK K
     refine norm_ (a' := ?_) ?_ ?_
     rotate_left
     ·
      show Act.put _ (some 9) _ = _
      simp only [Act.put, List.setIfInBounds_toArray, List.set_cons_zero, List.set_cons_succ, i64_w, i32_w]
      rfl
     refine one_ (i := 3) (N := some 35) #[true, true, true, true, false, false, false, true, false, false] rfl rfl (one_of HT_.out (by kernel_rfl)) (by decide) (fun K hK => ?_)
     refine goes_ Try.func31 (by kernel_rfl) rfl #[.agg #[.int .i64 t306, .slice Ao37 t307.length co37], .agg #[.int .i64 t311, .int .i64 t312, .int .i64 t313]] (by rfl) rfl rfl (by (try simp only [List.map_toArray, List.map_cons, List.map_nil]); first | done | rfl | (simp only [List.length_drop, List.length_take]; rfl)) ?_
     with_reducible refine (impl_AddClue.calls k t306 _ _ t307 t311 t312 t313 t314 t315 t318 _ ?side1 ?side2 A16.out).mono ?_
     (case side1 => repeat (first | exact (Kd.R_reads' HO309.out).2.2 | (with_reducible refine Kd.C_alloc ?_ _) | (with_reducible refine Kd.C_drewN ?_ _) | (with_reducible refine Kd.C_drew ?_)))
     (case side2 => exact (Kd.R_reads' HO309.out).2.1)
     rintro e w42 ⟨v316, rfl, ho0, hb⟩
     refine ⟨_, rfl, ?_⟩
     have n0_ := Aside0.mk (Kd.R_elder' (Kd.pR HO296.out) (Kd.R_base ho0) hb)
     have n1_ := Aside0.mk (Kd.R_elder' (Kd.pR HO303.out) (Kd.R_base ho0) hb)
     have n2_ := Aside0.mk (Kd.R_elder' (Kd.pR HO309.out) (Kd.R_base ho0) hb)
     have n3_ := Aside0.mk (Kd.R_lower (Kd.R_new' (Kd.R_new' (Kd.R_new' ho0 (Kd.R_lt (Kd.pR HO296.out))) (Kd.R_lt (Kd.pR HO303.out))) (Kd.R_lt (Kd.pR HO309.out))) (below_size (by repeat (first | (with_reducible first | exact HB.out | apply below_alloc | apply pw_below_drewN | apply below_drew1 | refine below_set ?_ (Aside0.out (by assumption))) | exact HB.out))))
     have n4_ := Aside0.mk (blk_below (pk BK290.out) hb)
     have n5_ := Aside0.mk (blk_below (pk BK291.out) hb)
     have n6_ := Aside0.mk (blk_below (pk BK305.out) hb)
     have n7_ := Aside0.mk (blk_below (pk BK310.out) hb)
     have n8_ := Aside0.mk (blk_below (pk BK319.out) hb)
     have n9_ := Aside0.mk (below_step (by repeat (first | (with_reducible first | exact HB.out | apply below_alloc | apply pw_below_drewN | apply below_drew1 | refine below_set ?_ (Aside0.out (by assumption))) | exact HB.out)) hb)
     clear HO296 HO303 HO309 BK290 BK291 BK305 BK310 BK319 HB
     have HO296 := n0_; have HO303 := n1_; have HO309 := n2_; have HO317 := n3_; have BK290 := n4_; have BK291 := n5_; have BK305 := n6_; have BK310 := n7_; have BK319 := n8_; have HB := n9_
     clear n0_ n1_ n2_ n3_ n4_ n5_ n6_ n7_ n8_ n9_
     (try clear hb)
     (try clear hb2)
     (try clear hk)
     (try clear hi)
     (try clear ho0)
     refine hK.out _ _ ⟨(blk_cell BK310.out 0).trans rfl, (blk_cell BK310.out 1).trans rfl, (blk_cell BK291.out 0).trans rfl, (blk_cell BK291.out 1).trans rfl, (blk_cell BK291.out 2).trans rfl⟩ (fun hHeld => ?_)
     clear hK K
     refine norm_ (a' := ?_) ?_ ?_
     rotate_left
     ·
      show Act.put _ (some 35) _ = _
      simp only [Act.put, List.setIfInBounds_toArray, List.set_cons_zero, List.set_cons_succ, i64_w, i32_w]
      rfl
     refine pure_ (i := 4) (N := some 31) (v := ?_) (a' := ?_) #[true, true, true, true, true, false, false, true, false, false] rfl rfl (any_of HT_.out (by kernel_rfl)) (fun _ _ _ h => h) (Or.inl ⟨by rfl, ?_⟩) ?_ ?_
     rotate_left
     ·
      intro w'
      go_simp
      with_reducible rfl
     rotate_left
     ·
      simp only [Act.put, List.setIfInBounds_toArray, List.set_cons_zero, List.set_cons_succ, i64_w, i32_w]
      rfl
     refine pure_ (i := 5) (N := some 36) (v := ?_) (a' := ?_) #[true, true, true, true, true, true, false, true, false, false] rfl rfl (any_of HT_.out (by kernel_rfl)) (fun _ _ _ h => h) (Or.inl ⟨by rfl, ?_⟩) ?_ ?_
     rotate_left
     ·
      intro w'
      go_simp
      with_reducible rfl
     rotate_left
     ·
      simp only [Act.put, List.setIfInBounds_toArray, List.set_cons_zero, List.set_cons_succ, i64_w, i32_w]
      rfl
     refine pure_ (i := 6) (N := some 37) (v := ?_) (a' := ?_) #[true, true, true, true, true, true, true, true, false, false] rfl rfl (any_of HT_.out (by kernel_rfl)) (fun _ _ _ h => h) (Or.inl ⟨by rfl, ?_⟩) ?_ ?_
     rotate_left
     ·
      intro w'
      go_simp
      with_reducible rfl
     rotate_left
     ·
      simp only [Act.put, List.setIfInBounds_toArray, List.set_cons_zero, List.set_cons_succ, i64_w, i32_w]
      rfl
     exact norm_ (by simp only [putAll, Act.put, List.setIfInBounds_toArray, List.set_cons_zero, List.set_cons_succ]) (hCont (v316, gb319) _ ⟨hHeld, (by (with_reducible repeat (first | apply Kd.R_alloc | apply Kd.R_drewN | apply Kd.R_drew)); exact Kd.R_mono HO296.out (fun _ hk => ⟨hk.1.1, ⟨hk.1.2, hk.2⟩⟩)), (by (with_reducible repeat (first | apply Kd.R_alloc | apply Kd.R_drewN | apply Kd.R_drew)); exact Kd.R_mono HO303.out (fun _ hk => ⟨hk.1.1, ⟨hk.1.2, hk.2⟩⟩)), (by (with_reducible repeat (first | apply Kd.R_alloc | apply Kd.R_drewN | apply Kd.R_drew)); exact Kd.R_mono HO309.out (fun _ hk => ⟨hk.1.1, ⟨hk.1.2, hk.2⟩⟩)), (by (with_reducible repeat (first | apply Kd.R_alloc | apply Kd.R_drewN | apply Kd.R_drew)); exact Kd.R_mono HO317.out (fun _ hk => ⟨hk.1.1.2, ⟨hk.1.2, hk.2⟩⟩)), (pk BK290.out), (pk BK291.out), (pk BK305.out), (pk BK310.out), (pk BK319.out), GW319.out, GE319.out, NB290_319.out, NB319_290.out, NB291_319.out, NB319_291.out, NB305_319.out, NB319_305.out, NB310_319.out, NB319_310.out, (by repeat (first | (with_reducible first | exact HB.out | apply below_alloc | apply pw_below_drewN | apply below_drew1 | refine below_set ?_ (Aside0.out (by assumption))) | exact HB.out))⟩)
   ·
    skip
    refine box_step ?hg (N := 9) ?hd (cs := #[.int .i64 0, .slice none 0 0]) (t := 39) ?hr ?_; (case hd => rfl); (case hg => rfl); (case hr => first | (go_simp; done) | (go_simp; rfl))
    intro gb319 hg w40 hbox hb
    have n0_ := Aside0.mk (Kd.R_below (Kd.pR HO296.out) hb)
    have n1_ := Aside0.mk (Kd.R_below (Kd.pR HO303.out) hb)
    have n2_ := Aside0.mk (Kd.R_below (Kd.pR HO309.out) hb)
    have n3_ := Aside0.mk (blk_below (pk BK290.out) hb)
    have n4_ := Aside0.mk (blk_below (pk BK291.out) hb)
    have n5_ := Aside0.mk (blk_below (pk BK305.out) hb)
    have n6_ := Aside0.mk (blk_below (pk BK310.out) hb)
    have n7_ := Aside0.mk (below_step (by repeat (first | (with_reducible first | exact HB.out | apply below_alloc | apply pw_below_drewN | apply below_drew1 | refine below_set ?_ (Aside0.out (by assumption))) | exact HB.out)) hb)
    have n8_ := Aside0.mk (hbox)
    have n9_ := Aside0.mk ((by rw [hg]; exact (below_size (by repeat (first | (with_reducible first | exact HB.out | apply below_alloc | apply pw_below_drewN | apply below_drew1 | refine below_set ?_ (Aside0.out (by assumption))) | exact HB.out))) : w.heap.size ≤ gb319))
    have n10_ := n9_
    have n11_ := Aside0.mk ((by rw [hg]; exact Nat.ne_of_lt (blk_lt (pk BK290.out)) : gb290 ≠ gb319))
    have n12_ := Aside0.mk n11_.out.symm
    have n13_ := Aside0.mk ((by rw [hg]; exact Nat.ne_of_lt (blk_lt (pk BK291.out)) : gb291 ≠ gb319))
    have n14_ := Aside0.mk n13_.out.symm
    have n15_ := Aside0.mk ((by rw [hg]; exact Nat.ne_of_lt (blk_lt (pk BK305.out)) : gb305 ≠ gb319))
    have n16_ := Aside0.mk n15_.out.symm
    have n17_ := Aside0.mk ((by rw [hg]; exact Nat.ne_of_lt (blk_lt (pk BK310.out)) : gb310 ≠ gb319))
    have n18_ := Aside0.mk n17_.out.symm
    clear HO296 HO303 HO309 BK290 BK291 BK305 BK310 HB
    have HO296 := n0_; have HO303 := n1_; have HO309 := n2_; have BK290 := n3_; have BK291 := n4_; have BK305 := n5_; have BK310 := n6_; have HB := n7_; have BK319 := n8_; have GW319 := n9_; have GE319 := n10_; have NB290_319 := n11_; have NB319_290 := n12_; have NB291_319 := n13_; have NB319_291 := n14_; have NB305_319 := n15_; have NB319_305 := n16_; have NB310_319 := n17_; have NB319_310 := n18_
    clear n0_ n1_ n2_ n3_ n4_ n5_ n6_ n7_ n8_ n9_ n10_ n11_ n12_ n13_ n14_ n15_ n16_ n17_ n18_ hb hbox hg
    refine hK.out _ _ ⟨(blk_cell BK310.out 0).trans rfl, (blk_cell BK310.out 1).trans rfl, (blk_cell BK291.out 0).trans rfl, (blk_cell BK291.out 1).trans rfl, (blk_cell BK291.out 2).trans rfl⟩ (fun hHeld => ?_)
    clear hK K
    refine norm_ (a' := ?_) ?_ ?_
    rotate_left
    ·
     show Act.put _ (some 9) _ = _
     simp only [Act.put, List.setIfInBounds_toArray, List.set_cons_zero, List.set_cons_succ, i64_w, i32_w]
     rfl
    refine one_ (i := 2) (N := some 34) #[true, true, true, false, false, false, false, true, false, false] rfl rfl (one_of HT_.out (by kernel_rfl)) (by decide) (fun K hK => ?_)
    refine goes_ Try.func11 (by kernel_rfl) rfl #[.agg #[.int .i64 a1_0, .int .i64 a1_1, .int .i64 a1_2]] (by rfl) rfl rfl (by (try simp only [List.map_toArray, List.map_cons, List.map_nil]); first | done | rfl | (simp only [List.length_drop, List.length_take]; rfl)) ?_
    with_reducible refine (laws_toClue.calls a1_0 a1_1 a1_2 t311 t312 t313 _ A15.out).mono ?_
    rintro e w41 ⟨rfl, hb⟩
    refine ⟨_, rfl, ?_⟩
    have n0_ := Aside0.mk (Kd.R_below (Kd.pR HO296.out) hb)
    have n1_ := Aside0.mk (Kd.R_below (Kd.pR HO303.out) hb)
    have n2_ := Aside0.mk (Kd.R_below (Kd.pR HO309.out) hb)
    have n3_ := Aside0.mk (blk_below (pk BK290.out) hb)
    have n4_ := Aside0.mk (blk_below (pk BK291.out) hb)
    have n5_ := Aside0.mk (blk_below (pk BK305.out) hb)
    have n6_ := Aside0.mk (blk_below (pk BK310.out) hb)
    have n7_ := Aside0.mk (blk_below (pk BK319.out) hb)
    have n8_ := Aside0.mk (below_step (by repeat (first | (with_reducible first | exact HB.out | apply below_alloc | apply pw_below_drewN | apply below_drew1 | refine below_set ?_ (Aside0.out (by assumption))) | exact HB.out)) hb)
    clear HO296 HO303 HO309 BK290 BK291 BK305 BK310 BK319 HB
    have HO296 := n0_; have HO303 := n1_; have HO309 := n2_; have BK290 := n3_; have BK291 := n4_; have BK305 := n5_; have BK310 := n6_; have BK319 := n7_; have HB := n8_
    clear n0_ n1_ n2_ n3_ n4_ n5_ n6_ n7_ n8_
    (try clear hb)
    (try clear hb2)
    (try clear hk)
    (try clear hi)
    refine hK.out _ _ ⟨(blk_cell BK310.out 0).trans rfl, (blk_cell BK310.out 1).trans rfl, (blk_cell BK291.out 0).trans rfl, (blk_cell BK291.out 1).trans rfl, (blk_cell BK291.out 2).trans rfl⟩ (fun hHeld => ?_)
    clear hK K
    refine norm_ (a' := ?_) ?_ ?_
    rotate_left
    ·
     show Act.put _ (some 34) _ = _
     simp only [Act.put, List.setIfInBounds_toArray, List.set_cons_zero, List.set_cons_succ, i64_w, i32_w]
     rfl
    refine one_ (i := 3) (N := some 35) #[true, true, true, true, false, false, false, true, false, false] rfl rfl (one_of HT_.out (by kernel_rfl)) (by decide) (fun K hK => ?_)
    refine goes_ Try.func31 (by kernel_rfl) rfl #[.agg #[.int .i64 t306, .slice Ao37 t307.length co37], .agg #[.int .i64 t311, .int .i64 t312, .int .i64 t313]] (by rfl) rfl rfl (by (try simp only [List.map_toArray, List.map_cons, List.map_nil]); first | done | rfl | (simp only [List.length_drop, List.length_take]; rfl)) ?_
    with_reducible refine (impl_AddClue.calls k t306 _ _ t307 t311 t312 t313 t314 t315 t318 _ ?side1 ?side2 A16.out).mono ?_
    (case side1 => repeat (first | exact (Kd.R_reads' HO309.out).2.2 | (with_reducible refine Kd.C_alloc ?_ _) | (with_reducible refine Kd.C_drewN ?_ _) | (with_reducible refine Kd.C_drew ?_)))
    (case side2 => exact (Kd.R_reads' HO309.out).2.1)
    rintro e w42 ⟨v316, rfl, ho0, hb⟩
    refine ⟨_, rfl, ?_⟩
    have n0_ := Aside0.mk (Kd.R_elder' (Kd.pR HO296.out) (Kd.R_base ho0) hb)
    have n1_ := Aside0.mk (Kd.R_elder' (Kd.pR HO303.out) (Kd.R_base ho0) hb)
    have n2_ := Aside0.mk (Kd.R_elder' (Kd.pR HO309.out) (Kd.R_base ho0) hb)
    have n3_ := Aside0.mk (Kd.R_lower (Kd.R_new' (Kd.R_new' (Kd.R_new' ho0 (Kd.R_lt (Kd.pR HO296.out))) (Kd.R_lt (Kd.pR HO303.out))) (Kd.R_lt (Kd.pR HO309.out))) (below_size (by repeat (first | (with_reducible first | exact HB.out | apply below_alloc | apply pw_below_drewN | apply below_drew1 | refine below_set ?_ (Aside0.out (by assumption))) | exact HB.out))))
    have n4_ := Aside0.mk (blk_below (pk BK290.out) hb)
    have n5_ := Aside0.mk (blk_below (pk BK291.out) hb)
    have n6_ := Aside0.mk (blk_below (pk BK305.out) hb)
    have n7_ := Aside0.mk (blk_below (pk BK310.out) hb)
    have n8_ := Aside0.mk (blk_below (pk BK319.out) hb)
    have n9_ := Aside0.mk (below_step (by repeat (first | (with_reducible first | exact HB.out | apply below_alloc | apply pw_below_drewN | apply below_drew1 | refine below_set ?_ (Aside0.out (by assumption))) | exact HB.out)) hb)
    clear HO296 HO303 HO309 BK290 BK291 BK305 BK310 BK319 HB
    have HO296 := n0_; have HO303 := n1_; have HO309 := n2_; have HO317 := n3_; have BK290 := n4_; have BK291 := n5_; have BK305 := n6_; have BK310 := n7_; have BK319 := n8_; have HB := n9_
    clear n0_ n1_ n2_ n3_ n4_ n5_ n6_ n7_ n8_ n9_
    (try clear hb)
    (try clear hb2)
    (try clear hk)
    (try clear hi)
    (try clear ho0)
    refine hK.out _ _ ⟨(blk_cell BK310.out 0).trans rfl, (blk_cell BK310.out 1).trans rfl, (blk_cell BK291.out 0).trans rfl, (blk_cell BK291.out 1).trans rfl, (blk_cell BK291.out 2).trans rfl⟩ (fun hHeld => ?_)
    clear hK K
    refine norm_ (a' := ?_) ?_ ?_
    rotate_left
    ·
     show Act.put _ (some 35) _ = _
     simp only [Act.put, List.setIfInBounds_toArray, List.set_cons_zero, List.set_cons_succ, i64_w, i32_w]
     rfl
    refine pure_ (i := 4) (N := some 31) (v := ?_) (a' := ?_) #[true, true, true, true, true, false, false, true, false, false] rfl rfl (any_of HT_.out (by kernel_rfl)) (fun _ _ _ h => h) (Or.inl ⟨by rfl, ?_⟩) ?_ ?_
    rotate_left
    ·
     intro w'
     go_simp
     with_reducible rfl
    rotate_left
    ·
     simp only [Act.put, List.setIfInBounds_toArray, List.set_cons_zero, List.set_cons_succ, i64_w, i32_w]
     rfl
    refine pure_ (i := 5) (N := some 36) (v := ?_) (a' := ?_) #[true, true, true, true, true, true, false, true, false, false] rfl rfl (any_of HT_.out (by kernel_rfl)) (fun _ _ _ h => h) (Or.inl ⟨by rfl, ?_⟩) ?_ ?_
    rotate_left
    ·
     intro w'
     go_simp
     with_reducible rfl
    rotate_left
    ·
     simp only [Act.put, List.setIfInBounds_toArray, List.set_cons_zero, List.set_cons_succ, i64_w, i32_w]
     rfl
    refine pure_ (i := 6) (N := some 37) (v := ?_) (a' := ?_) #[true, true, true, true, true, true, true, true, false, false] rfl rfl (any_of HT_.out (by kernel_rfl)) (fun _ _ _ h => h) (Or.inl ⟨by rfl, ?_⟩) ?_ ?_
    rotate_left
    ·
     intro w'
     go_simp
     with_reducible rfl
    rotate_left
    ·
     simp only [Act.put, List.setIfInBounds_toArray, List.set_cons_zero, List.set_cons_succ, i64_w, i32_w]
     rfl
    exact norm_ (by simp only [putAll, Act.put, List.setIfInBounds_toArray, List.set_cons_zero, List.set_cons_succ]) (hCont (v316, gb319) _ ⟨hHeld, (by (with_reducible repeat (first | apply Kd.R_alloc | apply Kd.R_drewN | apply Kd.R_drew)); exact Kd.R_mono HO296.out (fun _ hk => ⟨hk.1.1, ⟨hk.1.2, hk.2⟩⟩)), (by (with_reducible repeat (first | apply Kd.R_alloc | apply Kd.R_drewN | apply Kd.R_drew)); exact Kd.R_mono HO303.out (fun _ hk => ⟨hk.1.1, ⟨hk.1.2, hk.2⟩⟩)), (by (with_reducible repeat (first | apply Kd.R_alloc | apply Kd.R_drewN | apply Kd.R_drew)); exact Kd.R_mono HO309.out (fun _ hk => ⟨hk.1.1, ⟨hk.1.2, hk.2⟩⟩)), (by (with_reducible repeat (first | apply Kd.R_alloc | apply Kd.R_drewN | apply Kd.R_drew)); exact Kd.R_mono HO317.out (fun _ hk => ⟨hk.1.1.2, ⟨hk.1.2, hk.2⟩⟩)), (pk BK290.out), (pk BK291.out), (pk BK305.out), (pk BK310.out), (pk BK319.out), GW319.out, GE319.out, NB290_319.out, NB319_290.out, NB291_319.out, NB319_291.out, NB305_319.out, NB319_305.out, NB310_319.out, NB319_310.out, (by repeat (first | (with_reducible first | exact HB.out | apply below_alloc | apply pw_below_drewN | apply below_drew1 | refine below_set ?_ (Aside0.out (by assumption))) | exact HB.out))⟩)
  rintro ⟨v316, gb319⟩ w43 ⟨hS_, h0_, h1_, h2_, h3_, h4_, h5_, h6_, h7_, h8_, h9_, h10_, h11_, h12_, h13_, h14_, h15_, h16_, h17_, h18_, h19_⟩
  have n0_ : Aside0 (Kd.R k25 25 w43 w.heap.size (fun k_ => some k_ ≠ (.slice Ao26 t301.length co26 : Value).ownBlock ∧ some k_ ≠ (.slice Ao37 t307.length co37 : Value).ownBlock ∧ some k_ ≠ (v316 : Value).ownBlock) v295 t294) := ⟨h0_⟩
  have n1_ : Aside0 (Kd.R k25 25 w43 w.heap.size (fun k_ => some k_ ≠ (v295 : Value).ownBlock ∧ some k_ ≠ (.slice Ao37 t307.length co37 : Value).ownBlock ∧ some k_ ≠ (v316 : Value).ownBlock) (.slice Ao26 t301.length co26) t301) := ⟨h1_⟩
  have n2_ : Aside0 (Kd.R k25 25 w43 w.heap.size (fun k_ => some k_ ≠ (v295 : Value).ownBlock ∧ some k_ ≠ (.slice Ao26 t301.length co26 : Value).ownBlock ∧ some k_ ≠ (v316 : Value).ownBlock) (.slice Ao37 t307.length co37) t307) := ⟨h2_⟩
  have n3_ : Aside0 (Kd.R k25 25 w43 w.heap.size (fun k_ => some k_ ≠ (v295 : Value).ownBlock ∧ some k_ ≠ (.slice Ao26 t301.length co26 : Value).ownBlock ∧ some k_ ≠ (.slice Ao37 t307.length co37 : Value).ownBlock) v316 t315) := ⟨h3_⟩
  have n4_ : Aside0 (w43.heap[gb290]? = some (.cells #[.int .i64 a0_0, .slice A0_1 l0_1.length c0_1] 34 (0, 0))) := ⟨h4_⟩
  have n5_ : Aside0 (w43.heap[gb291]? = some (.cells #[.int .i64 a1_0, .int .i64 a1_1, .int .i64 a1_2] 23 (0, 0))) := ⟨h5_⟩
  have n6_ : Aside0 (w43.heap[gb305]? = some (.cells #[.int .i64 t300, .slice Ao26 t301.length co26] 39 (0, 0))) := ⟨h6_⟩
  have n7_ : Aside0 (w43.heap[gb310]? = some (.cells #[.int .i64 t306, .slice Ao37 t307.length co37] 39 (0, 0))) := ⟨h7_⟩
  have n8_ : Aside0 (w43.heap[gb319]? = some (.cells #[.int .i64 0, .slice none 0 0] 39 (0, 0))) := ⟨h8_⟩
  have n9_ : Aside0 (w.heap.size ≤ gb319) := ⟨h9_⟩
  have n10_ : Aside0 (w.heap.size ≤ gb319) := ⟨h10_⟩
  have n11_ : Aside0 (gb290 ≠ gb319) := ⟨h11_⟩
  have n12_ : Aside0 (gb319 ≠ gb290) := ⟨h12_⟩
  have n13_ : Aside0 (gb291 ≠ gb319) := ⟨h13_⟩
  have n14_ : Aside0 (gb319 ≠ gb291) := ⟨h14_⟩
  have n15_ : Aside0 (gb305 ≠ gb319) := ⟨h15_⟩
  have n16_ : Aside0 (gb319 ≠ gb305) := ⟨h16_⟩
  have n17_ : Aside0 (gb310 ≠ gb319) := ⟨h17_⟩
  have n18_ : Aside0 (gb319 ≠ gb310) := ⟨h18_⟩
  have n19_ : Aside0 (Below w.heap.size w w43) := ⟨h19_⟩
  clear HO296 HO303 HO309 BK290 BK291 BK305 BK310 HB h0_ h1_ h2_ h3_ h4_ h5_ h6_ h7_ h8_ h9_ h10_ h11_ h12_ h13_ h14_ h15_ h16_ h17_ h18_ h19_
  have HO296 := n0_; have HO303 := n1_; have HO309 := n2_; have HO317 := n3_; have BK290 := n4_; have BK291 := n5_; have BK305 := n6_; have BK310 := n7_; have BK319 := n8_; have GW319 := n9_; have GE319 := n10_; have NB290_319 := n11_; have NB319_290 := n12_; have NB291_319 := n13_; have NB319_291 := n14_; have NB305_319 := n15_; have NB319_305 := n16_; have NB310_319 := n17_; have NB319_310 := n18_; have HB := n19_
  clear n0_ n1_ n2_ n3_ n4_ n5_ n6_ n7_ n8_ n9_ n10_ n11_ n12_ n13_ n14_ n15_ n16_ n17_ n18_ n19_
  have hHeld : w43.cell? ⟨gb310, 0, none⟩ = some (.int .i64 t306) ∧ w43.cell? ⟨gb310, 1, none⟩ = some (.slice Ao37 t307.length co37) ∧ w43.cell? ⟨gb291, 0, none⟩ = some (.int .i64 a1_0) ∧ w43.cell? ⟨gb291, 1, none⟩ = some (.int .i64 a1_1) ∧ w43.cell? ⟨gb291, 2, none⟩ = some (.int .i64 a1_2) := hS_
  obtain ⟨Ao45, co45, eo45⟩ := Kd.R_slice HO317.out
  (first | subst eo45 | (injection eo45 with f1_ f2_ f3_; have f4_ := f1_.symm; have f5_ := f3_.symm; clear f1_ f2_ f3_; subst f4_; subst f5_))
  refine norm_ (a' := ?_) ?_ ?_
  rotate_left
  ·
   simp only [putAll, Act.put, List.setIfInBounds_toArray, List.set_cons_zero, List.set_cons_succ]
   rfl
  refine one_ (i := 8) (N := none) #[true, true, true, true, true, true, true, true, true, false] rfl rfl (one_of HT_.out (by kernel_rfl)) (by decide) (fun K hK => ?_)
  have hs44 : w43.cell? ⟨gb319, 0, none⟩ = some (.int .i64 0) := (blk_cell BK319.out 0).trans rfl
  have hfs44 := blk_frozen BK319.out 0
  have hns44_0 := NB290_319.out
  have hns44_1 := NB291_319.out
  have hns44_2 := NB305_319.out
  have hns44_3 := NB310_319.out
  have hms44_0 := NB319_290.out
  have hms44_1 := NB319_291.out
  have hms44_2 := NB319_305.out
  have hms44_3 := NB319_310.out
  have hs46 : w43.cell? ⟨gb319, 1, none⟩ = some (.slice none 0 0) := (blk_cell BK319.out 1).trans rfl
  have hfs46 := blk_frozen BK319.out 1
  have hns46_0 := NB290_319.out
  have hns46_1 := NB291_319.out
  have hns46_2 := NB305_319.out
  have hns46_3 := NB310_319.out
  have hms46_0 := NB319_290.out
  have hms46_1 := NB319_291.out
  have hms46_2 := NB319_305.out
  have hms46_3 := NB319_310.out
  refine skip_ (w1 := ?_) (by rfl) rfl ?_ ?_
  rotate_left
  ·
   go_simp
   rfl
  refine hK.out _ _ ⟨((cell_far (p := ⟨gb319, _, none⟩) NB310_319.out _).trans (((cell_far (p := ⟨gb319, _, none⟩) NB310_319.out _).trans (hHeld.1)))), ((cell_far (p := ⟨gb319, _, none⟩) NB310_319.out _).trans (((cell_far (p := ⟨gb319, _, none⟩) NB310_319.out _).trans (hHeld.2.1)))), ((cell_far (p := ⟨gb319, _, none⟩) NB291_319.out _).trans (((cell_far (p := ⟨gb319, _, none⟩) NB291_319.out _).trans (hHeld.2.2.1)))), ((cell_far (p := ⟨gb319, _, none⟩) NB291_319.out _).trans (((cell_far (p := ⟨gb319, _, none⟩) NB291_319.out _).trans (hHeld.2.2.2.1)))), ((cell_far (p := ⟨gb319, _, none⟩) NB291_319.out _).trans (((cell_far (p := ⟨gb319, _, none⟩) NB291_319.out _).trans (hHeld.2.2.2.2))))⟩ (fun hHeld => ?_)
  clear hK K
  refine pure_ (i := 9) (N := some 10) (v := ?_) (a' := ?_) #[true, true, true, true, true, true, true, true, true, true] rfl rfl (any_of HT_.out (by kernel_rfl)) (fun _ _ _ h => h) (Or.inl ⟨by rfl, ?_⟩) ?_ ?_
  rotate_left
  ·
   intro w'
   go_simp
   with_reducible rfl
  rotate_left
  ·
   simp only [Act.put, List.setIfInBounds_toArray, List.set_cons_zero, List.set_cons_succ, i64_w, i32_w]
   rfl
  refine done_ (done_of HT_.out (by kernel_rfl)) ?_
  go_upto_region 8 with (fail)
  go_cut [46] (fun v46 wc => ∃ (kq : Nat) (x46_16 : Bool), v46 = .bool x46_16 ∧ Aside0 (laws_FnExactAddClue.j0 kq t304 t318 x46_16 a0_0 l0_1 a1_0 a1_1 a1_2 t300 t301 t306 t307 t314 t315 = some r) ∧ Aside0 (kq ≤ k) ∧ Aside0 (Kd.R k25 25 wc w.heap.size (fun k_ => some k_ ≠ ((.slice Ao37 t307.length co37) : Value).ownBlock ∧ some k_ ≠ ((.slice Ao45 t315.length co45) : Value).ownBlock) (.slice Ao26 t301.length co26) t301) ∧ Aside0 (Kd.R k25 25 wc w.heap.size (fun k_ => some k_ ≠ ((.slice Ao26 t301.length co26) : Value).ownBlock ∧ some k_ ≠ ((.slice Ao45 t315.length co45) : Value).ownBlock) (.slice Ao37 t307.length co37) t307) ∧ Aside0 (Kd.R k25 25 wc w.heap.size (fun k_ => some k_ ≠ ((.slice Ao26 t301.length co26) : Value).ownBlock ∧ some k_ ≠ ((.slice Ao37 t307.length co37) : Value).ownBlock) (.slice Ao45 t315.length co45) t315) ∧ Aside0 (wc.heap[gb290]? = some (.cells #[.int .i64 a0_0, (.slice A0_1 l0_1.length c0_1)] 34 (0, 0))) ∧ Aside0 (wc.heap[gb291]? = some (.cells #[.int .i64 a1_0, .int .i64 a1_1, .int .i64 a1_2] 23 (0, 0))) ∧ Aside0 (wc.heap[gb305]? = some (.cells #[.int .i64 t300, (.slice Ao26 t301.length co26)] 39 (0, 0))) ∧ Aside0 (wc.heap[gb310]? = some (.cells #[.int .i64 t306, (.slice Ao37 t307.length co37)] 39 (0, 0))) ∧ Aside0 (wc.heap[gb319]? = some (.cells #[.int .i64 t314, (.slice Ao45 t315.length co45)] 39 (0, 0))) ∧ Aside0 (Below w.heap.size w wc))
  case first =>
   have H := HC17.out
   clear HC17
   replace H := Option.bind_eq_some_iff.mp H
   obtain ⟨t320, A470, H⟩ := H
   replace H : (if t320 = true then (laws_FnExactAddClue.j0 k t304 t318 (t318 != t304) a0_0 l0_1 a1_0 a1_1 a1_2 t300 t301 t306 t307 t314 t315) else (laws_FnExactAddClue.j0 k t304 t318 true a0_0 l0_1 a1_0 a1_1 a1_2 t300 t301 t306 t307 t314 t315)) = some r := H
   have A47 := Aside0.mk A470
   clear A470
   by_cases c48 : t320 = true
   ·
    subst c48
    have H1 : (laws_FnExactAddClue.j0 k t304 t318 (t318 != t304) a0_0 l0_1 a1_0 a1_1 a1_2 t300 t301 t306 t307 t314 t315) = some r := by rw [if_pos rfl] at H; exact H
    clear H
    have H := H1
    clear H1
    have H' := Aside0.mk H
    clear H
    have hnb49 := NB319_290.out
    have hnc49 := NB290_319.out
    have hnb50 := NB319_291.out
    have hnc50 := NB291_319.out
    have hnb51 := NB319_305.out
    have hnc51 := NB305_319.out
    have hnb52 := NB319_310.out
    have hnc52 := NB310_319.out
    have hcz53_0 : w43.cell? ⟨gb319, 0, none⟩ = some (.int .i64 0) := (blk_cell BK319.out 0).trans rfl
    have hcz53_1 : w43.cell? ⟨gb319, 1, none⟩ = some (.slice none 0 0) := (blk_cell BK319.out 1).trans rfl
    have hfz53_0 := blk_frozen BK319.out 0
    have hfz53_1 := blk_frozen BK319.out 1
    have hnb54 := NB305_290.out
    have hnc54 := NB290_305.out
    have hnb55 := NB305_291.out
    have hnc55 := NB291_305.out
    have hnb56 := NB305_310.out
    have hnc56 := NB310_305.out
    have hcz57_0 : w43.cell? ⟨gb305, 0, none⟩ = some (.int .i64 t300) := (blk_cell BK305.out 0).trans rfl
    have hcz57_1 : w43.cell? ⟨gb305, 1, none⟩ = some (.slice Ao26 t301.length co26) := (blk_cell BK305.out 1).trans rfl
    have hfz57_0 := blk_frozen BK305.out 0
    have hfz57_1 := blk_frozen BK305.out 1
    go_wp2_with (first | ((with_reducible refine gate_callee (f := 21) rfl ?_); refine goesL_ (some 40) rfl rfl Try.func21 (by kernel_rfl) rfl #[.agg #[.int .i64 t314, .slice Ao45 t315.length co45], .agg #[.int .i64 t300, .slice Ao26 t301.length co26]] rfl (by (try simp only [List.map_toArray, List.map_cons, List.map_nil]); first | done | rfl | (simp only [List.length_drop, List.length_take]; rfl)) ?_; (with_reducible refine (laws_eqPuzzle.calls k t314 _ _ t315 t300 _ _ t301 true _ ?side1 ?side2 ?side3 ?side4 A47.out).mono ?_); (case side1 => refine (Kd.R_reads' (e := 25) (base := w.heap.size) (ok := fun k_ => (some k_ ≠ (v295 : Value).ownBlock ∧ (some k_ ≠ (.slice Ao26 t301.length co26 : Value).ownBlock ∧ some k_ ≠ (.slice Ao37 t307.length co37 : Value).ownBlock))) (n := t315.length) (c := co45) ?_).2.2; exact (by (with_reducible repeat (first | apply Kd.R_alloc | apply Kd.R_drewN | apply Kd.R_drew)); exact (Kd.R_mono (Kd.R_far (p := ⟨gb319, 1, none⟩) (Kd.R_far (p := ⟨gb319, 0, none⟩) (Kd.R_types HO317.out BK319.out (by decide)) (fun _ hk => hk.2) (.int .i64 t314)) (fun _ hk => hk.2) (.slice Ao45 t315.length co45)) (fun _ h_ => h_.1)))); (case side2 => exact (Kd.R_reads' HO317.out).2.1); (case side3 => refine (Kd.R_reads' (e := 25) (base := w.heap.size) (ok := fun k_ => (some k_ ≠ (v295 : Value).ownBlock ∧ (some k_ ≠ (.slice Ao37 t307.length co37 : Value).ownBlock ∧ some k_ ≠ (.slice Ao45 t315.length co45 : Value).ownBlock))) (n := t301.length) (c := co26) ?_).2.2; exact (by (with_reducible repeat (first | apply Kd.R_alloc | apply Kd.R_drewN | apply Kd.R_drew)); exact (Kd.R_mono (Kd.R_far (p := ⟨gb319, 1, none⟩) (Kd.R_far (p := ⟨gb319, 0, none⟩) (Kd.R_types HO303.out BK319.out (by decide)) (fun _ hk => hk.2) (.int .i64 t314)) (fun _ hk => hk.2) (.slice Ao45 t315.length co45)) (fun _ h_ => h_.1)))); (case side4 => exact (Kd.R_reads' HO303.out).2.1); rintro e w58 ⟨rfl, hb⟩; refine ⟨_, rfl, ?_⟩; have n0_ := Aside0.mk (Kd.R_below (by (with_reducible repeat (first | apply Kd.R_alloc | apply Kd.R_drewN | apply Kd.R_drew)); exact (Kd.R_mono (Kd.R_far (p := ⟨gb319, 1, none⟩) (Kd.R_far (p := ⟨gb319, 0, none⟩) (Kd.R_types HO296.out BK319.out (by decide)) (fun _ hk => hk.2) (.int .i64 t314)) (fun _ hk => hk.2) (.slice Ao45 t315.length co45)) (fun _ h_ => h_.1))) hb); have n1_ := Aside0.mk (Kd.R_below (by (with_reducible repeat (first | apply Kd.R_alloc | apply Kd.R_drewN | apply Kd.R_drew)); exact (Kd.R_mono (Kd.R_far (p := ⟨gb319, 1, none⟩) (Kd.R_far (p := ⟨gb319, 0, none⟩) (Kd.R_types HO303.out BK319.out (by decide)) (fun _ hk => hk.2) (.int .i64 t314)) (fun _ hk => hk.2) (.slice Ao45 t315.length co45)) (fun _ h_ => h_.1))) hb); have n2_ := Aside0.mk (Kd.R_below (by (with_reducible repeat (first | apply Kd.R_alloc | apply Kd.R_drewN | apply Kd.R_drew)); exact (Kd.R_mono (Kd.R_far (p := ⟨gb319, 1, none⟩) (Kd.R_far (p := ⟨gb319, 0, none⟩) (Kd.R_types HO309.out BK319.out (by decide)) (fun _ hk => hk.2) (.int .i64 t314)) (fun _ hk => hk.2) (.slice Ao45 t315.length co45)) (fun _ h_ => h_.1))) hb); have n3_ := Aside0.mk (Kd.R_below (by (with_reducible repeat (first | apply Kd.R_alloc | apply Kd.R_drewN | apply Kd.R_drew)); exact (Kd.R_mono (Kd.R_far (p := ⟨gb319, 1, none⟩) (Kd.R_far (p := ⟨gb319, 0, none⟩) (Kd.R_types HO317.out BK319.out (by decide)) (fun _ hk => hk.2) (.int .i64 t314)) (fun _ hk => hk.2) (.slice Ao45 t315.length co45)) (fun _ h_ => h_.1))) hb); have n4_ := Aside0.mk (blk_below (g := gb290) (o := .cells #[.int .i64 a0_0, .slice A0_1 l0_1.length c0_1] 34 (0, 0)) (by (with_reducible repeat (first | refine blk_drewN ?_ _ | refine blk_drew ?_ | refine blk_alloc ?_ _)); refine blk_far ?_ NB290_319.out _; (with_reducible repeat (first | refine blk_drewN ?_ _ | refine blk_drew ?_ | refine blk_alloc ?_ _)); refine blk_far ?_ NB290_319.out _; (with_reducible repeat (first | refine blk_drewN ?_ _ | refine blk_drew ?_ | refine blk_alloc ?_ _)); exact BK290.out) hb); have n5_ := Aside0.mk (blk_below (g := gb291) (o := .cells #[.int .i64 a1_0, .int .i64 a1_1, .int .i64 a1_2] 23 (0, 0)) (by (with_reducible repeat (first | refine blk_drewN ?_ _ | refine blk_drew ?_ | refine blk_alloc ?_ _)); refine blk_far ?_ NB291_319.out _; (with_reducible repeat (first | refine blk_drewN ?_ _ | refine blk_drew ?_ | refine blk_alloc ?_ _)); refine blk_far ?_ NB291_319.out _; (with_reducible repeat (first | refine blk_drewN ?_ _ | refine blk_drew ?_ | refine blk_alloc ?_ _)); exact BK291.out) hb); have n6_ := Aside0.mk (blk_below (g := gb305) (o := .cells #[.int .i64 t300, .slice Ao26 t301.length co26] 39 (0, 0)) (by (with_reducible repeat (first | refine blk_drewN ?_ _ | refine blk_drew ?_ | refine blk_alloc ?_ _)); refine blk_far ?_ NB305_319.out _; (with_reducible repeat (first | refine blk_drewN ?_ _ | refine blk_drew ?_ | refine blk_alloc ?_ _)); refine blk_far ?_ NB305_319.out _; (with_reducible repeat (first | refine blk_drewN ?_ _ | refine blk_drew ?_ | refine blk_alloc ?_ _)); exact BK305.out) hb); have n7_ := Aside0.mk (blk_below (g := gb310) (o := .cells #[.int .i64 t306, .slice Ao37 t307.length co37] 39 (0, 0)) (by (with_reducible repeat (first | refine blk_drewN ?_ _ | refine blk_drew ?_ | refine blk_alloc ?_ _)); refine blk_far ?_ NB310_319.out _; (with_reducible repeat (first | refine blk_drewN ?_ _ | refine blk_drew ?_ | refine blk_alloc ?_ _)); refine blk_far ?_ NB310_319.out _; (with_reducible repeat (first | refine blk_drewN ?_ _ | refine blk_drew ?_ | refine blk_alloc ?_ _)); exact BK310.out) hb); have n8_ := Aside0.mk (blk_below (g := gb319) (o := .cells #[.int .i64 t314, .slice Ao45 t315.length co45] 39 (0, 0)) (by (with_reducible repeat (first | refine blk_drewN ?_ _ | refine blk_drew ?_ | refine blk_alloc ?_ _)); refine blk_put (cs := #[.int .i64 t314, .slice none 0 0]) ?_ 1 _ rfl; (with_reducible repeat (first | refine blk_drewN ?_ _ | refine blk_drew ?_ | refine blk_alloc ?_ _)); refine blk_put (cs := #[.int .i64 0, .slice none 0 0]) ?_ 0 _ rfl; (with_reducible repeat (first | refine blk_drewN ?_ _ | refine blk_drew ?_ | refine blk_alloc ?_ _)); exact BK319.out) hb); have n9_ := Aside0.mk (below_step (by repeat (first | (with_reducible first | exact HB.out | apply below_alloc | apply pw_below_drewN | apply below_drew1 | refine below_set ?_ (Aside0.out (by assumption))) | exact HB.out)) hb); clear HO296; clear HO303; clear HO309; clear HO317; clear BK290; clear BK291; clear BK305; clear BK310; clear BK319; clear HB; have HO296 := n0_; have HO303 := n1_; have HO309 := n2_; have HO317 := n3_; have BK290 := n4_; have BK291 := n5_; have BK305 := n6_; have BK310 := n7_; have BK319 := n8_; have HB := n9_; clear n0_ n1_ n2_ n3_ n4_ n5_ n6_ n7_ n8_ n9_; (try clear hb); (try clear hb2); (try clear hk); (try clear hi)))
    go_meet
    case rel => exact ⟨_, ((t318 != t304)), (by first | rfl | (simp; done) | (simp [*]; done)), H', ⟨by first | omega | exact Nat.le_refl _⟩, ⟨by (with_reducible repeat (first | apply Kd.R_alloc | apply Kd.R_drewN | apply Kd.R_drew)); exact Kd.R_mono HO303.out (fun _ hk => ⟨hk.2.1, hk.2.2⟩)⟩, ⟨by (with_reducible repeat (first | apply Kd.R_alloc | apply Kd.R_drewN | apply Kd.R_drew)); exact Kd.R_mono HO309.out (fun _ hk => ⟨hk.2.1, hk.2.2⟩)⟩, ⟨by (with_reducible repeat (first | apply Kd.R_alloc | apply Kd.R_drewN | apply Kd.R_drew)); exact Kd.R_mono HO317.out (fun _ hk => ⟨hk.2.1, hk.2.2⟩)⟩, ⟨by (with_reducible repeat (first | refine blk_drewN ?_ _ | refine blk_drew ?_ | refine blk_alloc ?_ _)); exact BK290.out⟩, ⟨by (with_reducible repeat (first | refine blk_drewN ?_ _ | refine blk_drew ?_ | refine blk_alloc ?_ _)); exact BK291.out⟩, ⟨by (with_reducible repeat (first | refine blk_drewN ?_ _ | refine blk_drew ?_ | refine blk_alloc ?_ _)); exact BK305.out⟩, ⟨by (with_reducible repeat (first | refine blk_drewN ?_ _ | refine blk_drew ?_ | refine blk_alloc ?_ _)); exact BK310.out⟩, ⟨by (with_reducible repeat (first | refine blk_drewN ?_ _ | refine blk_drew ?_ | refine blk_alloc ?_ _)); exact BK319.out⟩, ⟨by repeat (first | (with_reducible first | exact HB.out | apply below_alloc | apply pw_below_drewN | apply below_drew1 | refine below_set ?_ (Aside0.out (by assumption))) | exact HB.out)⟩⟩
   ·
    replace c48 := Bool.eq_false_iff.mpr c48
    subst c48
    have H1 : (laws_FnExactAddClue.j0 k t304 t318 true a0_0 l0_1 a1_0 a1_1 a1_2 t300 t301 t306 t307 t314 t315) = some r := by rw [if_neg (show ¬ (false = true) by decide)] at H; exact H
    clear H
    have H := H1
    clear H1
    have H' := Aside0.mk H
    clear H
    have hnb59 := NB319_290.out
    have hnc59 := NB290_319.out
    have hnb60 := NB319_291.out
    have hnc60 := NB291_319.out
    have hnb61 := NB319_305.out
    have hnc61 := NB305_319.out
    have hnb62 := NB319_310.out
    have hnc62 := NB310_319.out
    have hcz63_0 : w43.cell? ⟨gb319, 0, none⟩ = some (.int .i64 0) := (blk_cell BK319.out 0).trans rfl
    have hcz63_1 : w43.cell? ⟨gb319, 1, none⟩ = some (.slice none 0 0) := (blk_cell BK319.out 1).trans rfl
    have hfz63_0 := blk_frozen BK319.out 0
    have hfz63_1 := blk_frozen BK319.out 1
    have hnb64 := NB305_290.out
    have hnc64 := NB290_305.out
    have hnb65 := NB305_291.out
    have hnc65 := NB291_305.out
    have hnb66 := NB305_310.out
    have hnc66 := NB310_305.out
    have hcz67_0 : w43.cell? ⟨gb305, 0, none⟩ = some (.int .i64 t300) := (blk_cell BK305.out 0).trans rfl
    have hcz67_1 : w43.cell? ⟨gb305, 1, none⟩ = some (.slice Ao26 t301.length co26) := (blk_cell BK305.out 1).trans rfl
    have hfz67_0 := blk_frozen BK305.out 0
    have hfz67_1 := blk_frozen BK305.out 1
    go_wp2_with (first | ((with_reducible refine gate_callee (f := 21) rfl ?_); refine goesL_ (some 40) rfl rfl Try.func21 (by kernel_rfl) rfl #[.agg #[.int .i64 t314, .slice Ao45 t315.length co45], .agg #[.int .i64 t300, .slice Ao26 t301.length co26]] rfl (by (try simp only [List.map_toArray, List.map_cons, List.map_nil]); first | done | rfl | (simp only [List.length_drop, List.length_take]; rfl)) ?_; (with_reducible refine (laws_eqPuzzle.calls k t314 _ _ t315 t300 _ _ t301 false _ ?side1 ?side2 ?side3 ?side4 A47.out).mono ?_); (case side1 => refine (Kd.R_reads' (e := 25) (base := w.heap.size) (ok := fun k_ => (some k_ ≠ (v295 : Value).ownBlock ∧ (some k_ ≠ (.slice Ao26 t301.length co26 : Value).ownBlock ∧ some k_ ≠ (.slice Ao37 t307.length co37 : Value).ownBlock))) (n := t315.length) (c := co45) ?_).2.2; exact (by (with_reducible repeat (first | apply Kd.R_alloc | apply Kd.R_drewN | apply Kd.R_drew)); exact (Kd.R_mono (Kd.R_far (p := ⟨gb319, 1, none⟩) (Kd.R_far (p := ⟨gb319, 0, none⟩) (Kd.R_types HO317.out BK319.out (by decide)) (fun _ hk => hk.2) (.int .i64 t314)) (fun _ hk => hk.2) (.slice Ao45 t315.length co45)) (fun _ h_ => h_.1)))); (case side2 => exact (Kd.R_reads' HO317.out).2.1); (case side3 => refine (Kd.R_reads' (e := 25) (base := w.heap.size) (ok := fun k_ => (some k_ ≠ (v295 : Value).ownBlock ∧ (some k_ ≠ (.slice Ao37 t307.length co37 : Value).ownBlock ∧ some k_ ≠ (.slice Ao45 t315.length co45 : Value).ownBlock))) (n := t301.length) (c := co26) ?_).2.2; exact (by (with_reducible repeat (first | apply Kd.R_alloc | apply Kd.R_drewN | apply Kd.R_drew)); exact (Kd.R_mono (Kd.R_far (p := ⟨gb319, 1, none⟩) (Kd.R_far (p := ⟨gb319, 0, none⟩) (Kd.R_types HO303.out BK319.out (by decide)) (fun _ hk => hk.2) (.int .i64 t314)) (fun _ hk => hk.2) (.slice Ao45 t315.length co45)) (fun _ h_ => h_.1)))); (case side4 => exact (Kd.R_reads' HO303.out).2.1); rintro e w68 ⟨rfl, hb⟩; refine ⟨_, rfl, ?_⟩; have n0_ := Aside0.mk (Kd.R_below (by (with_reducible repeat (first | apply Kd.R_alloc | apply Kd.R_drewN | apply Kd.R_drew)); exact (Kd.R_mono (Kd.R_far (p := ⟨gb319, 1, none⟩) (Kd.R_far (p := ⟨gb319, 0, none⟩) (Kd.R_types HO296.out BK319.out (by decide)) (fun _ hk => hk.2) (.int .i64 t314)) (fun _ hk => hk.2) (.slice Ao45 t315.length co45)) (fun _ h_ => h_.1))) hb); have n1_ := Aside0.mk (Kd.R_below (by (with_reducible repeat (first | apply Kd.R_alloc | apply Kd.R_drewN | apply Kd.R_drew)); exact (Kd.R_mono (Kd.R_far (p := ⟨gb319, 1, none⟩) (Kd.R_far (p := ⟨gb319, 0, none⟩) (Kd.R_types HO303.out BK319.out (by decide)) (fun _ hk => hk.2) (.int .i64 t314)) (fun _ hk => hk.2) (.slice Ao45 t315.length co45)) (fun _ h_ => h_.1))) hb); have n2_ := Aside0.mk (Kd.R_below (by (with_reducible repeat (first | apply Kd.R_alloc | apply Kd.R_drewN | apply Kd.R_drew)); exact (Kd.R_mono (Kd.R_far (p := ⟨gb319, 1, none⟩) (Kd.R_far (p := ⟨gb319, 0, none⟩) (Kd.R_types HO309.out BK319.out (by decide)) (fun _ hk => hk.2) (.int .i64 t314)) (fun _ hk => hk.2) (.slice Ao45 t315.length co45)) (fun _ h_ => h_.1))) hb); have n3_ := Aside0.mk (Kd.R_below (by (with_reducible repeat (first | apply Kd.R_alloc | apply Kd.R_drewN | apply Kd.R_drew)); exact (Kd.R_mono (Kd.R_far (p := ⟨gb319, 1, none⟩) (Kd.R_far (p := ⟨gb319, 0, none⟩) (Kd.R_types HO317.out BK319.out (by decide)) (fun _ hk => hk.2) (.int .i64 t314)) (fun _ hk => hk.2) (.slice Ao45 t315.length co45)) (fun _ h_ => h_.1))) hb); have n4_ := Aside0.mk (blk_below (g := gb290) (o := .cells #[.int .i64 a0_0, .slice A0_1 l0_1.length c0_1] 34 (0, 0)) (by (with_reducible repeat (first | refine blk_drewN ?_ _ | refine blk_drew ?_ | refine blk_alloc ?_ _)); refine blk_far ?_ NB290_319.out _; (with_reducible repeat (first | refine blk_drewN ?_ _ | refine blk_drew ?_ | refine blk_alloc ?_ _)); refine blk_far ?_ NB290_319.out _; (with_reducible repeat (first | refine blk_drewN ?_ _ | refine blk_drew ?_ | refine blk_alloc ?_ _)); exact BK290.out) hb); have n5_ := Aside0.mk (blk_below (g := gb291) (o := .cells #[.int .i64 a1_0, .int .i64 a1_1, .int .i64 a1_2] 23 (0, 0)) (by (with_reducible repeat (first | refine blk_drewN ?_ _ | refine blk_drew ?_ | refine blk_alloc ?_ _)); refine blk_far ?_ NB291_319.out _; (with_reducible repeat (first | refine blk_drewN ?_ _ | refine blk_drew ?_ | refine blk_alloc ?_ _)); refine blk_far ?_ NB291_319.out _; (with_reducible repeat (first | refine blk_drewN ?_ _ | refine blk_drew ?_ | refine blk_alloc ?_ _)); exact BK291.out) hb); have n6_ := Aside0.mk (blk_below (g := gb305) (o := .cells #[.int .i64 t300, .slice Ao26 t301.length co26] 39 (0, 0)) (by (with_reducible repeat (first | refine blk_drewN ?_ _ | refine blk_drew ?_ | refine blk_alloc ?_ _)); refine blk_far ?_ NB305_319.out _; (with_reducible repeat (first | refine blk_drewN ?_ _ | refine blk_drew ?_ | refine blk_alloc ?_ _)); refine blk_far ?_ NB305_319.out _; (with_reducible repeat (first | refine blk_drewN ?_ _ | refine blk_drew ?_ | refine blk_alloc ?_ _)); exact BK305.out) hb); have n7_ := Aside0.mk (blk_below (g := gb310) (o := .cells #[.int .i64 t306, .slice Ao37 t307.length co37] 39 (0, 0)) (by (with_reducible repeat (first | refine blk_drewN ?_ _ | refine blk_drew ?_ | refine blk_alloc ?_ _)); refine blk_far ?_ NB310_319.out _; (with_reducible repeat (first | refine blk_drewN ?_ _ | refine blk_drew ?_ | refine blk_alloc ?_ _)); refine blk_far ?_ NB310_319.out _; (with_reducible repeat (first | refine blk_drewN ?_ _ | refine blk_drew ?_ | refine blk_alloc ?_ _)); exact BK310.out) hb); have n8_ := Aside0.mk (blk_below (g := gb319) (o := .cells #[.int .i64 t314, .slice Ao45 t315.length co45] 39 (0, 0)) (by (with_reducible repeat (first | refine blk_drewN ?_ _ | refine blk_drew ?_ | refine blk_alloc ?_ _)); refine blk_put (cs := #[.int .i64 t314, .slice none 0 0]) ?_ 1 _ rfl; (with_reducible repeat (first | refine blk_drewN ?_ _ | refine blk_drew ?_ | refine blk_alloc ?_ _)); refine blk_put (cs := #[.int .i64 0, .slice none 0 0]) ?_ 0 _ rfl; (with_reducible repeat (first | refine blk_drewN ?_ _ | refine blk_drew ?_ | refine blk_alloc ?_ _)); exact BK319.out) hb); have n9_ := Aside0.mk (below_step (by repeat (first | (with_reducible first | exact HB.out | apply below_alloc | apply pw_below_drewN | apply below_drew1 | refine below_set ?_ (Aside0.out (by assumption))) | exact HB.out)) hb); clear HO296; clear HO303; clear HO309; clear HO317; clear BK290; clear BK291; clear BK305; clear BK310; clear BK319; clear HB; have HO296 := n0_; have HO303 := n1_; have HO309 := n2_; have HO317 := n3_; have BK290 := n4_; have BK291 := n5_; have BK305 := n6_; have BK310 := n7_; have BK319 := n8_; have HB := n9_; clear n0_ n1_ n2_ n3_ n4_ n5_ n6_ n7_ n8_ n9_; (try clear hb); (try clear hb2); (try clear hk); (try clear hi)))
    go_meet
    case rel => exact ⟨_, (true), (by first | rfl | (simp; done) | (simp [*]; done)), H', ⟨by first | omega | exact Nat.le_refl _⟩, ⟨by (with_reducible repeat (first | apply Kd.R_alloc | apply Kd.R_drewN | apply Kd.R_drew)); exact Kd.R_mono HO303.out (fun _ hk => ⟨hk.2.1, hk.2.2⟩)⟩, ⟨by (with_reducible repeat (first | apply Kd.R_alloc | apply Kd.R_drewN | apply Kd.R_drew)); exact Kd.R_mono HO309.out (fun _ hk => ⟨hk.2.1, hk.2.2⟩)⟩, ⟨by (with_reducible repeat (first | apply Kd.R_alloc | apply Kd.R_drewN | apply Kd.R_drew)); exact Kd.R_mono HO317.out (fun _ hk => ⟨hk.2.1, hk.2.2⟩)⟩, ⟨by (with_reducible repeat (first | refine blk_drewN ?_ _ | refine blk_drew ?_ | refine blk_alloc ?_ _)); exact BK290.out⟩, ⟨by (with_reducible repeat (first | refine blk_drewN ?_ _ | refine blk_drew ?_ | refine blk_alloc ?_ _)); exact BK291.out⟩, ⟨by (with_reducible repeat (first | refine blk_drewN ?_ _ | refine blk_drew ?_ | refine blk_alloc ?_ _)); exact BK305.out⟩, ⟨by (with_reducible repeat (first | refine blk_drewN ?_ _ | refine blk_drew ?_ | refine blk_alloc ?_ _)); exact BK310.out⟩, ⟨by (with_reducible repeat (first | refine blk_drewN ?_ _ | refine blk_drew ?_ | refine blk_alloc ?_ _)); exact BK319.out⟩, ⟨by repeat (first | (with_reducible first | exact HB.out | apply below_alloc | apply pw_below_drewN | apply below_drew1 | refine below_set ?_ (Aside0.out (by assumption))) | exact HB.out)⟩⟩
  case rest =>
   clear HC17
   try clear c1
   try clear c2
   try clear p2
   try clear c3
   try clear c4
   try clear c5
   try clear c6
   try clear c11
   try clear c21
   try clear c31
   try clear c48
   try clear c49
   try clear c50
   try clear c51
   try clear c52
   try clear c54
   try clear c55
   try clear c56
   try clear c59
   try clear c60
   try clear c61
   try clear c62
   try clear c64
   try clear c65
   try clear c66
   try clear hcz53_0
   try clear hcz53_1
   try clear hcz57_0
   try clear hcz57_1
   try clear hcz63_0
   try clear hcz63_1
   try clear hcz67_0
   try clear hcz67_1
   try clear hfz53_0
   try clear hfz53_1
   try clear hfz57_0
   try clear hfz57_1
   try clear hfz63_0
   try clear hfz63_1
   try clear hfz67_0
   try clear hfz67_1
   obtain ⟨kq, x46_16, rfl, HA, HJ16, HO_306001, HO_311001, HO_320001, BK290, BK291, BK305, BK310, BK319, HB⟩ := hcut
   cases kq with
   | zero => exact absurd HA.out (by simp [laws_FnExactAddClue.j0])
   | succ kj16 =>
    have H := HA.out
    clear HA
    simp only [laws_FnExactAddClue.j0] at H
    by_cases c69 : x46_16 = true
    ·
     subst c69
     have H1 : (none) = some r := by rw [if_pos rfl] at H; exact H
     clear H
     have H := H1
     clear H1
     exact absurd H (by simp)
    ·
     replace c69 := Bool.eq_false_iff.mpr c69
     subst c69
     have H1 : ((laws_toPuzzle.f kj16 a0_0 l0_1).bind fun bt321 => ((laws_eqPuzzle.f kj16 t306 t307 bt321.1 bt321.2).bind fun t325 => (if t325 = true then ((laws_markPuzzle.f kj16 t306 t307 1).bind fun bt326 => (if bt326.1 < 0 then (laws_FnExactAddClue.j1 kj16 t304 true a0_0 l0_1 a1_0 a1_1 a1_2 t300 t301 t314 t315) else ((laws_eqPuzzle.f kj16 t314 t315 t300 t301).bind fun t328 => (if t328 = true then (laws_FnExactAddClue.j1 kj16 t304 (t318 != t304) a0_0 l0_1 a1_0 a1_1 a1_2 t300 t301 t314 t315) else (laws_FnExactAddClue.j1 kj16 t304 true a0_0 l0_1 a1_0 a1_1 a1_2 t300 t301 t314 t315))))) else (none)))) = some r := by rw [if_neg (show ¬ (false = true) by decide)] at H; exact H
     clear H
     have H := H1
     clear H1
     replace H := Option.bind_eq_some_iff.mp H
     obtain ⟨⟨t321, t322⟩, A700, H⟩ := H
     replace H : ((laws_eqPuzzle.f kj16 t306 t307 t321 t322).bind fun t325 => (if t325 = true then ((laws_markPuzzle.f kj16 t306 t307 1).bind fun bt326 => (if bt326.1 < 0 then (laws_FnExactAddClue.j1 kj16 t304 true a0_0 l0_1 a1_0 a1_1 a1_2 t300 t301 t314 t315) else ((laws_eqPuzzle.f kj16 t314 t315 t300 t301).bind fun t328 => (if t328 = true then (laws_FnExactAddClue.j1 kj16 t304 (t318 != t304) a0_0 l0_1 a1_0 a1_1 a1_2 t300 t301 t314 t315) else (laws_FnExactAddClue.j1 kj16 t304 true a0_0 l0_1 a1_0 a1_1 a1_2 t300 t301 t314 t315))))) else (none))) = some r := H
     have A70 := Aside0.mk A700
     clear A700
     replace H := Option.bind_eq_some_iff.mp H
     obtain ⟨t325, A710, H⟩ := H
     replace H : (if t325 = true then ((laws_markPuzzle.f kj16 t306 t307 1).bind fun bt326 => (if bt326.1 < 0 then (laws_FnExactAddClue.j1 kj16 t304 true a0_0 l0_1 a1_0 a1_1 a1_2 t300 t301 t314 t315) else ((laws_eqPuzzle.f kj16 t314 t315 t300 t301).bind fun t328 => (if t328 = true then (laws_FnExactAddClue.j1 kj16 t304 (t318 != t304) a0_0 l0_1 a1_0 a1_1 a1_2 t300 t301 t314 t315) else (laws_FnExactAddClue.j1 kj16 t304 true a0_0 l0_1 a1_0 a1_1 a1_2 t300 t301 t314 t315))))) else (none)) = some r := H
     have A71 := Aside0.mk A710
     clear A710
     by_cases c72 : t325 = true
     ·
      subst c72
      have H1 : ((laws_markPuzzle.f kj16 t306 t307 1).bind fun bt326 => (if bt326.1 < 0 then (laws_FnExactAddClue.j1 kj16 t304 true a0_0 l0_1 a1_0 a1_1 a1_2 t300 t301 t314 t315) else ((laws_eqPuzzle.f kj16 t314 t315 t300 t301).bind fun t328 => (if t328 = true then (laws_FnExactAddClue.j1 kj16 t304 (t318 != t304) a0_0 l0_1 a1_0 a1_1 a1_2 t300 t301 t314 t315) else (laws_FnExactAddClue.j1 kj16 t304 true a0_0 l0_1 a1_0 a1_1 a1_2 t300 t301 t314 t315))))) = some r := by rw [if_pos rfl] at H; exact H
      clear H
      have H := H1
      clear H1
      replace H := Option.bind_eq_some_iff.mp H
      obtain ⟨⟨t326, t327⟩, A730, H⟩ := H
      replace H : (if t326 < 0 then (laws_FnExactAddClue.j1 kj16 t304 true a0_0 l0_1 a1_0 a1_1 a1_2 t300 t301 t314 t315) else ((laws_eqPuzzle.f kj16 t314 t315 t300 t301).bind fun t328 => (if t328 = true then (laws_FnExactAddClue.j1 kj16 t304 (t318 != t304) a0_0 l0_1 a1_0 a1_1 a1_2 t300 t301 t314 t315) else (laws_FnExactAddClue.j1 kj16 t304 true a0_0 l0_1 a1_0 a1_1 a1_2 t300 t301 t314 t315)))) = some r := H
      have A73 := Aside0.mk A730
      clear A730
      have HC74 := Aside0.mk H
      clear H
      try go_wp2
      have n0_ := Aside0.mk (Kd.R_drew HO_306001.out)
      have n1_ := Aside0.mk (Kd.R_drew HO_311001.out)
      have n2_ := Aside0.mk (Kd.R_drew HO_320001.out)
      have n3_ := Aside0.mk (blk_drew BK290.out)
      have n4_ := Aside0.mk (blk_drew BK291.out)
      have n5_ := Aside0.mk (blk_drew BK305.out)
      have n6_ := Aside0.mk (blk_drew BK310.out)
      have n7_ := Aside0.mk (blk_drew BK319.out)
      have n8_ := Aside0.mk (below_drew1 HB.out)
      clear HO_306001 HO_311001 HO_320001 BK290 BK291 BK305 BK310 BK319 HB
      have HO_306001 := n0_; have HO_311001 := n1_; have HO_320001 := n2_; have BK290 := n3_; have BK291 := n4_; have BK305 := n5_; have BK310 := n6_; have BK319 := n7_; have HB := n8_
      clear n0_ n1_ n2_ n3_ n4_ n5_ n6_ n7_ n8_
      refine start_ (n := 5) (S := fun w' => w'.cell? ⟨gb310, 0, none⟩ = some (.int .i64 t306) ∧ w'.cell? ⟨gb310, 1, none⟩ = some (.slice Ao37 t307.length co37) ∧ w'.cell? ⟨gb290, 0, none⟩ = some (.int .i64 a0_0) ∧ w'.cell? ⟨gb290, 1, none⟩ = some (.slice A0_1 l0_1.length c0_1)) (ds := []) #[false, false, false, false, false] (by kernel_rfl) rfl rfl ⟨(blk_cell BK310.out 0).trans rfl, (blk_cell BK310.out 1).trans rfl, (blk_cell BK290.out 0).trans rfl, (blk_cell BK290.out 1).trans rfl⟩ (fun hHeld => ?_)
      generalize wc.drew = w75 at HO_306001 HO_311001 HO_320001 BK290 BK291 BK305 BK310 BK319 HB hHeld ⊢
      refine take_ (i := 0) (N := some 47) (v := ?_) (a' := ?_) #[true, false, false, false, false] rfl rfl (by kernel_rfl) (fun _ _ _ h => h) (Or.inl ⟨by rfl, ?_⟩) hHeld ?_ ?_
      rotate_left
      ·
       rintro w' ⟨s0, s1, s2, s3⟩
       go_simp
       with_reducible rfl
      rotate_left
      ·
       simp only [Act.put, List.setIfInBounds_toArray, List.set_cons_zero, List.set_cons_succ, i64_w, i32_w]
       rfl
      refine take_ (i := 1) (N := some 48) (v := ?_) (a' := ?_) #[true, true, false, false, false] rfl rfl (by kernel_rfl) (fun _ _ _ h => h) (Or.inl ⟨by rfl, ?_⟩) hHeld ?_ ?_
      rotate_left
      ·
       rintro w' ⟨s0, s1, s2, s3⟩
       go_simp
       with_reducible rfl
      rotate_left
      ·
       simp only [Act.put, List.setIfInBounds_toArray, List.set_cons_zero, List.set_cons_succ, i64_w, i32_w]
       rfl
      refine one_ (i := 2) (N := some 49) #[true, true, true, false, false] rfl rfl (by kernel_rfl) (by decide) (fun K hK => ?_)
      refine goes_ Try.func19 (by kernel_rfl) rfl #[.agg #[.int .i64 a0_0, .slice A0_1 l0_1.length c0_1]] (by rfl) rfl rfl (by (try simp only [List.map_toArray, List.map_cons, List.map_nil]); first | done | rfl | (simp only [List.length_drop, List.length_take]; rfl)) ?_
      with_reducible refine (laws_toPuzzle.calls kj16 a0_0 _ _ l0_1 t321 t322 _ ?side1 ?side2 A70.out).mono ?_
      (case side1 => repeat (first | exact (Kd.C_below HR0_1.out HB.out) | (with_reducible refine Kd.C_alloc ?_ _) | (with_reducible refine Kd.C_drewN ?_ _) | (with_reducible refine Kd.C_drew ?_)))
      (case side2 => exact HC0_1.out)
      rintro e w76 ⟨v323, rfl, ho0, hb⟩
      refine ⟨_, rfl, ?_⟩
      have n0_ := Aside0.mk (Kd.R_elder' (Kd.pR HO_306001.out) (Kd.R_base ho0) hb)
      have n1_ := Aside0.mk (Kd.R_elder' (Kd.pR HO_311001.out) (Kd.R_base ho0) hb)
      have n2_ := Aside0.mk (Kd.R_elder' (Kd.pR HO_320001.out) (Kd.R_base ho0) hb)
      have n3_ := Aside0.mk (Kd.R_lower (Kd.R_new' (Kd.R_new' (Kd.R_new' ho0 (Kd.R_lt (Kd.pR HO_306001.out))) (Kd.R_lt (Kd.pR HO_311001.out))) (Kd.R_lt (Kd.pR HO_320001.out))) (below_size (by repeat (first | (with_reducible first | exact HB.out | apply below_alloc | apply pw_below_drewN | apply below_drew1 | refine below_set ?_ (Aside0.out (by assumption))) | exact HB.out))))
      have n4_ := Aside0.mk (blk_below (pk BK290.out) hb)
      have n5_ := Aside0.mk (blk_below (pk BK291.out) hb)
      have n6_ := Aside0.mk (blk_below (pk BK305.out) hb)
      have n7_ := Aside0.mk (blk_below (pk BK310.out) hb)
      have n8_ := Aside0.mk (blk_below (pk BK319.out) hb)
      have n9_ := Aside0.mk (below_step (by repeat (first | (with_reducible first | exact HB.out | apply below_alloc | apply pw_below_drewN | apply below_drew1 | refine below_set ?_ (Aside0.out (by assumption))) | exact HB.out)) hb)
      clear HO_306001 HO_311001 HO_320001 BK290 BK291 BK305 BK310 BK319 HB
      have HO_306001 := n0_; have HO_311001 := n1_; have HO_320001 := n2_; have HO324 := n3_; have BK290 := n4_; have BK291 := n5_; have BK305 := n6_; have BK310 := n7_; have BK319 := n8_; have HB := n9_
      clear n0_ n1_ n2_ n3_ n4_ n5_ n6_ n7_ n8_ n9_
      (try clear hb)
      (try clear hb2)
      (try clear hk)
      (try clear hi)
      (try clear ho0)
      obtain ⟨Ao77, co77, eo77⟩ := Kd.R_slice HO324.out
      (first | subst eo77 | (injection eo77 with f1_ f2_ f3_; have f4_ := f1_.symm; have f5_ := f3_.symm; clear f1_ f2_ f3_; subst f4_; subst f5_))
      refine hK.out _ _ ⟨(blk_cell BK310.out 0).trans rfl, (blk_cell BK310.out 1).trans rfl, (blk_cell BK290.out 0).trans rfl, (blk_cell BK290.out 1).trans rfl⟩ (fun hHeld => ?_)
      clear hK K
      refine norm_ (a' := ?_) ?_ ?_
      rotate_left
      ·
       show Act.put _ (some 49) _ = _
       simp only [Act.put, List.setIfInBounds_toArray, List.set_cons_zero, List.set_cons_succ, i64_w, i32_w]
       rfl
      refine one_ (i := 3) (N := some 50) #[true, true, true, true, false] rfl rfl (by kernel_rfl) (by decide) (fun K hK => ?_)
      refine goes_ Try.func21 (by kernel_rfl) rfl #[.agg #[.int .i64 t306, .slice Ao37 t307.length co37], .agg #[.int .i64 t321, .slice Ao77 t322.length co77]] (by rfl) rfl rfl (by (try simp only [List.map_toArray, List.map_cons, List.map_nil]); first | done | rfl | (simp only [List.length_drop, List.length_take]; rfl)) ?_
      with_reducible refine (laws_eqPuzzle.calls kj16 t306 _ _ t307 t321 _ _ t322 true _ ?side1 ?side2 ?side3 ?side4 A71.out).mono ?_
      (case side1 => repeat (first | exact (Kd.R_reads' HO_311001.out).2.2 | (with_reducible refine Kd.C_alloc ?_ _) | (with_reducible refine Kd.C_drewN ?_ _) | (with_reducible refine Kd.C_drew ?_)))
      (case side2 => exact (Kd.R_reads' HO_311001.out).2.1)
      (case side3 => repeat (first | exact (Kd.R_reads' HO324.out).2.2 | (with_reducible refine Kd.C_alloc ?_ _) | (with_reducible refine Kd.C_drewN ?_ _) | (with_reducible refine Kd.C_drew ?_)))
      (case side4 => exact (Kd.R_reads' HO324.out).2.1)
      rintro e w78 ⟨rfl, hb⟩
      refine ⟨_, rfl, ?_⟩
      have n0_ := Aside0.mk (Kd.R_below (Kd.pR HO_306001.out) hb)
      have n1_ := Aside0.mk (Kd.R_below (Kd.pR HO_311001.out) hb)
      have n2_ := Aside0.mk (Kd.R_below (Kd.pR HO_320001.out) hb)
      have n3_ := Aside0.mk (Kd.R_below (Kd.pR HO324.out) hb)
      have n4_ := Aside0.mk (blk_below (pk BK290.out) hb)
      have n5_ := Aside0.mk (blk_below (pk BK291.out) hb)
      have n6_ := Aside0.mk (blk_below (pk BK305.out) hb)
      have n7_ := Aside0.mk (blk_below (pk BK310.out) hb)
      have n8_ := Aside0.mk (blk_below (pk BK319.out) hb)
      have n9_ := Aside0.mk (below_step (by repeat (first | (with_reducible first | exact HB.out | apply below_alloc | apply pw_below_drewN | apply below_drew1 | refine below_set ?_ (Aside0.out (by assumption))) | exact HB.out)) hb)
      clear HO_306001 HO_311001 HO_320001 HO324 BK290 BK291 BK305 BK310 BK319 HB
      have HO_306001 := n0_; have HO_311001 := n1_; have HO_320001 := n2_; have HO324 := n3_; have BK290 := n4_; have BK291 := n5_; have BK305 := n6_; have BK310 := n7_; have BK319 := n8_; have HB := n9_
      clear n0_ n1_ n2_ n3_ n4_ n5_ n6_ n7_ n8_ n9_
      (try clear hb)
      (try clear hb2)
      (try clear hk)
      (try clear hi)
      refine hK.out _ _ ⟨(blk_cell BK310.out 0).trans rfl, (blk_cell BK310.out 1).trans rfl, (blk_cell BK290.out 0).trans rfl, (blk_cell BK290.out 1).trans rfl⟩ (fun hHeld => ?_)
      clear hK K
      refine norm_ (a' := ?_) ?_ ?_
      rotate_left
      ·
       show Act.put _ (some 50) _ = _
       simp only [Act.put, List.setIfInBounds_toArray, List.set_cons_zero, List.set_cons_succ, i64_w, i32_w]
       rfl
      refine pure_ (i := 4) (N := some 51) (v := ?_) (a' := ?_) #[true, true, true, true, true] rfl rfl (by kernel_rfl) (fun _ _ _ h => h) (Or.inl ⟨by rfl, ?_⟩) ?_ ?_
      rotate_left
      ·
       intro w'
       go_simp
       with_reducible rfl
      rotate_left
      ·
       simp only [Act.put, List.setIfInBounds_toArray, List.set_cons_zero, List.set_cons_succ, i64_w, i32_w]
       rfl
      refine done_ (by kernel_rfl) ?_
      have hnb79 := NB310_290.out
      have hnc79 := NB290_310.out
      have hnb80 := NB310_291.out
      have hnc80 := NB291_310.out
      have hnb81 := NB310_305.out
      have hnc81 := NB305_310.out
      have hnb82 := NB310_319.out
      have hnc82 := NB319_310.out
      have hcz83_0 : w78.cell? ⟨gb310, 0, none⟩ = some (.int .i64 t306) := (blk_cell BK310.out 0).trans rfl
      have hcz83_1 : w78.cell? ⟨gb310, 1, none⟩ = some (.slice Ao37 t307.length co37) := (blk_cell BK310.out 1).trans rfl
      have hfz83_0 := blk_frozen BK310.out 0
      have hfz83_1 := blk_frozen BK310.out 1
      go_upto_region 14 with (first | ((with_reducible refine gate_callee (f := 32) rfl ?_); refine goesL_ (some 54) rfl rfl Try.func32 (by kernel_rfl) rfl #[.agg #[.int .i64 t306, .slice Ao37 t307.length co37], .int .i64 1] rfl (by (try simp only [List.map_toArray, List.map_cons, List.map_nil]); first | done | rfl | (simp only [List.length_drop, List.length_take]; rfl)) ?_; (with_reducible refine (laws_markPuzzle.calls kj16 t306 (fun k_ => some k_ = (.slice Ao37 t307.length co37 : Value).ownBlock) (.slice Ao37 t307.length co37) t307 1 t326 t327 w _ ?side1 ?side2 A73.out).mono ?_); (case side1 => repeat (first | (with_reducible first | exact HB.out | apply below_alloc | apply pw_below_drewN | apply below_drew1 | refine below_set ?_ (Aside0.out (by assumption))) | exact HB.out)); (case side2 => exact Kd.R_tight rfl HO_311001.out); rintro e w84 ⟨rfl, hy0, hb, hkp⟩; refine ⟨_, rfl, ?_⟩; have n0_ := Aside0.mk (Kd.R_mono (ok' := fun k_ => some k_ ≠ (.slice Ao37 t307.length co37 : Value).ownBlock ∧ some k_ ≠ (.slice Ao45 t315.length co45 : Value).ownBlock ∧ some k_ ≠ (.slice Ao77 t322.length co77 : Value).ownBlock) (Kd.R_keptB (HO_306001.out) hkp (fun k_ hk_ hs_ => (hk_.1.1) hs_)) (fun k_ hk_ => ⟨hk_.1.1.1, hk_.1.1.2, hk_.1.2⟩)); have n1_ := Aside0.mk (Kd.R_reok rfl hy0 (fun k_ e_ => HO_311001.out.1 k_ e_)); have n2_ := Aside0.mk (Kd.R_mono (ok' := fun k_ => some k_ ≠ (.slice Ao26 t301.length co26 : Value).ownBlock ∧ some k_ ≠ (.slice Ao37 t307.length co37 : Value).ownBlock ∧ some k_ ≠ (.slice Ao77 t322.length co77 : Value).ownBlock) (Kd.R_keptB (HO_320001.out) hkp (fun k_ hk_ hs_ => (hk_.1.2) hs_)) (fun k_ hk_ => ⟨hk_.1.1.1, hk_.1.1.2, hk_.1.2⟩)); have n3_ := Aside0.mk (blk_kept (pk BK290.out) hkp (fun hs_ => (fun e_ => (Kd.R_ne HO_311001.out BK290.out (by decide)) e_) hs_)); have n4_ := Aside0.mk (blk_kept (pk BK291.out) hkp (fun hs_ => (fun e_ => (Kd.R_ne HO_311001.out BK291.out (by decide)) e_) hs_)); have n5_ := Aside0.mk (blk_kept (pk BK305.out) hkp (fun hs_ => (fun e_ => (Kd.R_ne HO_311001.out BK305.out (by decide)) e_) hs_)); have n6_ := Aside0.mk (blk_kept (pk BK310.out) hkp (fun hs_ => (fun e_ => (Kd.R_ne HO_311001.out BK310.out (by decide)) e_) hs_)); have n7_ := Aside0.mk (blk_kept (pk BK319.out) hkp (fun hs_ => (fun e_ => (Kd.R_ne HO_311001.out BK319.out (by decide)) e_) hs_)); have n8_ := Aside0.mk (Kd.R_mono (ok' := fun k_ => some k_ ≠ (.slice Ao26 t301.length co26 : Value).ownBlock ∧ some k_ ≠ (.slice Ao37 t307.length co37 : Value).ownBlock ∧ some k_ ≠ (.slice Ao45 t315.length co45 : Value).ownBlock) (Kd.R_keptB (HO324.out) hkp (fun k_ hk_ hs_ => (hk_.1.2) hs_)) (fun k_ hk_ => ⟨hk_.1.1.1.2, hk_.1.1.2, hk_.1.2⟩)); have n9_ := Aside0.mk (hb); clear HO_306001; clear HO_311001; clear HO_320001; clear BK290; clear BK291; clear BK305; clear BK310; clear BK319; clear HO324; clear HB; have HO_306001 := n0_; have HO_311001 := n1_; have HO_320001 := n2_; have BK290 := n3_; have BK291 := n4_; have BK305 := n5_; have BK310 := n6_; have BK319 := n7_; have HO324 := n8_; have HB := n9_; clear n0_ n1_ n2_ n3_ n4_ n5_ n6_ n7_ n8_ n9_; (try clear hb); (try clear hkp); (try clear hy0)))
      (try simp only [Act.put, List.setIfInBounds_toArray, List.set_cons_zero, List.set_cons_succ])
      go_cut [67] (fun v67 wc => ∃ (kq : Nat) (x67_73 : Bool), v67 = .bool x67_73 ∧ Aside0 (laws_FnExactAddClue.j1 kq t304 x67_73 a0_0 l0_1 a1_0 a1_1 a1_2 t300 t301 t314 t315 = some r) ∧ Aside0 (kq ≤ kj16) ∧ Aside0 (Kd.R k25 25 wc w.heap.size (fun k_ => some k_ ≠ ((.slice Ao37 t307.length co37) : Value).ownBlock ∧ some k_ ≠ ((.slice Ao45 t315.length co45) : Value).ownBlock) (.slice Ao26 t301.length co26) t301) ∧ Aside0 (Kd.R k25 25 wc w.heap.size (fun k_ => some k_ ≠ ((.slice Ao26 t301.length co26) : Value).ownBlock ∧ some k_ ≠ ((.slice Ao45 t315.length co45) : Value).ownBlock) (.slice Ao37 t307.length co37) t327) ∧ Aside0 (Kd.R k25 25 wc w.heap.size (fun k_ => some k_ ≠ ((.slice Ao26 t301.length co26) : Value).ownBlock ∧ some k_ ≠ ((.slice Ao37 t307.length co37) : Value).ownBlock) (.slice Ao45 t315.length co45) t315) ∧ Aside0 (wc.heap[gb290]? = some (.cells #[.int .i64 a0_0, (.slice A0_1 l0_1.length c0_1)] 34 (0, 0))) ∧ Aside0 (wc.heap[gb291]? = some (.cells #[.int .i64 a1_0, .int .i64 a1_1, .int .i64 a1_2] 23 (0, 0))) ∧ Aside0 (wc.heap[gb305]? = some (.cells #[.int .i64 t300, (.slice Ao26 t301.length co26)] 39 (0, 0))) ∧ Aside0 (wc.heap[gb310]? = some (.cells #[.int .i64 t306, (.slice Ao37 t307.length co37)] 39 (0, 0))) ∧ Aside0 (wc.heap[gb319]? = some (.cells #[.int .i64 t314, (.slice Ao45 t315.length co45)] 39 (0, 0))) ∧ Aside0 (Below w.heap.size w wc))
      case first =>
       have H := HC74.out
       clear HC74
       by_cases c85 : t326 < 0
       ·
        rw [if_pos c85] at H
        have c85b0 : decide (t326 < 0) = true := decide_eq_true c85
        clear c85
        (first | rw [c85b0] | (simp only [i64_w, i32_w]; rw [c85b0]) | skip)
        have H' := Aside0.mk H
        clear H
        go_wp2
        go_meet
        case rel => exact ⟨_, (true), (by first | rfl | (simp; done) | (simp [*]; done)), H', ⟨by have := HJ16.out; first | omega | exact Nat.le_refl _⟩, ⟨by (with_reducible repeat (first | apply Kd.R_alloc | apply Kd.R_drewN | apply Kd.R_drew)); exact Kd.R_mono HO_306001.out (fun _ hk => ⟨hk.1, hk.2.1⟩)⟩, ⟨by (with_reducible repeat (first | apply Kd.R_alloc | apply Kd.R_drewN | apply Kd.R_drew)); exact Kd.R_mono HO_311001.out (fun _ hk => ⟨hk.1.1, hk.1.2⟩)⟩, ⟨by (with_reducible repeat (first | apply Kd.R_alloc | apply Kd.R_drewN | apply Kd.R_drew)); exact Kd.R_mono HO_320001.out (fun _ hk => ⟨hk.1, hk.2.1⟩)⟩, ⟨by (with_reducible repeat (first | refine blk_drewN ?_ _ | refine blk_drew ?_ | refine blk_alloc ?_ _)); exact BK290.out⟩, ⟨by (with_reducible repeat (first | refine blk_drewN ?_ _ | refine blk_drew ?_ | refine blk_alloc ?_ _)); exact BK291.out⟩, ⟨by (with_reducible repeat (first | refine blk_drewN ?_ _ | refine blk_drew ?_ | refine blk_alloc ?_ _)); exact BK305.out⟩, ⟨by (with_reducible repeat (first | refine blk_drewN ?_ _ | refine blk_drew ?_ | refine blk_alloc ?_ _)); exact BK310.out⟩, ⟨by (with_reducible repeat (first | refine blk_drewN ?_ _ | refine blk_drew ?_ | refine blk_alloc ?_ _)); exact BK319.out⟩, ⟨by repeat (first | (with_reducible first | exact HB.out | apply below_alloc | apply pw_below_drewN | apply below_drew1 | refine below_set ?_ (Aside0.out (by assumption))) | exact HB.out)⟩⟩
       ·
        rw [if_neg c85] at H
        have c85b0 : decide (t326 < 0) = false := decide_eq_false c85
        clear c85
        (first | rw [c85b0] | (simp only [i64_w, i32_w]; rw [c85b0]) | skip)
        replace H := Option.bind_eq_some_iff.mp H
        obtain ⟨t328, A860, H⟩ := H
        replace H : (if t328 = true then (laws_FnExactAddClue.j1 kj16 t304 (t318 != t304) a0_0 l0_1 a1_0 a1_1 a1_2 t300 t301 t314 t315) else (laws_FnExactAddClue.j1 kj16 t304 true a0_0 l0_1 a1_0 a1_1 a1_2 t300 t301 t314 t315)) = some r := H
        have A86 := Aside0.mk A860
        clear A860
        by_cases c87 : t328 = true
        ·
         subst c87
         have H1 : (laws_FnExactAddClue.j1 kj16 t304 (t318 != t304) a0_0 l0_1 a1_0 a1_1 a1_2 t300 t301 t314 t315) = some r := by rw [if_pos rfl] at H; exact H
         clear H
         have H := H1
         clear H1
         have H' := Aside0.mk H
         clear H
         have hnb88 := NB319_290.out
         have hnc88 := NB290_319.out
         have hnb89 := NB319_291.out
         have hnc89 := NB291_319.out
         have hnb90 := NB319_305.out
         have hnc90 := NB305_319.out
         have hnb91 := NB319_310.out
         have hnc91 := NB310_319.out
         have hcz92_0 : w84.cell? ⟨gb319, 0, none⟩ = some (.int .i64 t314) := (blk_cell BK319.out 0).trans rfl
         have hcz92_1 : w84.cell? ⟨gb319, 1, none⟩ = some (.slice Ao45 t315.length co45) := (blk_cell BK319.out 1).trans rfl
         have hfz92_0 := blk_frozen BK319.out 0
         have hfz92_1 := blk_frozen BK319.out 1
         have hnb93 := NB305_290.out
         have hnc93 := NB290_305.out
         have hnb94 := NB305_291.out
         have hnc94 := NB291_305.out
         have hnb95 := NB305_310.out
         have hnc95 := NB310_305.out
         have hcz96_0 : w84.cell? ⟨gb305, 0, none⟩ = some (.int .i64 t300) := (blk_cell BK305.out 0).trans rfl
         have hcz96_1 : w84.cell? ⟨gb305, 1, none⟩ = some (.slice Ao26 t301.length co26) := (blk_cell BK305.out 1).trans rfl
         have hfz96_0 := blk_frozen BK305.out 0
         have hfz96_1 := blk_frozen BK305.out 1
         go_wp2_with (first | (go_at_call 21; (with_reducible refine (laws_eqPuzzle.calls kj16 t314 _ _ t315 t300 _ _ t301 true _ ?side1 ?side2 ?side3 ?side4 A86.out).mono ?_); (case side1 => repeat (first | exact (Kd.R_reads' HO_320001.out).2.2 | (with_reducible refine Kd.C_alloc ?_ _) | (with_reducible refine Kd.C_drewN ?_ _) | (with_reducible refine Kd.C_drew ?_))); (case side2 => exact (Kd.R_reads' HO_320001.out).2.1); (case side3 => repeat (first | exact (Kd.R_reads' HO_306001.out).2.2 | (with_reducible refine Kd.C_alloc ?_ _) | (with_reducible refine Kd.C_drewN ?_ _) | (with_reducible refine Kd.C_drew ?_))); (case side4 => exact (Kd.R_reads' HO_306001.out).2.1); rintro e w97 ⟨rfl, hb⟩; have n0_ := Aside0.mk (Kd.R_below (Kd.pR HO_306001.out) hb); have n1_ := Aside0.mk (Kd.R_below (Kd.pR HO_311001.out) hb); have n2_ := Aside0.mk (Kd.R_below (Kd.pR HO_320001.out) hb); have n3_ := Aside0.mk (Kd.R_below (Kd.pR HO324.out) hb); have n4_ := Aside0.mk (blk_below (pk BK290.out) hb); have n5_ := Aside0.mk (blk_below (pk BK291.out) hb); have n6_ := Aside0.mk (blk_below (pk BK305.out) hb); have n7_ := Aside0.mk (blk_below (pk BK310.out) hb); have n8_ := Aside0.mk (blk_below (pk BK319.out) hb); have n9_ := Aside0.mk (below_step (by repeat (first | (with_reducible first | exact HB.out | apply below_alloc | apply pw_below_drewN | apply below_drew1 | refine below_set ?_ (Aside0.out (by assumption))) | exact HB.out)) hb); clear HO_306001; clear HO_311001; clear HO_320001; clear HO324; clear BK290; clear BK291; clear BK305; clear BK310; clear BK319; clear HB; have HO_306001 := n0_; have HO_311001 := n1_; have HO_320001 := n2_; have HO324 := n3_; have BK290 := n4_; have BK291 := n5_; have BK305 := n6_; have BK310 := n7_; have BK319 := n8_; have HB := n9_; clear n0_ n1_ n2_ n3_ n4_ n5_ n6_ n7_ n8_ n9_; (try clear hb); (try clear hb2); (try clear hk); (try clear hi)))
         go_meet
         case rel => exact ⟨_, ((t318 != t304)), (by first | rfl | (simp; done) | (simp [*]; done)), H', ⟨by have := HJ16.out; first | omega | exact Nat.le_refl _⟩, ⟨by (with_reducible repeat (first | apply Kd.R_alloc | apply Kd.R_drewN | apply Kd.R_drew)); exact Kd.R_mono HO_306001.out (fun _ hk => ⟨hk.1, hk.2.1⟩)⟩, ⟨by (with_reducible repeat (first | apply Kd.R_alloc | apply Kd.R_drewN | apply Kd.R_drew)); exact Kd.R_mono HO_311001.out (fun _ hk => ⟨hk.1.1, hk.1.2⟩)⟩, ⟨by (with_reducible repeat (first | apply Kd.R_alloc | apply Kd.R_drewN | apply Kd.R_drew)); exact Kd.R_mono HO_320001.out (fun _ hk => ⟨hk.1, hk.2.1⟩)⟩, ⟨by (with_reducible repeat (first | refine blk_drewN ?_ _ | refine blk_drew ?_ | refine blk_alloc ?_ _)); exact BK290.out⟩, ⟨by (with_reducible repeat (first | refine blk_drewN ?_ _ | refine blk_drew ?_ | refine blk_alloc ?_ _)); exact BK291.out⟩, ⟨by (with_reducible repeat (first | refine blk_drewN ?_ _ | refine blk_drew ?_ | refine blk_alloc ?_ _)); exact BK305.out⟩, ⟨by (with_reducible repeat (first | refine blk_drewN ?_ _ | refine blk_drew ?_ | refine blk_alloc ?_ _)); exact BK310.out⟩, ⟨by (with_reducible repeat (first | refine blk_drewN ?_ _ | refine blk_drew ?_ | refine blk_alloc ?_ _)); exact BK319.out⟩, ⟨by repeat (first | (with_reducible first | exact HB.out | apply below_alloc | apply pw_below_drewN | apply below_drew1 | refine below_set ?_ (Aside0.out (by assumption))) | exact HB.out)⟩⟩
        ·
         replace c87 := Bool.eq_false_iff.mpr c87
         subst c87
         have H1 : (laws_FnExactAddClue.j1 kj16 t304 true a0_0 l0_1 a1_0 a1_1 a1_2 t300 t301 t314 t315) = some r := by rw [if_neg (show ¬ (false = true) by decide)] at H; exact H
         clear H
         have H := H1
         clear H1
         have H' := Aside0.mk H
         clear H
         have hnb98 := NB319_290.out
         have hnc98 := NB290_319.out
         have hnb99 := NB319_291.out
         have hnc99 := NB291_319.out
         have hnb100 := NB319_305.out
         have hnc100 := NB305_319.out
         have hnb101 := NB319_310.out
         have hnc101 := NB310_319.out
         have hcz102_0 : w84.cell? ⟨gb319, 0, none⟩ = some (.int .i64 t314) := (blk_cell BK319.out 0).trans rfl
         have hcz102_1 : w84.cell? ⟨gb319, 1, none⟩ = some (.slice Ao45 t315.length co45) := (blk_cell BK319.out 1).trans rfl
         have hfz102_0 := blk_frozen BK319.out 0
         have hfz102_1 := blk_frozen BK319.out 1
         have hnb103 := NB305_290.out
         have hnc103 := NB290_305.out
         have hnb104 := NB305_291.out
         have hnc104 := NB291_305.out
         have hnb105 := NB305_310.out
         have hnc105 := NB310_305.out
         have hcz106_0 : w84.cell? ⟨gb305, 0, none⟩ = some (.int .i64 t300) := (blk_cell BK305.out 0).trans rfl
         have hcz106_1 : w84.cell? ⟨gb305, 1, none⟩ = some (.slice Ao26 t301.length co26) := (blk_cell BK305.out 1).trans rfl
         have hfz106_0 := blk_frozen BK305.out 0
         have hfz106_1 := blk_frozen BK305.out 1
         go_wp2_with (first | (go_at_call 21; (with_reducible refine (laws_eqPuzzle.calls kj16 t314 _ _ t315 t300 _ _ t301 false _ ?side1 ?side2 ?side3 ?side4 A86.out).mono ?_); (case side1 => repeat (first | exact (Kd.R_reads' HO_320001.out).2.2 | (with_reducible refine Kd.C_alloc ?_ _) | (with_reducible refine Kd.C_drewN ?_ _) | (with_reducible refine Kd.C_drew ?_))); (case side2 => exact (Kd.R_reads' HO_320001.out).2.1); (case side3 => repeat (first | exact (Kd.R_reads' HO_306001.out).2.2 | (with_reducible refine Kd.C_alloc ?_ _) | (with_reducible refine Kd.C_drewN ?_ _) | (with_reducible refine Kd.C_drew ?_))); (case side4 => exact (Kd.R_reads' HO_306001.out).2.1); rintro e w107 ⟨rfl, hb⟩; have n0_ := Aside0.mk (Kd.R_below (Kd.pR HO_306001.out) hb); have n1_ := Aside0.mk (Kd.R_below (Kd.pR HO_311001.out) hb); have n2_ := Aside0.mk (Kd.R_below (Kd.pR HO_320001.out) hb); have n3_ := Aside0.mk (Kd.R_below (Kd.pR HO324.out) hb); have n4_ := Aside0.mk (blk_below (pk BK290.out) hb); have n5_ := Aside0.mk (blk_below (pk BK291.out) hb); have n6_ := Aside0.mk (blk_below (pk BK305.out) hb); have n7_ := Aside0.mk (blk_below (pk BK310.out) hb); have n8_ := Aside0.mk (blk_below (pk BK319.out) hb); have n9_ := Aside0.mk (below_step (by repeat (first | (with_reducible first | exact HB.out | apply below_alloc | apply pw_below_drewN | apply below_drew1 | refine below_set ?_ (Aside0.out (by assumption))) | exact HB.out)) hb); clear HO_306001; clear HO_311001; clear HO_320001; clear HO324; clear BK290; clear BK291; clear BK305; clear BK310; clear BK319; clear HB; have HO_306001 := n0_; have HO_311001 := n1_; have HO_320001 := n2_; have HO324 := n3_; have BK290 := n4_; have BK291 := n5_; have BK305 := n6_; have BK310 := n7_; have BK319 := n8_; have HB := n9_; clear n0_ n1_ n2_ n3_ n4_ n5_ n6_ n7_ n8_ n9_; (try clear hb); (try clear hb2); (try clear hk); (try clear hi)))
         go_meet
         case rel => exact ⟨_, (true), (by first | rfl | (simp; done) | (simp [*]; done)), H', ⟨by have := HJ16.out; first | omega | exact Nat.le_refl _⟩, ⟨by (with_reducible repeat (first | apply Kd.R_alloc | apply Kd.R_drewN | apply Kd.R_drew)); exact Kd.R_mono HO_306001.out (fun _ hk => ⟨hk.1, hk.2.1⟩)⟩, ⟨by (with_reducible repeat (first | apply Kd.R_alloc | apply Kd.R_drewN | apply Kd.R_drew)); exact Kd.R_mono HO_311001.out (fun _ hk => ⟨hk.1.1, hk.1.2⟩)⟩, ⟨by (with_reducible repeat (first | apply Kd.R_alloc | apply Kd.R_drewN | apply Kd.R_drew)); exact Kd.R_mono HO_320001.out (fun _ hk => ⟨hk.1, hk.2.1⟩)⟩, ⟨by (with_reducible repeat (first | refine blk_drewN ?_ _ | refine blk_drew ?_ | refine blk_alloc ?_ _)); exact BK290.out⟩, ⟨by (with_reducible repeat (first | refine blk_drewN ?_ _ | refine blk_drew ?_ | refine blk_alloc ?_ _)); exact BK291.out⟩, ⟨by (with_reducible repeat (first | refine blk_drewN ?_ _ | refine blk_drew ?_ | refine blk_alloc ?_ _)); exact BK305.out⟩, ⟨by (with_reducible repeat (first | refine blk_drewN ?_ _ | refine blk_drew ?_ | refine blk_alloc ?_ _)); exact BK310.out⟩, ⟨by (with_reducible repeat (first | refine blk_drewN ?_ _ | refine blk_drew ?_ | refine blk_alloc ?_ _)); exact BK319.out⟩, ⟨by repeat (first | (with_reducible first | exact HB.out | apply below_alloc | apply pw_below_drewN | apply below_drew1 | refine below_set ?_ (Aside0.out (by assumption))) | exact HB.out)⟩⟩
      case rest =>
       clear HC74
       try clear c1
       try clear c2
       try clear p2
       try clear c3
       try clear c4
       try clear c5
       try clear c6
       try clear c7
       try clear c8
       try clear c9
       try clear c10
       try clear c11
       try clear c19
       try clear c21
       try clear c31
       try clear c32
       try clear c48
       try clear c49
       try clear c50
       try clear c51
       try clear c52
       try clear c54
       try clear c55
       try clear c56
       try clear c59
       try clear c60
       try clear c61
       try clear c62
       try clear c64
       try clear c65
       try clear c66
       try clear c69
       try clear c72
       try clear c79
       try clear c80
       try clear c81
       try clear c82
       try clear c85
       try clear c85b0
       try clear c87
       try clear c88
       try clear c89
       try clear c90
       try clear c91
       try clear c93
       try clear c94
       try clear c95
       try clear c98
       try clear c99
       try clear c100
       try clear c101
       try clear c103
       try clear c104
       try clear c105
       try clear hcz102_0
       try clear hcz102_1
       try clear hcz106_0
       try clear hcz106_1
       try clear hcz53_0
       try clear hcz53_1
       try clear hcz57_0
       try clear hcz57_1
       try clear hcz63_0
       try clear hcz63_1
       try clear hcz67_0
       try clear hcz67_1
       try clear hcz83_0
       try clear hcz83_1
       try clear hcz92_0
       try clear hcz92_1
       try clear hcz96_0
       try clear hcz96_1
       try clear hfz102_0
       try clear hfz102_1
       try clear hfz106_0
       try clear hfz106_1
       try clear hfz53_0
       try clear hfz53_1
       try clear hfz57_0
       try clear hfz57_1
       try clear hfz63_0
       try clear hfz63_1
       try clear hfz67_0
       try clear hfz67_1
       try clear hfz83_0
       try clear hfz83_1
       try clear hfz92_0
       try clear hfz92_1
       try clear hfz96_0
       try clear hfz96_1
       try clear p2
       obtain ⟨kq, x67_73, rfl, HA, HJ73, HO_306001, HO_311001, HO_320001, BK290, BK291, BK305, BK310, BK319, HB⟩ := hcut
       have hl311001_73 := (Kd.R_reads' HO_311001.out).1
       rw [hl311001_73] at HO_311001
       (try simp only [hl311001_73])
       (try simp only [hl311001_73] at BK290)
       (try simp only [hl311001_73] at BK291)
       (try simp only [hl311001_73] at BK305)
       (try simp only [hl311001_73] at BK310)
       (try simp only [hl311001_73] at BK319)
       (try simp only [hl311001_73] at HO_306001)
       (try simp only [hl311001_73] at HO_320001)
       cases kq with
       | zero => exact absurd HA.out (by simp [laws_FnExactAddClue.j1])
       | succ kj73 =>
        have H := HA.out
        clear HA
        simp only [laws_FnExactAddClue.j1] at H
        by_cases c108 : x67_73 = true
        ·
         subst c108
         have H1 : (none) = some r := by rw [if_pos rfl] at H; exact H
         clear H
         have H := H1
         clear H1
         exact absurd H (by simp)
        ·
         replace c108 := Bool.eq_false_iff.mpr c108
         subst c108
         have H1 : ((laws_markPuzzle.f kj73 t314 t315 1).bind fun bt329 => ((laws_heldPuzzle.f kj73 t314 bt329.2 1).bind fun t331 => (if t331 < 0 then (none) else (if t331 = bt329.1 then ((laws_toPuzzle.f kj73 a0_0 l0_1).bind fun bt332 => ((laws_toClue.f a1_0 a1_1 a1_2).bind fun bt336 => ((impl_AddClue.f kj73 bt332.1 bt332.2 bt336.1 bt336.2.1 bt336.2.2).bind fun bt339 => ((laws_eqPuzzle.f kj73 bt339.1 bt339.2.1 t300 t301).bind fun t345 => (if t345 = true then (laws_FnExactAddClue.j2 kj73 bt329.1 (bt339.2.2 != t304) t314 bt329.2) else (laws_FnExactAddClue.j2 kj73 bt329.1 true t314 bt329.2)))))) else (none))))) = some r := by rw [if_neg (show ¬ (false = true) by decide)] at H; exact H
         clear H
         have H := H1
         clear H1
         replace H := Option.bind_eq_some_iff.mp H
         obtain ⟨⟨t329, t330⟩, A1090, H⟩ := H
         replace H : ((laws_heldPuzzle.f kj73 t314 t330 1).bind fun t331 => (if t331 < 0 then (none) else (if t331 = t329 then ((laws_toPuzzle.f kj73 a0_0 l0_1).bind fun bt332 => ((laws_toClue.f a1_0 a1_1 a1_2).bind fun bt336 => ((impl_AddClue.f kj73 bt332.1 bt332.2 bt336.1 bt336.2.1 bt336.2.2).bind fun bt339 => ((laws_eqPuzzle.f kj73 bt339.1 bt339.2.1 t300 t301).bind fun t345 => (if t345 = true then (laws_FnExactAddClue.j2 kj73 t329 (bt339.2.2 != t304) t314 t330) else (laws_FnExactAddClue.j2 kj73 t329 true t314 t330)))))) else (none)))) = some r := H
         have A109 := Aside0.mk A1090
         clear A1090
         replace H := Option.bind_eq_some_iff.mp H
         obtain ⟨t331, A1100, H⟩ := H
         replace H : (if t331 < 0 then (none) else (if t331 = t329 then ((laws_toPuzzle.f kj73 a0_0 l0_1).bind fun bt332 => ((laws_toClue.f a1_0 a1_1 a1_2).bind fun bt336 => ((impl_AddClue.f kj73 bt332.1 bt332.2 bt336.1 bt336.2.1 bt336.2.2).bind fun bt339 => ((laws_eqPuzzle.f kj73 bt339.1 bt339.2.1 t300 t301).bind fun t345 => (if t345 = true then (laws_FnExactAddClue.j2 kj73 t329 (bt339.2.2 != t304) t314 t330) else (laws_FnExactAddClue.j2 kj73 t329 true t314 t330)))))) else (none))) = some r := H
         have A110 := Aside0.mk A1100
         clear A1100
         by_cases c111 : t331 < 0
         ·
          rw [if_pos c111] at H
          exact absurd H (by simp)
         ·
          rw [if_neg c111] at H
          have c111b0 : decide (t331 < 0) = false := decide_eq_false c111
          clear c111
          by_cases c112 : t331 = t329
          ·
           rw [if_pos c112] at H
           have c112b0 : (t331 == t329) = true := beq_iff_eq.mpr c112
           have c112b1 : (t331 != t329) = false := bne_eq_false_iff_eq.mpr c112
           clear c112
           replace H := Option.bind_eq_some_iff.mp H
           obtain ⟨⟨t332, t333⟩, A1130, H⟩ := H
           replace H : ((laws_toClue.f a1_0 a1_1 a1_2).bind fun bt336 => ((impl_AddClue.f kj73 t332 t333 bt336.1 bt336.2.1 bt336.2.2).bind fun bt339 => ((laws_eqPuzzle.f kj73 bt339.1 bt339.2.1 t300 t301).bind fun t345 => (if t345 = true then (laws_FnExactAddClue.j2 kj73 t329 (bt339.2.2 != t304) t314 t330) else (laws_FnExactAddClue.j2 kj73 t329 true t314 t330))))) = some r := H
           have A113 := Aside0.mk A1130
           clear A1130
           replace H := Option.bind_eq_some_iff.mp H
           obtain ⟨⟨t336, t337, t338⟩, A1140, H⟩ := H
           replace H : ((impl_AddClue.f kj73 t332 t333 t336 t337 t338).bind fun bt339 => ((laws_eqPuzzle.f kj73 bt339.1 bt339.2.1 t300 t301).bind fun t345 => (if t345 = true then (laws_FnExactAddClue.j2 kj73 t329 (bt339.2.2 != t304) t314 t330) else (laws_FnExactAddClue.j2 kj73 t329 true t314 t330)))) = some r := H
           have A114 := Aside0.mk A1140
           clear A1140
           replace H := Option.bind_eq_some_iff.mp H
           obtain ⟨⟨t339, t340, t343⟩, A1150, H⟩ := H
           replace H : ((laws_eqPuzzle.f kj73 t339 t340 t300 t301).bind fun t345 => (if t345 = true then (laws_FnExactAddClue.j2 kj73 t329 (t343 != t304) t314 t330) else (laws_FnExactAddClue.j2 kj73 t329 true t314 t330))) = some r := H
           have A115 := Aside0.mk A1150
           clear A1150
           have HC116 := Aside0.mk H
           clear H
           have hnb117 := NB319_290.out
           have hnc117 := NB290_319.out
           have hnb118 := NB319_291.out
           have hnc118 := NB291_319.out
           have hnb119 := NB319_305.out
           have hnc119 := NB305_319.out
           have hnb120 := NB319_310.out
           have hnc120 := NB310_319.out
           have hcz121_0 : wc.cell? ⟨gb319, 0, none⟩ = some (.int .i64 t314) := (blk_cell BK319.out 0).trans rfl
           have hcz121_1 : wc.cell? ⟨gb319, 1, none⟩ = some (.slice Ao45 t315.length co45) := (blk_cell BK319.out 1).trans rfl
           have hfz121_0 := blk_frozen BK319.out 0
           have hfz121_1 := blk_frozen BK319.out 1
           try go_wp2_with (first | ((with_reducible refine gate_callee (f := 32) rfl ?_); refine goesL_ (some 70) rfl rfl Try.func32 (by kernel_rfl) rfl #[.agg #[.int .i64 t314, .slice Ao45 t315.length co45], .int .i64 1] rfl (by (try simp only [List.map_toArray, List.map_cons, List.map_nil]); first | done | rfl | (simp only [List.length_drop, List.length_take]; rfl)) ?_; (with_reducible refine (laws_markPuzzle.calls kj73 t314 (fun k_ => some k_ = (.slice Ao45 t315.length co45 : Value).ownBlock) (.slice Ao45 t315.length co45) t315 1 t329 t330 w _ ?side1 ?side2 A109.out).mono ?_); (case side1 => repeat (first | (with_reducible first | exact HB.out | apply below_alloc | apply pw_below_drewN | apply below_drew1 | refine below_set ?_ (Aside0.out (by assumption))) | exact HB.out)); (case side2 => exact Kd.R_tight rfl HO_320001.out); rintro e w122 ⟨rfl, hy0, hb, hkp⟩; refine ⟨_, rfl, ?_⟩; have n0_ := Aside0.mk (Kd.R_mono (ok' := fun k_ => some k_ ≠ (.slice Ao37 t327.length co37 : Value).ownBlock ∧ some k_ ≠ (.slice Ao45 t315.length co45 : Value).ownBlock) (Kd.R_keptB (HO_306001.out) hkp (fun k_ hk_ hs_ => (hk_.2) hs_)) (fun k_ hk_ => ⟨hk_.1.1, hk_.1.2⟩)); have n1_ := Aside0.mk (Kd.R_mono (ok' := fun k_ => some k_ ≠ (.slice Ao26 t301.length co26 : Value).ownBlock ∧ some k_ ≠ (.slice Ao45 t315.length co45 : Value).ownBlock) (Kd.R_keptB (HO_311001.out) hkp (fun k_ hk_ hs_ => (hk_.2) hs_)) (fun k_ hk_ => ⟨hk_.1.1, hk_.1.2⟩)); have n2_ := Aside0.mk (Kd.R_reok rfl hy0 (fun k_ e_ => HO_320001.out.1 k_ e_)); have n3_ := Aside0.mk (blk_kept (pk BK290.out) hkp (fun hs_ => (fun e_ => (Kd.R_ne HO_320001.out BK290.out (by decide)) e_) hs_)); have n4_ := Aside0.mk (blk_kept (pk BK291.out) hkp (fun hs_ => (fun e_ => (Kd.R_ne HO_320001.out BK291.out (by decide)) e_) hs_)); have n5_ := Aside0.mk (blk_kept (pk BK305.out) hkp (fun hs_ => (fun e_ => (Kd.R_ne HO_320001.out BK305.out (by decide)) e_) hs_)); have n6_ := Aside0.mk (blk_kept (pk BK310.out) hkp (fun hs_ => (fun e_ => (Kd.R_ne HO_320001.out BK310.out (by decide)) e_) hs_)); have n7_ := Aside0.mk (blk_kept (pk BK319.out) hkp (fun hs_ => (fun e_ => (Kd.R_ne HO_320001.out BK319.out (by decide)) e_) hs_)); have n8_ := Aside0.mk (hb); clear HO_306001; clear HO_311001; clear HO_320001; clear BK290; clear BK291; clear BK305; clear BK310; clear BK319; clear HB; have HO_306001 := n0_; have HO_311001 := n1_; have HO_320001 := n2_; have BK290 := n3_; have BK291 := n4_; have BK305 := n5_; have BK310 := n6_; have BK319 := n7_; have HB := n8_; clear n0_ n1_ n2_ n3_ n4_ n5_ n6_ n7_ n8_; (try clear hb); (try clear hkp); (try clear hy0); have hcz123_0 : w122.cell? ⟨gb319, 0, none⟩ = some (.int .i64 t314) := (blk_cell BK319.out 0).trans rfl; have hcz123_1 : w122.cell? ⟨gb319, 1, none⟩ = some (.slice Ao45 t315.length co45) := (blk_cell BK319.out 1).trans rfl; have hfz123_0 := blk_frozen BK319.out 0; have hfz123_1 := blk_frozen BK319.out 1) | ((with_reducible refine gate_callee (f := 33) rfl ?_); refine goesL_ (some 73) rfl rfl Try.func33 (by kernel_rfl) rfl #[.agg #[.int .i64 t314, .slice Ao45 t330.length co45], .int .i64 1] rfl (by (try simp only [List.map_toArray, List.map_cons, List.map_nil]); first | done | (rw [show t330.length = t315.length from (Kd.R_reads' HO_320001.out).1.symm] <;> rfl) | rfl | (simp only [List.length_drop, List.length_take]; rfl)) ?_; (with_reducible refine (laws_heldPuzzle.calls kj73 t314 _ _ t330 1 t331 _ ?side1 ?side2 A110.out).mono ?_); (case side1 => repeat (first | exact (Kd.R_reads' HO_320001.out).2.2 | (with_reducible refine Kd.C_alloc ?_ _) | (with_reducible refine Kd.C_drewN ?_ _) | (with_reducible refine Kd.C_drew ?_))); (case side2 => rw [show t330.length = t315.length from (Kd.R_reads' HO_320001.out).1.symm]; exact (Kd.R_reads' HO_320001.out).2.1); rintro e w124 ⟨rfl, hb⟩; refine ⟨_, rfl, ?_⟩; have n0_ := Aside0.mk (Kd.R_below (Kd.pR HO_306001.out) hb); have n1_ := Aside0.mk (Kd.R_below (Kd.pR HO_311001.out) hb); have n2_ := Aside0.mk (Kd.R_below (Kd.pR HO_320001.out) hb); have n3_ := Aside0.mk (blk_below (pk BK290.out) hb); have n4_ := Aside0.mk (blk_below (pk BK291.out) hb); have n5_ := Aside0.mk (blk_below (pk BK305.out) hb); have n6_ := Aside0.mk (blk_below (pk BK310.out) hb); have n7_ := Aside0.mk (blk_below (pk BK319.out) hb); have n8_ := Aside0.mk (below_step (by repeat (first | (with_reducible first | exact HB.out | apply below_alloc | apply pw_below_drewN | apply below_drew1 | refine below_set ?_ (Aside0.out (by assumption))) | exact HB.out)) hb); clear HO_306001; clear HO_311001; clear HO_320001; clear BK290; clear BK291; clear BK305; clear BK310; clear BK319; clear HB; have HO_306001 := n0_; have HO_311001 := n1_; have HO_320001 := n2_; have BK290 := n3_; have BK291 := n4_; have BK305 := n5_; have BK310 := n6_; have BK319 := n7_; have HB := n8_; clear n0_ n1_ n2_ n3_ n4_ n5_ n6_ n7_ n8_; (try clear hb); (try clear hb2); (try clear hk); (try clear hi)))
           have n0_ := Aside0.mk (Kd.R_drew HO_306001.out)
           have n1_ := Aside0.mk (Kd.R_drew HO_311001.out)
           have n2_ := Aside0.mk (Kd.R_drew HO_320001.out)
           have n3_ := Aside0.mk (blk_drew BK290.out)
           have n4_ := Aside0.mk (blk_drew BK291.out)
           have n5_ := Aside0.mk (blk_drew BK305.out)
           have n6_ := Aside0.mk (blk_drew BK310.out)
           have n7_ := Aside0.mk (blk_drew BK319.out)
           have n8_ := Aside0.mk (below_drew1 HB.out)
           clear HO_306001 HO_311001 HO_320001 BK290 BK291 BK305 BK310 BK319 HB
           have HO_306001 := n0_; have HO_311001 := n1_; have HO_320001 := n2_; have BK290 := n3_; have BK291 := n4_; have BK305 := n5_; have BK310 := n6_; have BK319 := n7_; have HB := n8_
           clear n0_ n1_ n2_ n3_ n4_ n5_ n6_ n7_ n8_
           refine start_ (n := 11) (S := fun w' => w'.cell? ⟨gb290, 0, none⟩ = some (.int .i64 a0_0) ∧ w'.cell? ⟨gb290, 1, none⟩ = some (.slice A0_1 l0_1.length c0_1) ∧ w'.cell? ⟨gb291, 0, none⟩ = some (.int .i64 a1_0) ∧ w'.cell? ⟨gb291, 1, none⟩ = some (.int .i64 a1_1) ∧ w'.cell? ⟨gb291, 2, none⟩ = some (.int .i64 a1_2)) (ds := []) #[false, false, false, false, false, false, false, false, false, false, false] (by kernel_rfl) rfl rfl ⟨(blk_cell BK290.out 0).trans rfl, (blk_cell BK290.out 1).trans rfl, (blk_cell BK291.out 0).trans rfl, (blk_cell BK291.out 1).trans rfl, (blk_cell BK291.out 2).trans rfl⟩ (fun hHeld => ?_); refine with_tabW laws_FnExactAddClue.tab24 laws_FnExactAddClue.bits24 (fun HT_ HW_ => ?_)
           generalize w124.drew = w125 at HO_306001 HO_311001 HO_320001 BK290 BK291 BK305 BK310 BK319 HB hHeld ⊢
           refine take_ (i := 0) (N := some 80) (v := ?_) (a' := ?_) #[true, false, false, false, false, false, false, false, false, false, false] rfl rfl (take_ofW HT_.out HW_.out (by kernel_rfl)) (fun _ _ _ h => h) (Or.inl ⟨by rfl, ?_⟩) hHeld ?_ ?_
           rotate_left
           ·
            rintro w' ⟨s0, s1, s2, s3, s4⟩
            go_simp
            with_reducible rfl
           rotate_left
           ·
            simp only [Act.put, List.setIfInBounds_toArray, List.set_cons_zero, List.set_cons_succ, i64_w, i32_w]
            rfl
           refine take_ (i := 2) (N := some 82) (v := ?_) (a' := ?_) #[true, false, true, false, false, false, false, false, false, false, false] rfl rfl (take_ofW HT_.out HW_.out (by kernel_rfl)) (fun _ _ _ h => h) (Or.inl ⟨by rfl, ?_⟩) hHeld ?_ ?_
           rotate_left
           ·
            rintro w' ⟨s0, s1, s2, s3, s4⟩
            go_simp
            with_reducible rfl
           rotate_left
           ·
            simp only [Act.put, List.setIfInBounds_toArray, List.set_cons_zero, List.set_cons_succ, i64_w, i32_w]
            rfl
           refine join_ (σ := Value × Value × Nat) 2 #[true, true, true, true, true, true, true, true, true, false, false] (fun s_ => [(81, .agg #[.int .i64 t332, s_.1]), (83, .agg #[.int .i64 t336, .int .i64 t337, .int .i64 t338]), (84, .tuple #[.agg #[.int .i64 t339, s_.2.1], .bool t343]), (14, .pointer (some ⟨s_.2.2, 0, none⟩)), (79, .tuple #[.agg #[.int .i64 t339, s_.2.1], .bool t343]), (85, .agg #[.int .i64 t339, s_.2.1]), (86, .bool t343)]) (fun s_ w' => (w'.cell? ⟨gb290, 0, none⟩ = some (.int .i64 a0_0) ∧ w'.cell? ⟨gb290, 1, none⟩ = some (.slice A0_1 l0_1.length c0_1) ∧ w'.cell? ⟨gb291, 0, none⟩ = some (.int .i64 a1_0) ∧ w'.cell? ⟨gb291, 1, none⟩ = some (.int .i64 a1_1) ∧ w'.cell? ⟨gb291, 2, none⟩ = some (.int .i64 a1_2)) ∧ (Kd.R k25 25 w' w.heap.size (fun k_ => some k_ ≠ (s_.2.1 : Value).ownBlock ∧ some k_ ≠ (.slice Ao26 t301.length co26 : Value).ownBlock ∧ some k_ ≠ (.slice Ao37 t327.length co37 : Value).ownBlock ∧ some k_ ≠ (.slice Ao45 t315.length co45 : Value).ownBlock) s_.1 t333) ∧ (Kd.R k25 25 w' w.heap.size (fun k_ => some k_ ≠ (s_.1 : Value).ownBlock ∧ some k_ ≠ (.slice Ao26 t301.length co26 : Value).ownBlock ∧ some k_ ≠ (.slice Ao37 t327.length co37 : Value).ownBlock ∧ some k_ ≠ (.slice Ao45 t315.length co45 : Value).ownBlock) s_.2.1 t340) ∧ (Kd.R k25 25 w' w.heap.size (fun k_ => some k_ ≠ (s_.1 : Value).ownBlock ∧ some k_ ≠ (s_.2.1 : Value).ownBlock ∧ some k_ ≠ (.slice Ao37 t327.length co37 : Value).ownBlock ∧ some k_ ≠ (.slice Ao45 t315.length co45 : Value).ownBlock) (.slice Ao26 t301.length co26) t301) ∧ (Kd.R k25 25 w' w.heap.size (fun k_ => some k_ ≠ (s_.1 : Value).ownBlock ∧ some k_ ≠ (s_.2.1 : Value).ownBlock ∧ some k_ ≠ (.slice Ao26 t301.length co26 : Value).ownBlock ∧ some k_ ≠ (.slice Ao45 t315.length co45 : Value).ownBlock) (.slice Ao37 t327.length co37) t327) ∧ (Kd.R k25 25 w' w.heap.size (fun k_ => some k_ ≠ (s_.1 : Value).ownBlock ∧ some k_ ≠ (s_.2.1 : Value).ownBlock ∧ some k_ ≠ (.slice Ao26 t301.length co26 : Value).ownBlock ∧ some k_ ≠ (.slice Ao37 t327.length co37 : Value).ownBlock) (.slice Ao45 t315.length co45) t330) ∧ (w'.heap[gb290]? = some (.cells #[.int .i64 a0_0, .slice A0_1 l0_1.length c0_1] 34 (0, 0))) ∧ (w'.heap[gb291]? = some (.cells #[.int .i64 a1_0, .int .i64 a1_1, .int .i64 a1_2] 23 (0, 0))) ∧ (w'.heap[gb305]? = some (.cells #[.int .i64 t300, .slice Ao26 t301.length co26] 39 (0, 0))) ∧ (w'.heap[gb310]? = some (.cells #[.int .i64 t306, .slice Ao37 t327.length co37] 39 (0, 0))) ∧ (w'.heap[gb319]? = some (.cells #[.int .i64 t314, .slice Ao45 t315.length co45] 39 (0, 0))) ∧ (w'.heap[s_.2.2]? = some (.cells #[.int .i64 0, .slice none 0 0] 39 (0, 0))) ∧ (w.heap.size ≤ s_.2.2) ∧ (w.heap.size ≤ s_.2.2) ∧ (gb290 ≠ s_.2.2) ∧ (s_.2.2 ≠ gb290) ∧ (gb291 ≠ s_.2.2) ∧ (s_.2.2 ≠ gb291) ∧ (gb305 ≠ s_.2.2) ∧ (s_.2.2 ≠ gb305) ∧ (gb310 ≠ s_.2.2) ∧ (s_.2.2 ≠ gb310) ∧ (gb319 ≠ s_.2.2) ∧ (s_.2.2 ≠ gb319) ∧ (Below w.heap.size w w')) ?_ ?_
           rotate_left
           ·
            intro hCont
            refine two_ (i := 1) (j := 8) (Ni := some 81) (Nj := some 14) #[true, true, true, false, false, false, false, false, false, false, false] #[true, false, true, false, false, false, false, false, true, false, false] rfl rfl rfl rfl (two_of HT_.out (by kernel_rfl)) (by decide) (by decide) (fun K hK => ?_) (fun K hK => ?_)
            ·
             skip
             refine goes_ Try.func19 (by kernel_rfl) rfl #[.agg #[.int .i64 a0_0, .slice A0_1 l0_1.length c0_1]] (by rfl) rfl rfl (by (try simp only [List.map_toArray, List.map_cons, List.map_nil]); first | done | rfl | (simp only [List.length_drop, List.length_take]; rfl)) ?_
             with_reducible refine (laws_toPuzzle.calls kj73 a0_0 _ _ l0_1 t332 t333 _ ?side1 ?side2 A113.out).mono ?_
             (case side1 => repeat (first | exact (Kd.C_below HR0_1.out HB.out) | (with_reducible refine Kd.C_alloc ?_ _) | (with_reducible refine Kd.C_drewN ?_ _) | (with_reducible refine Kd.C_drew ?_)))
             (case side2 => exact HC0_1.out)
             rintro e w126 ⟨v334, rfl, ho0, hb⟩
             refine ⟨_, rfl, ?_⟩
             have n0_ := Aside0.mk (Kd.R_elder' (Kd.pR HO_306001.out) (Kd.R_base ho0) hb)
             have n1_ := Aside0.mk (Kd.R_elder' (Kd.pR HO_311001.out) (Kd.R_base ho0) hb)
             have n2_ := Aside0.mk (Kd.R_elder' (Kd.pR HO_320001.out) (Kd.R_base ho0) hb)
             have n3_ := Aside0.mk (Kd.R_lower (Kd.R_new' (Kd.R_new' (Kd.R_new' ho0 (Kd.R_lt (Kd.pR HO_306001.out))) (Kd.R_lt (Kd.pR HO_311001.out))) (Kd.R_lt (Kd.pR HO_320001.out))) (below_size (by repeat (first | (with_reducible first | exact HB.out | apply below_alloc | apply pw_below_drewN | apply below_drew1 | refine below_set ?_ (Aside0.out (by assumption))) | exact HB.out))))
             have n4_ := Aside0.mk (blk_below (pk BK290.out) hb)
             have n5_ := Aside0.mk (blk_below (pk BK291.out) hb)
             have n6_ := Aside0.mk (blk_below (pk BK305.out) hb)
             have n7_ := Aside0.mk (blk_below (pk BK310.out) hb)
             have n8_ := Aside0.mk (blk_below (pk BK319.out) hb)
             have n9_ := Aside0.mk (below_step (by repeat (first | (with_reducible first | exact HB.out | apply below_alloc | apply pw_below_drewN | apply below_drew1 | refine below_set ?_ (Aside0.out (by assumption))) | exact HB.out)) hb)
             clear HO_306001 HO_311001 HO_320001 BK290 BK291 BK305 BK310 BK319 HB
             have HO_306001 := n0_; have HO_311001 := n1_; have HO_320001 := n2_; have HO335 := n3_; have BK290 := n4_; have BK291 := n5_; have BK305 := n6_; have BK310 := n7_; have BK319 := n8_; have HB := n9_
             clear n0_ n1_ n2_ n3_ n4_ n5_ n6_ n7_ n8_ n9_
             (try clear hb)
             (try clear hb2)
             (try clear hk)
             (try clear hi)
             (try clear ho0)
             refine hK.out _ _ ⟨(blk_cell BK290.out 0).trans rfl, (blk_cell BK290.out 1).trans rfl, (blk_cell BK291.out 0).trans rfl, (blk_cell BK291.out 1).trans rfl, (blk_cell BK291.out 2).trans rfl⟩ (fun hHeld => ?_)
             clear hK K
             refine norm_ (a' := ?_) ?_ ?_
             rotate_left
             ·
              show Act.put _ (some 81) _ = _
              simp only [Act.put, List.setIfInBounds_toArray, List.set_cons_zero, List.set_cons_succ, i64_w, i32_w]
              rfl
             refine two_ (i := 3) (j := 8) (Ni := some 83) (Nj := some 14) #[true, true, true, true, false, false, false, false, false, false, false] #[true, true, true, false, false, false, false, false, true, false, false] rfl rfl rfl rfl (two_of HT_.out (by kernel_rfl)) (by decide) (by decide) (fun K hK => ?_) (fun K hK => ?_)
             ·
              skip
              refine goes_ Try.func11 (by kernel_rfl) rfl #[.agg #[.int .i64 a1_0, .int .i64 a1_1, .int .i64 a1_2]] (by rfl) rfl rfl (by (try simp only [List.map_toArray, List.map_cons, List.map_nil]); first | done | rfl | (simp only [List.length_drop, List.length_take]; rfl)) ?_
              with_reducible refine (laws_toClue.calls a1_0 a1_1 a1_2 t336 t337 t338 _ A114.out).mono ?_
              rintro e w127 ⟨rfl, hb⟩
              refine ⟨_, rfl, ?_⟩
              have n0_ := Aside0.mk (Kd.R_below (Kd.pR HO_306001.out) hb)
              have n1_ := Aside0.mk (Kd.R_below (Kd.pR HO_311001.out) hb)
              have n2_ := Aside0.mk (Kd.R_below (Kd.pR HO_320001.out) hb)
              have n3_ := Aside0.mk (Kd.R_below (Kd.pR HO335.out) hb)
              have n4_ := Aside0.mk (blk_below (pk BK290.out) hb)
              have n5_ := Aside0.mk (blk_below (pk BK291.out) hb)
              have n6_ := Aside0.mk (blk_below (pk BK305.out) hb)
              have n7_ := Aside0.mk (blk_below (pk BK310.out) hb)
              have n8_ := Aside0.mk (blk_below (pk BK319.out) hb)
              have n9_ := Aside0.mk (below_step (by repeat (first | (with_reducible first | exact HB.out | apply below_alloc | apply pw_below_drewN | apply below_drew1 | refine below_set ?_ (Aside0.out (by assumption))) | exact HB.out)) hb)
              clear HO_306001 HO_311001 HO_320001 HO335 BK290 BK291 BK305 BK310 BK319 HB
              have HO_306001 := n0_; have HO_311001 := n1_; have HO_320001 := n2_; have HO335 := n3_; have BK290 := n4_; have BK291 := n5_; have BK305 := n6_; have BK310 := n7_; have BK319 := n8_; have HB := n9_
              clear n0_ n1_ n2_ n3_ n4_ n5_ n6_ n7_ n8_ n9_
              (try clear hb)
              (try clear hb2)
              (try clear hk)
              (try clear hi)
              obtain ⟨Ao128, co128, eo128⟩ := Kd.R_slice HO335.out
              (first | subst eo128 | (injection eo128 with f1_ f2_ f3_; have f4_ := f1_.symm; have f5_ := f3_.symm; clear f1_ f2_ f3_; subst f4_; subst f5_))
              refine hK.out _ _ ⟨(blk_cell BK290.out 0).trans rfl, (blk_cell BK290.out 1).trans rfl, (blk_cell BK291.out 0).trans rfl, (blk_cell BK291.out 1).trans rfl, (blk_cell BK291.out 2).trans rfl⟩ (fun hHeld => ?_)
              clear hK K
              refine norm_ (a' := ?_) ?_ ?_
              rotate_left
              ·
               show Act.put _ (some 83) _ = _
               simp only [Act.put, List.setIfInBounds_toArray, List.set_cons_zero, List.set_cons_succ, i64_w, i32_w]
               rfl
              refine two_ (i := 4) (j := 8) (Ni := some 84) (Nj := some 14) #[true, true, true, true, true, false, false, false, false, false, false] #[true, true, true, true, false, false, false, false, true, false, false] rfl rfl rfl rfl (two_of HT_.out (by kernel_rfl)) (by decide) (by decide) (fun K hK => ?_) (fun K hK => ?_)
              ·
               skip
               refine goes_ Try.func31 (by kernel_rfl) rfl #[.agg #[.int .i64 t332, .slice Ao128 t333.length co128], .agg #[.int .i64 t336, .int .i64 t337, .int .i64 t338]] (by rfl) rfl rfl (by (try simp only [List.map_toArray, List.map_cons, List.map_nil]); first | done | rfl | (simp only [List.length_drop, List.length_take]; rfl)) ?_
               with_reducible refine (impl_AddClue.calls kj73 t332 _ _ t333 t336 t337 t338 t339 t340 t343 _ ?side1 ?side2 A115.out).mono ?_
               (case side1 => repeat (first | exact (Kd.R_reads' HO335.out).2.2 | (with_reducible refine Kd.C_alloc ?_ _) | (with_reducible refine Kd.C_drewN ?_ _) | (with_reducible refine Kd.C_drew ?_)))
               (case side2 => exact (Kd.R_reads' HO335.out).2.1)
               rintro e w129 ⟨v341, rfl, ho0, hb⟩
               refine ⟨_, rfl, ?_⟩
               have n0_ := Aside0.mk (Kd.R_elder' (Kd.pR HO_306001.out) (Kd.R_base ho0) hb)
               have n1_ := Aside0.mk (Kd.R_elder' (Kd.pR HO_311001.out) (Kd.R_base ho0) hb)
               have n2_ := Aside0.mk (Kd.R_elder' (Kd.pR HO_320001.out) (Kd.R_base ho0) hb)
               have n3_ := Aside0.mk (Kd.R_elder' (Kd.pR HO335.out) (Kd.R_base ho0) hb)
               have n4_ := Aside0.mk (Kd.R_lower (Kd.R_new' (Kd.R_new' (Kd.R_new' (Kd.R_new' ho0 (Kd.R_lt (Kd.pR HO_306001.out))) (Kd.R_lt (Kd.pR HO_311001.out))) (Kd.R_lt (Kd.pR HO_320001.out))) (Kd.R_lt (Kd.pR HO335.out))) (below_size (by repeat (first | (with_reducible first | exact HB.out | apply below_alloc | apply pw_below_drewN | apply below_drew1 | refine below_set ?_ (Aside0.out (by assumption))) | exact HB.out))))
               have n5_ := Aside0.mk (blk_below (pk BK290.out) hb)
               have n6_ := Aside0.mk (blk_below (pk BK291.out) hb)
               have n7_ := Aside0.mk (blk_below (pk BK305.out) hb)
               have n8_ := Aside0.mk (blk_below (pk BK310.out) hb)
               have n9_ := Aside0.mk (blk_below (pk BK319.out) hb)
               have n10_ := Aside0.mk (below_step (by repeat (first | (with_reducible first | exact HB.out | apply below_alloc | apply pw_below_drewN | apply below_drew1 | refine below_set ?_ (Aside0.out (by assumption))) | exact HB.out)) hb)
               clear HO_306001 HO_311001 HO_320001 HO335 BK290 BK291 BK305 BK310 BK319 HB
               have HO_306001 := n0_; have HO_311001 := n1_; have HO_320001 := n2_; have HO335 := n3_; have HO342 := n4_; have BK290 := n5_; have BK291 := n6_; have BK305 := n7_; have BK310 := n8_; have BK319 := n9_; have HB := n10_
               clear n0_ n1_ n2_ n3_ n4_ n5_ n6_ n7_ n8_ n9_ n10_
               (try clear hb)
               (try clear hb2)
               (try clear hk)
               (try clear hi)
               (try clear ho0)
               refine hK.out _ _ ⟨(blk_cell BK290.out 0).trans rfl, (blk_cell BK290.out 1).trans rfl, (blk_cell BK291.out 0).trans rfl, (blk_cell BK291.out 1).trans rfl, (blk_cell BK291.out 2).trans rfl⟩ (fun hHeld => ?_)
               clear hK K
               refine norm_ (a' := ?_) ?_ ?_
               rotate_left
               ·
                show Act.put _ (some 84) _ = _
                simp only [Act.put, List.setIfInBounds_toArray, List.set_cons_zero, List.set_cons_succ, i64_w, i32_w]
                rfl
               refine pure_ (i := 5) (N := some 79) (v := ?_) (a' := ?_) #[true, true, true, true, true, true, false, false, false, false, false] rfl rfl (any_of HT_.out (by kernel_rfl)) (fun _ _ _ h => h) (Or.inl ⟨by rfl, ?_⟩) ?_ ?_
               rotate_left
               ·
                intro w'
                go_simp
                with_reducible rfl
               rotate_left
               ·
                simp only [Act.put, List.setIfInBounds_toArray, List.set_cons_zero, List.set_cons_succ, i64_w, i32_w]
                rfl
               refine pure_ (i := 6) (N := some 85) (v := ?_) (a' := ?_) #[true, true, true, true, true, true, true, false, false, false, false] rfl rfl (any_of HT_.out (by kernel_rfl)) (fun _ _ _ h => h) (Or.inl ⟨by rfl, ?_⟩) ?_ ?_
               rotate_left
               ·
                intro w'
                go_simp
                with_reducible rfl
               rotate_left
               ·
                simp only [Act.put, List.setIfInBounds_toArray, List.set_cons_zero, List.set_cons_succ, i64_w, i32_w]
                rfl
               refine pure_ (i := 7) (N := some 86) (v := ?_) (a' := ?_) #[true, true, true, true, true, true, true, true, false, false, false] rfl rfl (any_of HT_.out (by kernel_rfl)) (fun _ _ _ h => h) (Or.inl ⟨by rfl, ?_⟩) ?_ ?_
               rotate_left
               ·
                intro w'
                go_simp
                with_reducible rfl
               rotate_left
               ·
                simp only [Act.put, List.setIfInBounds_toArray, List.set_cons_zero, List.set_cons_succ, i64_w, i32_w]
                rfl
               refine one_ (i := 8) (N := some 14) #[true, true, true, true, true, true, true, true, true, false, false] rfl rfl (one_of HT_.out (by kernel_rfl)) (by decide) (fun K hK => ?_)
               refine box_step ?hg (N := 14) ?hd (cs := #[.int .i64 0, .slice none 0 0]) (t := 39) ?hr ?_; (case hd => rfl); (case hg => rfl); (case hr => first | (go_simp; done) | (go_simp; rfl))
               intro gb344 hg w130 hbox hb
               have n0_ := Aside0.mk (Kd.R_below (Kd.pR HO_306001.out) hb)
               have n1_ := Aside0.mk (Kd.R_below (Kd.pR HO_311001.out) hb)
               have n2_ := Aside0.mk (Kd.R_below (Kd.pR HO_320001.out) hb)
               have n3_ := Aside0.mk (Kd.R_below (Kd.pR HO335.out) hb)
               have n4_ := Aside0.mk (Kd.R_below (Kd.pR HO342.out) hb)
               have n5_ := Aside0.mk (blk_below (pk BK290.out) hb)
               have n6_ := Aside0.mk (blk_below (pk BK291.out) hb)
               have n7_ := Aside0.mk (blk_below (pk BK305.out) hb)
               have n8_ := Aside0.mk (blk_below (pk BK310.out) hb)
               have n9_ := Aside0.mk (blk_below (pk BK319.out) hb)
               have n10_ := Aside0.mk (below_step (by repeat (first | (with_reducible first | exact HB.out | apply below_alloc | apply pw_below_drewN | apply below_drew1 | refine below_set ?_ (Aside0.out (by assumption))) | exact HB.out)) hb)
               have n11_ := Aside0.mk (hbox)
               have n12_ := Aside0.mk ((by rw [hg]; exact (below_size (by repeat (first | (with_reducible first | exact HB.out | apply below_alloc | apply pw_below_drewN | apply below_drew1 | refine below_set ?_ (Aside0.out (by assumption))) | exact HB.out))) : w.heap.size ≤ gb344))
               have n13_ := n12_
               have n14_ := Aside0.mk ((by rw [hg]; exact Nat.ne_of_lt (blk_lt (pk BK290.out)) : gb290 ≠ gb344))
               have n15_ := Aside0.mk n14_.out.symm
               have n16_ := Aside0.mk ((by rw [hg]; exact Nat.ne_of_lt (blk_lt (pk BK291.out)) : gb291 ≠ gb344))
               have n17_ := Aside0.mk n16_.out.symm
               have n18_ := Aside0.mk ((by rw [hg]; exact Nat.ne_of_lt (blk_lt (pk BK305.out)) : gb305 ≠ gb344))
               have n19_ := Aside0.mk n18_.out.symm
               have n20_ := Aside0.mk ((by rw [hg]; exact Nat.ne_of_lt (blk_lt (pk BK310.out)) : gb310 ≠ gb344))
               have n21_ := Aside0.mk n20_.out.symm
               have n22_ := Aside0.mk ((by rw [hg]; exact Nat.ne_of_lt (blk_lt (pk BK319.out)) : gb319 ≠ gb344))
               have n23_ := Aside0.mk n22_.out.symm
               clear HO_306001 HO_311001 HO_320001 HO335 HO342 BK290 BK291 BK305 BK310 BK319 HB
               have HO_306001 := n0_; have HO_311001 := n1_; have HO_320001 := n2_; have HO335 := n3_; have HO342 := n4_; have BK290 := n5_; have BK291 := n6_; have BK305 := n7_; have BK310 := n8_; have BK319 := n9_; have HB := n10_; have BK344 := n11_; have GW344 := n12_; have GE344 := n13_; have NB290_344 := n14_; have NB344_290 := n15_; have NB291_344 := n16_; have NB344_291 := n17_; have NB305_344 := n18_; have NB344_305 := n19_; have NB310_344 := n20_; have NB344_310 := n21_; have NB319_344 := n22_; have NB344_319 := n23_
               clear n0_ n1_ n2_ n3_ n4_ n5_ n6_ n7_ n8_ n9_ n10_ n11_ n12_ n13_ n14_ n15_ n16_ n17_ n18_ n19_ n20_ n21_ n22_ n23_ hb hbox hg
               refine hK.out _ _ ⟨(blk_cell BK290.out 0).trans rfl, (blk_cell BK290.out 1).trans rfl, (blk_cell BK291.out 0).trans rfl, (blk_cell BK291.out 1).trans rfl, (blk_cell BK291.out 2).trans rfl⟩ (fun hHeld => ?_)
               clear hK K
               refine norm_ (a' := ?_) ?_ ?_
               rotate_left
               ·
                show Act.put _ (some 14) _ = _
                simp only [Act.put, List.setIfInBounds_toArray, List.set_cons_zero, List.set_cons_succ, i64_w, i32_w]
                rfl
               exact norm_ (by simp only [putAll, Act.put, List.setIfInBounds_toArray, List.set_cons_zero, List.set_cons_succ]) (hCont (.slice Ao128 t333.length co128, v341, gb344) _ ⟨hHeld, (by (with_reducible repeat (first | apply Kd.R_alloc | apply Kd.R_drewN | apply Kd.R_drew)); exact Kd.R_mono HO335.out (fun _ hk => ⟨hk.2, ⟨hk.1.1.1.2, ⟨hk.1.1.2, hk.1.2⟩⟩⟩)), (by (with_reducible repeat (first | apply Kd.R_alloc | apply Kd.R_drewN | apply Kd.R_drew)); exact Kd.R_mono HO342.out (fun _ hk => ⟨hk.2, ⟨hk.1.1.1.2, ⟨hk.1.1.2, hk.1.2⟩⟩⟩)), (by (with_reducible repeat (first | apply Kd.R_alloc | apply Kd.R_drewN | apply Kd.R_drew)); exact Kd.R_mono HO_306001.out (fun _ hk => ⟨hk.1.2, ⟨hk.2, ⟨hk.1.1.1, hk.1.1.2⟩⟩⟩)), (by (with_reducible repeat (first | apply Kd.R_alloc | apply Kd.R_drewN | apply Kd.R_drew)); exact Kd.R_mono HO_311001.out (fun _ hk => ⟨hk.1.2, ⟨hk.2, ⟨hk.1.1.1, hk.1.1.2⟩⟩⟩)), (by (with_reducible repeat (first | apply Kd.R_alloc | apply Kd.R_drewN | apply Kd.R_drew)); exact Kd.R_mono HO_320001.out (fun _ hk => ⟨hk.1.2, ⟨hk.2, ⟨hk.1.1.1, hk.1.1.2⟩⟩⟩)), (pk BK290.out), (pk BK291.out), (pk BK305.out), (pk BK310.out), (pk BK319.out), (pk BK344.out), GW344.out, GE344.out, NB290_344.out, NB344_290.out, NB291_344.out, NB344_291.out, NB305_344.out, NB344_305.out, NB310_344.out, NB344_310.out, NB319_344.out, NB344_319.out, (by repeat (first | (with_reducible first | exact HB.out | apply below_alloc | apply pw_below_drewN | apply below_drew1 | refine below_set ?_ (Aside0.out (by assumption))) | exact HB.out))⟩)
              ·
               skip
               refine box_step ?hg (N := 14) ?hd (cs := #[.int .i64 0, .slice none 0 0]) (t := 39) ?hr ?_; (case hd => rfl); (case hg => rfl); (case hr => first | (go_simp; done) | (go_simp; rfl))
               intro gb344 hg w128 hbox hb
               have n0_ := Aside0.mk (Kd.R_below (Kd.pR HO_306001.out) hb)
               have n1_ := Aside0.mk (Kd.R_below (Kd.pR HO_311001.out) hb)
               have n2_ := Aside0.mk (Kd.R_below (Kd.pR HO_320001.out) hb)
               have n3_ := Aside0.mk (Kd.R_below (Kd.pR HO335.out) hb)
               have n4_ := Aside0.mk (blk_below (pk BK290.out) hb)
               have n5_ := Aside0.mk (blk_below (pk BK291.out) hb)
               have n6_ := Aside0.mk (blk_below (pk BK305.out) hb)
               have n7_ := Aside0.mk (blk_below (pk BK310.out) hb)
               have n8_ := Aside0.mk (blk_below (pk BK319.out) hb)
               have n9_ := Aside0.mk (below_step (by repeat (first | (with_reducible first | exact HB.out | apply below_alloc | apply pw_below_drewN | apply below_drew1 | refine below_set ?_ (Aside0.out (by assumption))) | exact HB.out)) hb)
               have n10_ := Aside0.mk (hbox)
               have n11_ := Aside0.mk ((by rw [hg]; exact (below_size (by repeat (first | (with_reducible first | exact HB.out | apply below_alloc | apply pw_below_drewN | apply below_drew1 | refine below_set ?_ (Aside0.out (by assumption))) | exact HB.out))) : w.heap.size ≤ gb344))
               have n12_ := n11_
               have n13_ := Aside0.mk ((by rw [hg]; exact Nat.ne_of_lt (blk_lt (pk BK290.out)) : gb290 ≠ gb344))
               have n14_ := Aside0.mk n13_.out.symm
               have n15_ := Aside0.mk ((by rw [hg]; exact Nat.ne_of_lt (blk_lt (pk BK291.out)) : gb291 ≠ gb344))
               have n16_ := Aside0.mk n15_.out.symm
               have n17_ := Aside0.mk ((by rw [hg]; exact Nat.ne_of_lt (blk_lt (pk BK305.out)) : gb305 ≠ gb344))
               have n18_ := Aside0.mk n17_.out.symm
               have n19_ := Aside0.mk ((by rw [hg]; exact Nat.ne_of_lt (blk_lt (pk BK310.out)) : gb310 ≠ gb344))
               have n20_ := Aside0.mk n19_.out.symm
               have n21_ := Aside0.mk ((by rw [hg]; exact Nat.ne_of_lt (blk_lt (pk BK319.out)) : gb319 ≠ gb344))
               have n22_ := Aside0.mk n21_.out.symm
               clear HO_306001 HO_311001 HO_320001 HO335 BK290 BK291 BK305 BK310 BK319 HB
               have HO_306001 := n0_; have HO_311001 := n1_; have HO_320001 := n2_; have HO335 := n3_; have BK290 := n4_; have BK291 := n5_; have BK305 := n6_; have BK310 := n7_; have BK319 := n8_; have HB := n9_; have BK344 := n10_; have GW344 := n11_; have GE344 := n12_; have NB290_344 := n13_; have NB344_290 := n14_; have NB291_344 := n15_; have NB344_291 := n16_; have NB305_344 := n17_; have NB344_305 := n18_; have NB310_344 := n19_; have NB344_310 := n20_; have NB319_344 := n21_; have NB344_319 := n22_
               clear n0_ n1_ n2_ n3_ n4_ n5_ n6_ n7_ n8_ n9_ n10_ n11_ n12_ n13_ n14_ n15_ n16_ n17_ n18_ n19_ n20_ n21_ n22_ hb hbox hg
               obtain ⟨Ao129, co129, eo129⟩ := Kd.R_slice HO335.out
               (first | subst eo129 | (injection eo129 with f1_ f2_ f3_; have f4_ := f1_.symm; have f5_ := f3_.symm; clear f1_ f2_ f3_; subst f4_; subst f5_))
               refine hK.out _ _ ⟨(blk_cell BK290.out 0).trans rfl, (blk_cell BK290.out 1).trans rfl, (blk_cell BK291.out 0).trans rfl, (blk_cell BK291.out 1).trans rfl, (blk_cell BK291.out 2).trans rfl⟩ (fun hHeld => ?_)
               clear hK K
               refine norm_ (a' := ?_) ?_ ?_
               rotate_left
               ·
                show Act.put _ (some 14) _ = _
                simp only [Act.put, List.setIfInBounds_toArray, List.set_cons_zero, List.set_cons_succ, i64_w, i32_w]
                rfl
               refine one_ (i := 4) (N := some 84) #[true, true, true, true, true, false, false, false, true, false, false] rfl rfl (one_of HT_.out (by kernel_rfl)) (by decide) (fun K hK => ?_)
               refine goes_ Try.func31 (by kernel_rfl) rfl #[.agg #[.int .i64 t332, .slice Ao129 t333.length co129], .agg #[.int .i64 t336, .int .i64 t337, .int .i64 t338]] (by rfl) rfl rfl (by (try simp only [List.map_toArray, List.map_cons, List.map_nil]); first | done | rfl | (simp only [List.length_drop, List.length_take]; rfl)) ?_
               with_reducible refine (impl_AddClue.calls kj73 t332 _ _ t333 t336 t337 t338 t339 t340 t343 _ ?side1 ?side2 A115.out).mono ?_
               (case side1 => repeat (first | exact (Kd.R_reads' HO335.out).2.2 | (with_reducible refine Kd.C_alloc ?_ _) | (with_reducible refine Kd.C_drewN ?_ _) | (with_reducible refine Kd.C_drew ?_)))
               (case side2 => exact (Kd.R_reads' HO335.out).2.1)
               rintro e w130 ⟨v341, rfl, ho0, hb⟩
               refine ⟨_, rfl, ?_⟩
               have n0_ := Aside0.mk (Kd.R_elder' (Kd.pR HO_306001.out) (Kd.R_base ho0) hb)
               have n1_ := Aside0.mk (Kd.R_elder' (Kd.pR HO_311001.out) (Kd.R_base ho0) hb)
               have n2_ := Aside0.mk (Kd.R_elder' (Kd.pR HO_320001.out) (Kd.R_base ho0) hb)
               have n3_ := Aside0.mk (Kd.R_elder' (Kd.pR HO335.out) (Kd.R_base ho0) hb)
               have n4_ := Aside0.mk (Kd.R_lower (Kd.R_new' (Kd.R_new' (Kd.R_new' (Kd.R_new' ho0 (Kd.R_lt (Kd.pR HO_306001.out))) (Kd.R_lt (Kd.pR HO_311001.out))) (Kd.R_lt (Kd.pR HO_320001.out))) (Kd.R_lt (Kd.pR HO335.out))) (below_size (by repeat (first | (with_reducible first | exact HB.out | apply below_alloc | apply pw_below_drewN | apply below_drew1 | refine below_set ?_ (Aside0.out (by assumption))) | exact HB.out))))
               have n5_ := Aside0.mk (blk_below (pk BK290.out) hb)
               have n6_ := Aside0.mk (blk_below (pk BK291.out) hb)
               have n7_ := Aside0.mk (blk_below (pk BK305.out) hb)
               have n8_ := Aside0.mk (blk_below (pk BK310.out) hb)
               have n9_ := Aside0.mk (blk_below (pk BK319.out) hb)
               have n10_ := Aside0.mk (blk_below (pk BK344.out) hb)
               have n11_ := Aside0.mk (below_step (by repeat (first | (with_reducible first | exact HB.out | apply below_alloc | apply pw_below_drewN | apply below_drew1 | refine below_set ?_ (Aside0.out (by assumption))) | exact HB.out)) hb)
               clear HO_306001 HO_311001 HO_320001 HO335 BK290 BK291 BK305 BK310 BK319 BK344 HB
               have HO_306001 := n0_; have HO_311001 := n1_; have HO_320001 := n2_; have HO335 := n3_; have HO342 := n4_; have BK290 := n5_; have BK291 := n6_; have BK305 := n7_; have BK310 := n8_; have BK319 := n9_; have BK344 := n10_; have HB := n11_
               clear n0_ n1_ n2_ n3_ n4_ n5_ n6_ n7_ n8_ n9_ n10_ n11_
               (try clear hb)
               (try clear hb2)
               (try clear hk)
               (try clear hi)
               (try clear ho0)
               refine hK.out _ _ ⟨(blk_cell BK290.out 0).trans rfl, (blk_cell BK290.out 1).trans rfl, (blk_cell BK291.out 0).trans rfl, (blk_cell BK291.out 1).trans rfl, (blk_cell BK291.out 2).trans rfl⟩ (fun hHeld => ?_)
               clear hK K
               refine norm_ (a' := ?_) ?_ ?_
               rotate_left
               ·
                show Act.put _ (some 84) _ = _
                simp only [Act.put, List.setIfInBounds_toArray, List.set_cons_zero, List.set_cons_succ, i64_w, i32_w]
                rfl
               refine pure_ (i := 5) (N := some 79) (v := ?_) (a' := ?_) #[true, true, true, true, true, true, false, false, true, false, false] rfl rfl (any_of HT_.out (by kernel_rfl)) (fun _ _ _ h => h) (Or.inl ⟨by rfl, ?_⟩) ?_ ?_
               rotate_left
               ·
                intro w'
                go_simp
                with_reducible rfl
               rotate_left
               ·
                simp only [Act.put, List.setIfInBounds_toArray, List.set_cons_zero, List.set_cons_succ, i64_w, i32_w]
                rfl
               refine pure_ (i := 6) (N := some 85) (v := ?_) (a' := ?_) #[true, true, true, true, true, true, true, false, true, false, false] rfl rfl (any_of HT_.out (by kernel_rfl)) (fun _ _ _ h => h) (Or.inl ⟨by rfl, ?_⟩) ?_ ?_
               rotate_left
               ·
                intro w'
                go_simp
                with_reducible rfl
               rotate_left
               ·
                simp only [Act.put, List.setIfInBounds_toArray, List.set_cons_zero, List.set_cons_succ, i64_w, i32_w]
                rfl
               refine pure_ (i := 7) (N := some 86) (v := ?_) (a' := ?_) #[true, true, true, true, true, true, true, true, true, false, false] rfl rfl (any_of HT_.out (by kernel_rfl)) (fun _ _ _ h => h) (Or.inl ⟨by rfl, ?_⟩) ?_ ?_
               rotate_left
               ·
                intro w'
                go_simp
                with_reducible rfl
               rotate_left
               ·
                simp only [Act.put, List.setIfInBounds_toArray, List.set_cons_zero, List.set_cons_succ, i64_w, i32_w]
                rfl
               exact norm_ (by simp only [putAll, Act.put, List.setIfInBounds_toArray, List.set_cons_zero, List.set_cons_succ]) (hCont (.slice Ao129 t333.length co129, v341, gb344) _ ⟨hHeld, (by (with_reducible repeat (first | apply Kd.R_alloc | apply Kd.R_drewN | apply Kd.R_drew)); exact Kd.R_mono HO335.out (fun _ hk => ⟨hk.2, ⟨hk.1.1.1.2, ⟨hk.1.1.2, hk.1.2⟩⟩⟩)), (by (with_reducible repeat (first | apply Kd.R_alloc | apply Kd.R_drewN | apply Kd.R_drew)); exact Kd.R_mono HO342.out (fun _ hk => ⟨hk.2, ⟨hk.1.1.1.2, ⟨hk.1.1.2, hk.1.2⟩⟩⟩)), (by (with_reducible repeat (first | apply Kd.R_alloc | apply Kd.R_drewN | apply Kd.R_drew)); exact Kd.R_mono HO_306001.out (fun _ hk => ⟨hk.1.2, ⟨hk.2, ⟨hk.1.1.1, hk.1.1.2⟩⟩⟩)), (by (with_reducible repeat (first | apply Kd.R_alloc | apply Kd.R_drewN | apply Kd.R_drew)); exact Kd.R_mono HO_311001.out (fun _ hk => ⟨hk.1.2, ⟨hk.2, ⟨hk.1.1.1, hk.1.1.2⟩⟩⟩)), (by (with_reducible repeat (first | apply Kd.R_alloc | apply Kd.R_drewN | apply Kd.R_drew)); exact Kd.R_mono HO_320001.out (fun _ hk => ⟨hk.1.2, ⟨hk.2, ⟨hk.1.1.1, hk.1.1.2⟩⟩⟩)), (pk BK290.out), (pk BK291.out), (pk BK305.out), (pk BK310.out), (pk BK319.out), (pk BK344.out), GW344.out, GE344.out, NB290_344.out, NB344_290.out, NB291_344.out, NB344_291.out, NB305_344.out, NB344_305.out, NB310_344.out, NB344_310.out, NB319_344.out, NB344_319.out, (by repeat (first | (with_reducible first | exact HB.out | apply below_alloc | apply pw_below_drewN | apply below_drew1 | refine below_set ?_ (Aside0.out (by assumption))) | exact HB.out))⟩)
             ·
              skip
              refine box_step ?hg (N := 14) ?hd (cs := #[.int .i64 0, .slice none 0 0]) (t := 39) ?hr ?_; (case hd => rfl); (case hg => rfl); (case hr => first | (go_simp; done) | (go_simp; rfl))
              intro gb344 hg w127 hbox hb
              have n0_ := Aside0.mk (Kd.R_below (Kd.pR HO_306001.out) hb)
              have n1_ := Aside0.mk (Kd.R_below (Kd.pR HO_311001.out) hb)
              have n2_ := Aside0.mk (Kd.R_below (Kd.pR HO_320001.out) hb)
              have n3_ := Aside0.mk (Kd.R_below (Kd.pR HO335.out) hb)
              have n4_ := Aside0.mk (blk_below (pk BK290.out) hb)
              have n5_ := Aside0.mk (blk_below (pk BK291.out) hb)
              have n6_ := Aside0.mk (blk_below (pk BK305.out) hb)
              have n7_ := Aside0.mk (blk_below (pk BK310.out) hb)
              have n8_ := Aside0.mk (blk_below (pk BK319.out) hb)
              have n9_ := Aside0.mk (below_step (by repeat (first | (with_reducible first | exact HB.out | apply below_alloc | apply pw_below_drewN | apply below_drew1 | refine below_set ?_ (Aside0.out (by assumption))) | exact HB.out)) hb)
              have n10_ := Aside0.mk (hbox)
              have n11_ := Aside0.mk ((by rw [hg]; exact (below_size (by repeat (first | (with_reducible first | exact HB.out | apply below_alloc | apply pw_below_drewN | apply below_drew1 | refine below_set ?_ (Aside0.out (by assumption))) | exact HB.out))) : w.heap.size ≤ gb344))
              have n12_ := n11_
              have n13_ := Aside0.mk ((by rw [hg]; exact Nat.ne_of_lt (blk_lt (pk BK290.out)) : gb290 ≠ gb344))
              have n14_ := Aside0.mk n13_.out.symm
              have n15_ := Aside0.mk ((by rw [hg]; exact Nat.ne_of_lt (blk_lt (pk BK291.out)) : gb291 ≠ gb344))
              have n16_ := Aside0.mk n15_.out.symm
              have n17_ := Aside0.mk ((by rw [hg]; exact Nat.ne_of_lt (blk_lt (pk BK305.out)) : gb305 ≠ gb344))
              have n18_ := Aside0.mk n17_.out.symm
              have n19_ := Aside0.mk ((by rw [hg]; exact Nat.ne_of_lt (blk_lt (pk BK310.out)) : gb310 ≠ gb344))
              have n20_ := Aside0.mk n19_.out.symm
              have n21_ := Aside0.mk ((by rw [hg]; exact Nat.ne_of_lt (blk_lt (pk BK319.out)) : gb319 ≠ gb344))
              have n22_ := Aside0.mk n21_.out.symm
              clear HO_306001 HO_311001 HO_320001 HO335 BK290 BK291 BK305 BK310 BK319 HB
              have HO_306001 := n0_; have HO_311001 := n1_; have HO_320001 := n2_; have HO335 := n3_; have BK290 := n4_; have BK291 := n5_; have BK305 := n6_; have BK310 := n7_; have BK319 := n8_; have HB := n9_; have BK344 := n10_; have GW344 := n11_; have GE344 := n12_; have NB290_344 := n13_; have NB344_290 := n14_; have NB291_344 := n15_; have NB344_291 := n16_; have NB305_344 := n17_; have NB344_305 := n18_; have NB310_344 := n19_; have NB344_310 := n20_; have NB319_344 := n21_; have NB344_319 := n22_
              clear n0_ n1_ n2_ n3_ n4_ n5_ n6_ n7_ n8_ n9_ n10_ n11_ n12_ n13_ n14_ n15_ n16_ n17_ n18_ n19_ n20_ n21_ n22_ hb hbox hg
              refine hK.out _ _ ⟨(blk_cell BK290.out 0).trans rfl, (blk_cell BK290.out 1).trans rfl, (blk_cell BK291.out 0).trans rfl, (blk_cell BK291.out 1).trans rfl, (blk_cell BK291.out 2).trans rfl⟩ (fun hHeld => ?_)
              clear hK K
              refine norm_ (a' := ?_) ?_ ?_
              rotate_left
              ·
               show Act.put _ (some 14) _ = _
               simp only [Act.put, List.setIfInBounds_toArray, List.set_cons_zero, List.set_cons_succ, i64_w, i32_w]
               rfl
              refine one_ (i := 3) (N := some 83) #[true, true, true, true, false, false, false, false, true, false, false] rfl rfl (one_of HT_.out (by kernel_rfl)) (by decide) (fun K hK => ?_)
              refine goes_ Try.func11 (by kernel_rfl) rfl #[.agg #[.int .i64 a1_0, .int .i64 a1_1, .int .i64 a1_2]] (by rfl) rfl rfl (by (try simp only [List.map_toArray, List.map_cons, List.map_nil]); first | done | rfl | (simp only [List.length_drop, List.length_take]; rfl)) ?_
              with_reducible refine (laws_toClue.calls a1_0 a1_1 a1_2 t336 t337 t338 _ A114.out).mono ?_
              rintro e w128 ⟨rfl, hb⟩
              refine ⟨_, rfl, ?_⟩
              have n0_ := Aside0.mk (Kd.R_below (Kd.pR HO_306001.out) hb)
              have n1_ := Aside0.mk (Kd.R_below (Kd.pR HO_311001.out) hb)
              have n2_ := Aside0.mk (Kd.R_below (Kd.pR HO_320001.out) hb)
              have n3_ := Aside0.mk (Kd.R_below (Kd.pR HO335.out) hb)
              have n4_ := Aside0.mk (blk_below (pk BK290.out) hb)
              have n5_ := Aside0.mk (blk_below (pk BK291.out) hb)
              have n6_ := Aside0.mk (blk_below (pk BK305.out) hb)
              have n7_ := Aside0.mk (blk_below (pk BK310.out) hb)
              have n8_ := Aside0.mk (blk_below (pk BK319.out) hb)
              have n9_ := Aside0.mk (blk_below (pk BK344.out) hb)
              have n10_ := Aside0.mk (below_step (by repeat (first | (with_reducible first | exact HB.out | apply below_alloc | apply pw_below_drewN | apply below_drew1 | refine below_set ?_ (Aside0.out (by assumption))) | exact HB.out)) hb)
              clear HO_306001 HO_311001 HO_320001 HO335 BK290 BK291 BK305 BK310 BK319 BK344 HB
              have HO_306001 := n0_; have HO_311001 := n1_; have HO_320001 := n2_; have HO335 := n3_; have BK290 := n4_; have BK291 := n5_; have BK305 := n6_; have BK310 := n7_; have BK319 := n8_; have BK344 := n9_; have HB := n10_
              clear n0_ n1_ n2_ n3_ n4_ n5_ n6_ n7_ n8_ n9_ n10_
              (try clear hb)
              (try clear hb2)
              (try clear hk)
              (try clear hi)
              obtain ⟨Ao129, co129, eo129⟩ := Kd.R_slice HO335.out
              (first | subst eo129 | (injection eo129 with f1_ f2_ f3_; have f4_ := f1_.symm; have f5_ := f3_.symm; clear f1_ f2_ f3_; subst f4_; subst f5_))
              refine hK.out _ _ ⟨(blk_cell BK290.out 0).trans rfl, (blk_cell BK290.out 1).trans rfl, (blk_cell BK291.out 0).trans rfl, (blk_cell BK291.out 1).trans rfl, (blk_cell BK291.out 2).trans rfl⟩ (fun hHeld => ?_)
              clear hK K
              refine norm_ (a' := ?_) ?_ ?_
              rotate_left
              ·
               show Act.put _ (some 83) _ = _
               simp only [Act.put, List.setIfInBounds_toArray, List.set_cons_zero, List.set_cons_succ, i64_w, i32_w]
               rfl
              refine one_ (i := 4) (N := some 84) #[true, true, true, true, true, false, false, false, true, false, false] rfl rfl (one_of HT_.out (by kernel_rfl)) (by decide) (fun K hK => ?_)
              refine goes_ Try.func31 (by kernel_rfl) rfl #[.agg #[.int .i64 t332, .slice Ao129 t333.length co129], .agg #[.int .i64 t336, .int .i64 t337, .int .i64 t338]] (by rfl) rfl rfl (by (try simp only [List.map_toArray, List.map_cons, List.map_nil]); first | done | rfl | (simp only [List.length_drop, List.length_take]; rfl)) ?_
              with_reducible refine (impl_AddClue.calls kj73 t332 _ _ t333 t336 t337 t338 t339 t340 t343 _ ?side1 ?side2 A115.out).mono ?_
              (case side1 => repeat (first | exact (Kd.R_reads' HO335.out).2.2 | (with_reducible refine Kd.C_alloc ?_ _) | (with_reducible refine Kd.C_drewN ?_ _) | (with_reducible refine Kd.C_drew ?_)))
              (case side2 => exact (Kd.R_reads' HO335.out).2.1)
              rintro e w130 ⟨v341, rfl, ho0, hb⟩
              refine ⟨_, rfl, ?_⟩
              have n0_ := Aside0.mk (Kd.R_elder' (Kd.pR HO_306001.out) (Kd.R_base ho0) hb)
              have n1_ := Aside0.mk (Kd.R_elder' (Kd.pR HO_311001.out) (Kd.R_base ho0) hb)
              have n2_ := Aside0.mk (Kd.R_elder' (Kd.pR HO_320001.out) (Kd.R_base ho0) hb)
              have n3_ := Aside0.mk (Kd.R_elder' (Kd.pR HO335.out) (Kd.R_base ho0) hb)
              have n4_ := Aside0.mk (Kd.R_lower (Kd.R_new' (Kd.R_new' (Kd.R_new' (Kd.R_new' ho0 (Kd.R_lt (Kd.pR HO_306001.out))) (Kd.R_lt (Kd.pR HO_311001.out))) (Kd.R_lt (Kd.pR HO_320001.out))) (Kd.R_lt (Kd.pR HO335.out))) (below_size (by repeat (first | (with_reducible first | exact HB.out | apply below_alloc | apply pw_below_drewN | apply below_drew1 | refine below_set ?_ (Aside0.out (by assumption))) | exact HB.out))))
              have n5_ := Aside0.mk (blk_below (pk BK290.out) hb)
              have n6_ := Aside0.mk (blk_below (pk BK291.out) hb)
              have n7_ := Aside0.mk (blk_below (pk BK305.out) hb)
              have n8_ := Aside0.mk (blk_below (pk BK310.out) hb)
              have n9_ := Aside0.mk (blk_below (pk BK319.out) hb)
              have n10_ := Aside0.mk (blk_below (pk BK344.out) hb)
              have n11_ := Aside0.mk (below_step (by repeat (first | (with_reducible first | exact HB.out | apply below_alloc | apply pw_below_drewN | apply below_drew1 | refine below_set ?_ (Aside0.out (by assumption))) | exact HB.out)) hb)
              clear HO_306001 HO_311001 HO_320001 HO335 BK290 BK291 BK305 BK310 BK319 BK344 HB
              have HO_306001 := n0_; have HO_311001 := n1_; have HO_320001 := n2_; have HO335 := n3_; have HO342 := n4_; have BK290 := n5_; have BK291 := n6_; have BK305 := n7_; have BK310 := n8_; have BK319 := n9_; have BK344 := n10_; have HB := n11_
              clear n0_ n1_ n2_ n3_ n4_ n5_ n6_ n7_ n8_ n9_ n10_ n11_
              (try clear hb)
              (try clear hb2)
              (try clear hk)
              (try clear hi)
              (try clear ho0)
              refine hK.out _ _ ⟨(blk_cell BK290.out 0).trans rfl, (blk_cell BK290.out 1).trans rfl, (blk_cell BK291.out 0).trans rfl, (blk_cell BK291.out 1).trans rfl, (blk_cell BK291.out 2).trans rfl⟩ (fun hHeld => ?_)
              clear hK K
              refine norm_ (a' := ?_) ?_ ?_
              rotate_left
              ·
               show Act.put _ (some 84) _ = _
               simp only [Act.put, List.setIfInBounds_toArray, List.set_cons_zero, List.set_cons_succ, i64_w, i32_w]
               rfl
              refine pure_ (i := 5) (N := some 79) (v := ?_) (a' := ?_) #[true, true, true, true, true, true, false, false, true, false, false] rfl rfl (any_of HT_.out (by kernel_rfl)) (fun _ _ _ h => h) (Or.inl ⟨by rfl, ?_⟩) ?_ ?_
              rotate_left
              ·
               intro w'
               go_simp
               with_reducible rfl
              rotate_left
              ·
               simp only [Act.put, List.setIfInBounds_toArray, List.set_cons_zero, List.set_cons_succ, i64_w, i32_w]
               rfl
              refine pure_ (i := 6) (N := some 85) (v := ?_) (a' := ?_) #[true, true, true, true, true, true, true, false, true, false, false] rfl rfl (any_of HT_.out (by kernel_rfl)) (fun _ _ _ h => h) (Or.inl ⟨by rfl, ?_⟩) ?_ ?_
              rotate_left
              ·
               intro w'
               go_simp
               with_reducible rfl
              rotate_left
              ·
               simp only [Act.put, List.setIfInBounds_toArray, List.set_cons_zero, List.set_cons_succ, i64_w, i32_w]
               rfl
              refine pure_ (i := 7) (N := some 86) (v := ?_) (a' := ?_) #[true, true, true, true, true, true, true, true, true, false, false] rfl rfl (any_of HT_.out (by kernel_rfl)) (fun _ _ _ h => h) (Or.inl ⟨by rfl, ?_⟩) ?_ ?_
              rotate_left
              ·
               intro w'
               go_simp
               with_reducible rfl
              rotate_left
              ·
               simp only [Act.put, List.setIfInBounds_toArray, List.set_cons_zero, List.set_cons_succ, i64_w, i32_w]
               rfl
              exact norm_ (by simp only [putAll, Act.put, List.setIfInBounds_toArray, List.set_cons_zero, List.set_cons_succ]) (hCont (.slice Ao129 t333.length co129, v341, gb344) _ ⟨hHeld, (by (with_reducible repeat (first | apply Kd.R_alloc | apply Kd.R_drewN | apply Kd.R_drew)); exact Kd.R_mono HO335.out (fun _ hk => ⟨hk.2, ⟨hk.1.1.1.2, ⟨hk.1.1.2, hk.1.2⟩⟩⟩)), (by (with_reducible repeat (first | apply Kd.R_alloc | apply Kd.R_drewN | apply Kd.R_drew)); exact Kd.R_mono HO342.out (fun _ hk => ⟨hk.2, ⟨hk.1.1.1.2, ⟨hk.1.1.2, hk.1.2⟩⟩⟩)), (by (with_reducible repeat (first | apply Kd.R_alloc | apply Kd.R_drewN | apply Kd.R_drew)); exact Kd.R_mono HO_306001.out (fun _ hk => ⟨hk.1.2, ⟨hk.2, ⟨hk.1.1.1, hk.1.1.2⟩⟩⟩)), (by (with_reducible repeat (first | apply Kd.R_alloc | apply Kd.R_drewN | apply Kd.R_drew)); exact Kd.R_mono HO_311001.out (fun _ hk => ⟨hk.1.2, ⟨hk.2, ⟨hk.1.1.1, hk.1.1.2⟩⟩⟩)), (by (with_reducible repeat (first | apply Kd.R_alloc | apply Kd.R_drewN | apply Kd.R_drew)); exact Kd.R_mono HO_320001.out (fun _ hk => ⟨hk.1.2, ⟨hk.2, ⟨hk.1.1.1, hk.1.1.2⟩⟩⟩)), (pk BK290.out), (pk BK291.out), (pk BK305.out), (pk BK310.out), (pk BK319.out), (pk BK344.out), GW344.out, GE344.out, NB290_344.out, NB344_290.out, NB291_344.out, NB344_291.out, NB305_344.out, NB344_305.out, NB310_344.out, NB344_310.out, NB319_344.out, NB344_319.out, (by repeat (first | (with_reducible first | exact HB.out | apply below_alloc | apply pw_below_drewN | apply below_drew1 | refine below_set ?_ (Aside0.out (by assumption))) | exact HB.out))⟩)
            ·
             skip
             refine box_step ?hg (N := 14) ?hd (cs := #[.int .i64 0, .slice none 0 0]) (t := 39) ?hr ?_; (case hd => rfl); (case hg => rfl); (case hr => first | (go_simp; done) | (go_simp; rfl))
             intro gb344 hg w126 hbox hb
             have n0_ := Aside0.mk (Kd.R_below (Kd.pR HO_306001.out) hb)
             have n1_ := Aside0.mk (Kd.R_below (Kd.pR HO_311001.out) hb)
             have n2_ := Aside0.mk (Kd.R_below (Kd.pR HO_320001.out) hb)
             have n3_ := Aside0.mk (blk_below (pk BK290.out) hb)
             have n4_ := Aside0.mk (blk_below (pk BK291.out) hb)
             have n5_ := Aside0.mk (blk_below (pk BK305.out) hb)
             have n6_ := Aside0.mk (blk_below (pk BK310.out) hb)
             have n7_ := Aside0.mk (blk_below (pk BK319.out) hb)
             have n8_ := Aside0.mk (below_step (by repeat (first | (with_reducible first | exact HB.out | apply below_alloc | apply pw_below_drewN | apply below_drew1 | refine below_set ?_ (Aside0.out (by assumption))) | exact HB.out)) hb)
             have n9_ := Aside0.mk (hbox)
             have n10_ := Aside0.mk ((by rw [hg]; exact (below_size (by repeat (first | (with_reducible first | exact HB.out | apply below_alloc | apply pw_below_drewN | apply below_drew1 | refine below_set ?_ (Aside0.out (by assumption))) | exact HB.out))) : w.heap.size ≤ gb344))
             have n11_ := n10_
             have n12_ := Aside0.mk ((by rw [hg]; exact Nat.ne_of_lt (blk_lt (pk BK290.out)) : gb290 ≠ gb344))
             have n13_ := Aside0.mk n12_.out.symm
             have n14_ := Aside0.mk ((by rw [hg]; exact Nat.ne_of_lt (blk_lt (pk BK291.out)) : gb291 ≠ gb344))
             have n15_ := Aside0.mk n14_.out.symm
             have n16_ := Aside0.mk ((by rw [hg]; exact Nat.ne_of_lt (blk_lt (pk BK305.out)) : gb305 ≠ gb344))
             have n17_ := Aside0.mk n16_.out.symm
             have n18_ := Aside0.mk ((by rw [hg]; exact Nat.ne_of_lt (blk_lt (pk BK310.out)) : gb310 ≠ gb344))
             have n19_ := Aside0.mk n18_.out.symm
             have n20_ := Aside0.mk ((by rw [hg]; exact Nat.ne_of_lt (blk_lt (pk BK319.out)) : gb319 ≠ gb344))
             have n21_ := Aside0.mk n20_.out.symm
             clear HO_306001 HO_311001 HO_320001 BK290 BK291 BK305 BK310 BK319 HB
             have HO_306001 := n0_; have HO_311001 := n1_; have HO_320001 := n2_; have BK290 := n3_; have BK291 := n4_; have BK305 := n5_; have BK310 := n6_; have BK319 := n7_; have HB := n8_; have BK344 := n9_; have GW344 := n10_; have GE344 := n11_; have NB290_344 := n12_; have NB344_290 := n13_; have NB291_344 := n14_; have NB344_291 := n15_; have NB305_344 := n16_; have NB344_305 := n17_; have NB310_344 := n18_; have NB344_310 := n19_; have NB319_344 := n20_; have NB344_319 := n21_
             clear n0_ n1_ n2_ n3_ n4_ n5_ n6_ n7_ n8_ n9_ n10_ n11_ n12_ n13_ n14_ n15_ n16_ n17_ n18_ n19_ n20_ n21_ hb hbox hg
             refine hK.out _ _ ⟨(blk_cell BK290.out 0).trans rfl, (blk_cell BK290.out 1).trans rfl, (blk_cell BK291.out 0).trans rfl, (blk_cell BK291.out 1).trans rfl, (blk_cell BK291.out 2).trans rfl⟩ (fun hHeld => ?_)
             clear hK K
             refine norm_ (a' := ?_) ?_ ?_
             rotate_left
             ·
              show Act.put _ (some 14) _ = _
              simp only [Act.put, List.setIfInBounds_toArray, List.set_cons_zero, List.set_cons_succ, i64_w, i32_w]
              rfl
             refine one_ (i := 1) (N := some 81) #[true, true, true, false, false, false, false, false, true, false, false] rfl rfl (one_of HT_.out (by kernel_rfl)) (by decide) (fun K hK => ?_)
             refine goes_ Try.func19 (by kernel_rfl) rfl #[.agg #[.int .i64 a0_0, .slice A0_1 l0_1.length c0_1]] (by rfl) rfl rfl (by (try simp only [List.map_toArray, List.map_cons, List.map_nil]); first | done | rfl | (simp only [List.length_drop, List.length_take]; rfl)) ?_
             with_reducible refine (laws_toPuzzle.calls kj73 a0_0 _ _ l0_1 t332 t333 _ ?side1 ?side2 A113.out).mono ?_
             (case side1 => repeat (first | exact (Kd.C_below HR0_1.out HB.out) | (with_reducible refine Kd.C_alloc ?_ _) | (with_reducible refine Kd.C_drewN ?_ _) | (with_reducible refine Kd.C_drew ?_)))
             (case side2 => exact HC0_1.out)
             rintro e w127 ⟨v334, rfl, ho0, hb⟩
             refine ⟨_, rfl, ?_⟩
             have n0_ := Aside0.mk (Kd.R_elder' (Kd.pR HO_306001.out) (Kd.R_base ho0) hb)
             have n1_ := Aside0.mk (Kd.R_elder' (Kd.pR HO_311001.out) (Kd.R_base ho0) hb)
             have n2_ := Aside0.mk (Kd.R_elder' (Kd.pR HO_320001.out) (Kd.R_base ho0) hb)
             have n3_ := Aside0.mk (Kd.R_lower (Kd.R_new' (Kd.R_new' (Kd.R_new' ho0 (Kd.R_lt (Kd.pR HO_306001.out))) (Kd.R_lt (Kd.pR HO_311001.out))) (Kd.R_lt (Kd.pR HO_320001.out))) (below_size (by repeat (first | (with_reducible first | exact HB.out | apply below_alloc | apply pw_below_drewN | apply below_drew1 | refine below_set ?_ (Aside0.out (by assumption))) | exact HB.out))))
             have n4_ := Aside0.mk (blk_below (pk BK290.out) hb)
             have n5_ := Aside0.mk (blk_below (pk BK291.out) hb)
             have n6_ := Aside0.mk (blk_below (pk BK305.out) hb)
             have n7_ := Aside0.mk (blk_below (pk BK310.out) hb)
             have n8_ := Aside0.mk (blk_below (pk BK319.out) hb)
             have n9_ := Aside0.mk (blk_below (pk BK344.out) hb)
             have n10_ := Aside0.mk (below_step (by repeat (first | (with_reducible first | exact HB.out | apply below_alloc | apply pw_below_drewN | apply below_drew1 | refine below_set ?_ (Aside0.out (by assumption))) | exact HB.out)) hb)
             clear HO_306001 HO_311001 HO_320001 BK290 BK291 BK305 BK310 BK319 BK344 HB
             have HO_306001 := n0_; have HO_311001 := n1_; have HO_320001 := n2_; have HO335 := n3_; have BK290 := n4_; have BK291 := n5_; have BK305 := n6_; have BK310 := n7_; have BK319 := n8_; have BK344 := n9_; have HB := n10_
             clear n0_ n1_ n2_ n3_ n4_ n5_ n6_ n7_ n8_ n9_ n10_
             (try clear hb)
             (try clear hb2)
             (try clear hk)
             (try clear hi)
             (try clear ho0)
             refine hK.out _ _ ⟨(blk_cell BK290.out 0).trans rfl, (blk_cell BK290.out 1).trans rfl, (blk_cell BK291.out 0).trans rfl, (blk_cell BK291.out 1).trans rfl, (blk_cell BK291.out 2).trans rfl⟩ (fun hHeld => ?_)
             clear hK K
             refine norm_ (a' := ?_) ?_ ?_
             rotate_left
             ·
              show Act.put _ (some 81) _ = _
              simp only [Act.put, List.setIfInBounds_toArray, List.set_cons_zero, List.set_cons_succ, i64_w, i32_w]
              rfl
             refine one_ (i := 3) (N := some 83) #[true, true, true, true, false, false, false, false, true, false, false] rfl rfl (one_of HT_.out (by kernel_rfl)) (by decide) (fun K hK => ?_)
             refine goes_ Try.func11 (by kernel_rfl) rfl #[.agg #[.int .i64 a1_0, .int .i64 a1_1, .int .i64 a1_2]] (by rfl) rfl rfl (by (try simp only [List.map_toArray, List.map_cons, List.map_nil]); first | done | rfl | (simp only [List.length_drop, List.length_take]; rfl)) ?_
             with_reducible refine (laws_toClue.calls a1_0 a1_1 a1_2 t336 t337 t338 _ A114.out).mono ?_
             rintro e w128 ⟨rfl, hb⟩
             refine ⟨_, rfl, ?_⟩
             have n0_ := Aside0.mk (Kd.R_below (Kd.pR HO_306001.out) hb)
             have n1_ := Aside0.mk (Kd.R_below (Kd.pR HO_311001.out) hb)
             have n2_ := Aside0.mk (Kd.R_below (Kd.pR HO_320001.out) hb)
             have n3_ := Aside0.mk (Kd.R_below (Kd.pR HO335.out) hb)
             have n4_ := Aside0.mk (blk_below (pk BK290.out) hb)
             have n5_ := Aside0.mk (blk_below (pk BK291.out) hb)
             have n6_ := Aside0.mk (blk_below (pk BK305.out) hb)
             have n7_ := Aside0.mk (blk_below (pk BK310.out) hb)
             have n8_ := Aside0.mk (blk_below (pk BK319.out) hb)
             have n9_ := Aside0.mk (blk_below (pk BK344.out) hb)
             have n10_ := Aside0.mk (below_step (by repeat (first | (with_reducible first | exact HB.out | apply below_alloc | apply pw_below_drewN | apply below_drew1 | refine below_set ?_ (Aside0.out (by assumption))) | exact HB.out)) hb)
             clear HO_306001 HO_311001 HO_320001 HO335 BK290 BK291 BK305 BK310 BK319 BK344 HB
             have HO_306001 := n0_; have HO_311001 := n1_; have HO_320001 := n2_; have HO335 := n3_; have BK290 := n4_; have BK291 := n5_; have BK305 := n6_; have BK310 := n7_; have BK319 := n8_; have BK344 := n9_; have HB := n10_
             clear n0_ n1_ n2_ n3_ n4_ n5_ n6_ n7_ n8_ n9_ n10_
             (try clear hb)
             (try clear hb2)
             (try clear hk)
             (try clear hi)
             obtain ⟨Ao129, co129, eo129⟩ := Kd.R_slice HO335.out
             (first | subst eo129 | (injection eo129 with f1_ f2_ f3_; have f4_ := f1_.symm; have f5_ := f3_.symm; clear f1_ f2_ f3_; subst f4_; subst f5_))
             refine hK.out _ _ ⟨(blk_cell BK290.out 0).trans rfl, (blk_cell BK290.out 1).trans rfl, (blk_cell BK291.out 0).trans rfl, (blk_cell BK291.out 1).trans rfl, (blk_cell BK291.out 2).trans rfl⟩ (fun hHeld => ?_)
             clear hK K
             refine norm_ (a' := ?_) ?_ ?_
             rotate_left
             ·
              show Act.put _ (some 83) _ = _
              simp only [Act.put, List.setIfInBounds_toArray, List.set_cons_zero, List.set_cons_succ, i64_w, i32_w]
              rfl
             refine one_ (i := 4) (N := some 84) #[true, true, true, true, true, false, false, false, true, false, false] rfl rfl (one_of HT_.out (by kernel_rfl)) (by decide) (fun K hK => ?_)
             refine goes_ Try.func31 (by kernel_rfl) rfl #[.agg #[.int .i64 t332, .slice Ao129 t333.length co129], .agg #[.int .i64 t336, .int .i64 t337, .int .i64 t338]] (by rfl) rfl rfl (by (try simp only [List.map_toArray, List.map_cons, List.map_nil]); first | done | rfl | (simp only [List.length_drop, List.length_take]; rfl)) ?_
             with_reducible refine (impl_AddClue.calls kj73 t332 _ _ t333 t336 t337 t338 t339 t340 t343 _ ?side1 ?side2 A115.out).mono ?_
             (case side1 => repeat (first | exact (Kd.R_reads' HO335.out).2.2 | (with_reducible refine Kd.C_alloc ?_ _) | (with_reducible refine Kd.C_drewN ?_ _) | (with_reducible refine Kd.C_drew ?_)))
             (case side2 => exact (Kd.R_reads' HO335.out).2.1)
             rintro e w130 ⟨v341, rfl, ho0, hb⟩
             refine ⟨_, rfl, ?_⟩
             have n0_ := Aside0.mk (Kd.R_elder' (Kd.pR HO_306001.out) (Kd.R_base ho0) hb)
             have n1_ := Aside0.mk (Kd.R_elder' (Kd.pR HO_311001.out) (Kd.R_base ho0) hb)
             have n2_ := Aside0.mk (Kd.R_elder' (Kd.pR HO_320001.out) (Kd.R_base ho0) hb)
             have n3_ := Aside0.mk (Kd.R_elder' (Kd.pR HO335.out) (Kd.R_base ho0) hb)
             have n4_ := Aside0.mk (Kd.R_lower (Kd.R_new' (Kd.R_new' (Kd.R_new' (Kd.R_new' ho0 (Kd.R_lt (Kd.pR HO_306001.out))) (Kd.R_lt (Kd.pR HO_311001.out))) (Kd.R_lt (Kd.pR HO_320001.out))) (Kd.R_lt (Kd.pR HO335.out))) (below_size (by repeat (first | (with_reducible first | exact HB.out | apply below_alloc | apply pw_below_drewN | apply below_drew1 | refine below_set ?_ (Aside0.out (by assumption))) | exact HB.out))))
             have n5_ := Aside0.mk (blk_below (pk BK290.out) hb)
             have n6_ := Aside0.mk (blk_below (pk BK291.out) hb)
             have n7_ := Aside0.mk (blk_below (pk BK305.out) hb)
             have n8_ := Aside0.mk (blk_below (pk BK310.out) hb)
             have n9_ := Aside0.mk (blk_below (pk BK319.out) hb)
             have n10_ := Aside0.mk (blk_below (pk BK344.out) hb)
             have n11_ := Aside0.mk (below_step (by repeat (first | (with_reducible first | exact HB.out | apply below_alloc | apply pw_below_drewN | apply below_drew1 | refine below_set ?_ (Aside0.out (by assumption))) | exact HB.out)) hb)
             clear HO_306001 HO_311001 HO_320001 HO335 BK290 BK291 BK305 BK310 BK319 BK344 HB
             have HO_306001 := n0_; have HO_311001 := n1_; have HO_320001 := n2_; have HO335 := n3_; have HO342 := n4_; have BK290 := n5_; have BK291 := n6_; have BK305 := n7_; have BK310 := n8_; have BK319 := n9_; have BK344 := n10_; have HB := n11_
             clear n0_ n1_ n2_ n3_ n4_ n5_ n6_ n7_ n8_ n9_ n10_ n11_
             (try clear hb)
             (try clear hb2)
             (try clear hk)
             (try clear hi)
             (try clear ho0)
             refine hK.out _ _ ⟨(blk_cell BK290.out 0).trans rfl, (blk_cell BK290.out 1).trans rfl, (blk_cell BK291.out 0).trans rfl, (blk_cell BK291.out 1).trans rfl, (blk_cell BK291.out 2).trans rfl⟩ (fun hHeld => ?_)
             clear hK K
             refine norm_ (a' := ?_) ?_ ?_
             rotate_left
             ·
              show Act.put _ (some 84) _ = _
              simp only [Act.put, List.setIfInBounds_toArray, List.set_cons_zero, List.set_cons_succ, i64_w, i32_w]
              rfl
             refine pure_ (i := 5) (N := some 79) (v := ?_) (a' := ?_) #[true, true, true, true, true, true, false, false, true, false, false] rfl rfl (any_of HT_.out (by kernel_rfl)) (fun _ _ _ h => h) (Or.inl ⟨by rfl, ?_⟩) ?_ ?_
             rotate_left
             ·
              intro w'
              go_simp
              with_reducible rfl
             rotate_left
             ·
              simp only [Act.put, List.setIfInBounds_toArray, List.set_cons_zero, List.set_cons_succ, i64_w, i32_w]
              rfl
             refine pure_ (i := 6) (N := some 85) (v := ?_) (a' := ?_) #[true, true, true, true, true, true, true, false, true, false, false] rfl rfl (any_of HT_.out (by kernel_rfl)) (fun _ _ _ h => h) (Or.inl ⟨by rfl, ?_⟩) ?_ ?_
             rotate_left
             ·
              intro w'
              go_simp
              with_reducible rfl
             rotate_left
             ·
              simp only [Act.put, List.setIfInBounds_toArray, List.set_cons_zero, List.set_cons_succ, i64_w, i32_w]
              rfl
             refine pure_ (i := 7) (N := some 86) (v := ?_) (a' := ?_) #[true, true, true, true, true, true, true, true, true, false, false] rfl rfl (any_of HT_.out (by kernel_rfl)) (fun _ _ _ h => h) (Or.inl ⟨by rfl, ?_⟩) ?_ ?_
             rotate_left
             ·
              intro w'
              go_simp
              with_reducible rfl
             rotate_left
             ·
              simp only [Act.put, List.setIfInBounds_toArray, List.set_cons_zero, List.set_cons_succ, i64_w, i32_w]
              rfl
             exact norm_ (by simp only [putAll, Act.put, List.setIfInBounds_toArray, List.set_cons_zero, List.set_cons_succ]) (hCont (.slice Ao129 t333.length co129, v341, gb344) _ ⟨hHeld, (by (with_reducible repeat (first | apply Kd.R_alloc | apply Kd.R_drewN | apply Kd.R_drew)); exact Kd.R_mono HO335.out (fun _ hk => ⟨hk.2, ⟨hk.1.1.1.2, ⟨hk.1.1.2, hk.1.2⟩⟩⟩)), (by (with_reducible repeat (first | apply Kd.R_alloc | apply Kd.R_drewN | apply Kd.R_drew)); exact Kd.R_mono HO342.out (fun _ hk => ⟨hk.2, ⟨hk.1.1.1.2, ⟨hk.1.1.2, hk.1.2⟩⟩⟩)), (by (with_reducible repeat (first | apply Kd.R_alloc | apply Kd.R_drewN | apply Kd.R_drew)); exact Kd.R_mono HO_306001.out (fun _ hk => ⟨hk.1.2, ⟨hk.2, ⟨hk.1.1.1, hk.1.1.2⟩⟩⟩)), (by (with_reducible repeat (first | apply Kd.R_alloc | apply Kd.R_drewN | apply Kd.R_drew)); exact Kd.R_mono HO_311001.out (fun _ hk => ⟨hk.1.2, ⟨hk.2, ⟨hk.1.1.1, hk.1.1.2⟩⟩⟩)), (by (with_reducible repeat (first | apply Kd.R_alloc | apply Kd.R_drewN | apply Kd.R_drew)); exact Kd.R_mono HO_320001.out (fun _ hk => ⟨hk.1.2, ⟨hk.2, ⟨hk.1.1.1, hk.1.1.2⟩⟩⟩)), (pk BK290.out), (pk BK291.out), (pk BK305.out), (pk BK310.out), (pk BK319.out), (pk BK344.out), GW344.out, GE344.out, NB290_344.out, NB344_290.out, NB291_344.out, NB344_291.out, NB305_344.out, NB344_305.out, NB310_344.out, NB344_310.out, NB319_344.out, NB344_319.out, (by repeat (first | (with_reducible first | exact HB.out | apply below_alloc | apply pw_below_drewN | apply below_drew1 | refine below_set ?_ (Aside0.out (by assumption))) | exact HB.out))⟩)
           rintro ⟨v334, v341, gb344⟩ w131 ⟨hS_, h0_, h1_, h2_, h3_, h4_, h5_, h6_, h7_, h8_, h9_, h10_, h11_, h12_, h13_, h14_, h15_, h16_, h17_, h18_, h19_, h20_, h21_, h22_, h23_⟩
           have n0_ : Aside0 (Kd.R k25 25 w131 w.heap.size (fun k_ => some k_ ≠ (v341 : Value).ownBlock ∧ some k_ ≠ (.slice Ao26 t301.length co26 : Value).ownBlock ∧ some k_ ≠ (.slice Ao37 t327.length co37 : Value).ownBlock ∧ some k_ ≠ (.slice Ao45 t315.length co45 : Value).ownBlock) v334 t333) := ⟨h0_⟩
           have n1_ : Aside0 (Kd.R k25 25 w131 w.heap.size (fun k_ => some k_ ≠ (v334 : Value).ownBlock ∧ some k_ ≠ (.slice Ao26 t301.length co26 : Value).ownBlock ∧ some k_ ≠ (.slice Ao37 t327.length co37 : Value).ownBlock ∧ some k_ ≠ (.slice Ao45 t315.length co45 : Value).ownBlock) v341 t340) := ⟨h1_⟩
           have n2_ : Aside0 (Kd.R k25 25 w131 w.heap.size (fun k_ => some k_ ≠ (v334 : Value).ownBlock ∧ some k_ ≠ (v341 : Value).ownBlock ∧ some k_ ≠ (.slice Ao37 t327.length co37 : Value).ownBlock ∧ some k_ ≠ (.slice Ao45 t315.length co45 : Value).ownBlock) (.slice Ao26 t301.length co26) t301) := ⟨h2_⟩
           have n3_ : Aside0 (Kd.R k25 25 w131 w.heap.size (fun k_ => some k_ ≠ (v334 : Value).ownBlock ∧ some k_ ≠ (v341 : Value).ownBlock ∧ some k_ ≠ (.slice Ao26 t301.length co26 : Value).ownBlock ∧ some k_ ≠ (.slice Ao45 t315.length co45 : Value).ownBlock) (.slice Ao37 t327.length co37) t327) := ⟨h3_⟩
           have n4_ : Aside0 (Kd.R k25 25 w131 w.heap.size (fun k_ => some k_ ≠ (v334 : Value).ownBlock ∧ some k_ ≠ (v341 : Value).ownBlock ∧ some k_ ≠ (.slice Ao26 t301.length co26 : Value).ownBlock ∧ some k_ ≠ (.slice Ao37 t327.length co37 : Value).ownBlock) (.slice Ao45 t315.length co45) t330) := ⟨h4_⟩
           have n5_ : Aside0 (w131.heap[gb290]? = some (.cells #[.int .i64 a0_0, .slice A0_1 l0_1.length c0_1] 34 (0, 0))) := ⟨h5_⟩
           have n6_ : Aside0 (w131.heap[gb291]? = some (.cells #[.int .i64 a1_0, .int .i64 a1_1, .int .i64 a1_2] 23 (0, 0))) := ⟨h6_⟩
           have n7_ : Aside0 (w131.heap[gb305]? = some (.cells #[.int .i64 t300, .slice Ao26 t301.length co26] 39 (0, 0))) := ⟨h7_⟩
           have n8_ : Aside0 (w131.heap[gb310]? = some (.cells #[.int .i64 t306, .slice Ao37 t327.length co37] 39 (0, 0))) := ⟨h8_⟩
           have n9_ : Aside0 (w131.heap[gb319]? = some (.cells #[.int .i64 t314, .slice Ao45 t315.length co45] 39 (0, 0))) := ⟨h9_⟩
           have n10_ : Aside0 (w131.heap[gb344]? = some (.cells #[.int .i64 0, .slice none 0 0] 39 (0, 0))) := ⟨h10_⟩
           have n11_ : Aside0 (w.heap.size ≤ gb344) := ⟨h11_⟩
           have n12_ : Aside0 (w.heap.size ≤ gb344) := ⟨h12_⟩
           have n13_ : Aside0 (gb290 ≠ gb344) := ⟨h13_⟩
           have n14_ : Aside0 (gb344 ≠ gb290) := ⟨h14_⟩
           have n15_ : Aside0 (gb291 ≠ gb344) := ⟨h15_⟩
           have n16_ : Aside0 (gb344 ≠ gb291) := ⟨h16_⟩
           have n17_ : Aside0 (gb305 ≠ gb344) := ⟨h17_⟩
           have n18_ : Aside0 (gb344 ≠ gb305) := ⟨h18_⟩
           have n19_ : Aside0 (gb310 ≠ gb344) := ⟨h19_⟩
           have n20_ : Aside0 (gb344 ≠ gb310) := ⟨h20_⟩
           have n21_ : Aside0 (gb319 ≠ gb344) := ⟨h21_⟩
           have n22_ : Aside0 (gb344 ≠ gb319) := ⟨h22_⟩
           have n23_ : Aside0 (Below w.heap.size w w131) := ⟨h23_⟩
           clear HO_306001 HO_311001 HO_320001 BK290 BK291 BK305 BK310 BK319 HB h0_ h1_ h2_ h3_ h4_ h5_ h6_ h7_ h8_ h9_ h10_ h11_ h12_ h13_ h14_ h15_ h16_ h17_ h18_ h19_ h20_ h21_ h22_ h23_
           have HO335 := n0_; have HO342 := n1_; have HO_306001 := n2_; have HO_311001 := n3_; have HO_320001 := n4_; have BK290 := n5_; have BK291 := n6_; have BK305 := n7_; have BK310 := n8_; have BK319 := n9_; have BK344 := n10_; have GW344 := n11_; have GE344 := n12_; have NB290_344 := n13_; have NB344_290 := n14_; have NB291_344 := n15_; have NB344_291 := n16_; have NB305_344 := n17_; have NB344_305 := n18_; have NB310_344 := n19_; have NB344_310 := n20_; have NB319_344 := n21_; have NB344_319 := n22_; have HB := n23_
           clear n0_ n1_ n2_ n3_ n4_ n5_ n6_ n7_ n8_ n9_ n10_ n11_ n12_ n13_ n14_ n15_ n16_ n17_ n18_ n19_ n20_ n21_ n22_ n23_
           have hHeld : w131.cell? ⟨gb290, 0, none⟩ = some (.int .i64 a0_0) ∧ w131.cell? ⟨gb290, 1, none⟩ = some (.slice A0_1 l0_1.length c0_1) ∧ w131.cell? ⟨gb291, 0, none⟩ = some (.int .i64 a1_0) ∧ w131.cell? ⟨gb291, 1, none⟩ = some (.int .i64 a1_1) ∧ w131.cell? ⟨gb291, 2, none⟩ = some (.int .i64 a1_2) := hS_
           obtain ⟨Ao133, co133, eo133⟩ := Kd.R_slice HO342.out
           (first | subst eo133 | (injection eo133 with f1_ f2_ f3_; have f4_ := f1_.symm; have f5_ := f3_.symm; clear f1_ f2_ f3_; subst f4_; subst f5_))
           refine norm_ (a' := ?_) ?_ ?_
           rotate_left
           ·
            simp only [putAll, Act.put, List.setIfInBounds_toArray, List.set_cons_zero, List.set_cons_succ]
            rfl
           refine one_ (i := 9) (N := none) #[true, true, true, true, true, true, true, true, true, true, false] rfl rfl (one_of HT_.out (by kernel_rfl)) (by decide) (fun K hK => ?_)
           have hs132 : w131.cell? ⟨gb344, 0, none⟩ = some (.int .i64 0) := (blk_cell BK344.out 0).trans rfl
           have hfs132 := blk_frozen BK344.out 0
           have hns132_0 := NB290_344.out
           have hns132_1 := NB291_344.out
           have hns132_2 := NB305_344.out
           have hns132_3 := NB310_344.out
           have hns132_4 := NB319_344.out
           have hms132_0 := NB344_290.out
           have hms132_1 := NB344_291.out
           have hms132_2 := NB344_305.out
           have hms132_3 := NB344_310.out
           have hms132_4 := NB344_319.out
           have hs134 : w131.cell? ⟨gb344, 1, none⟩ = some (.slice none 0 0) := (blk_cell BK344.out 1).trans rfl
           have hfs134 := blk_frozen BK344.out 1
           have hns134_0 := NB290_344.out
           have hns134_1 := NB291_344.out
           have hns134_2 := NB305_344.out
           have hns134_3 := NB310_344.out
           have hns134_4 := NB319_344.out
           have hms134_0 := NB344_290.out
           have hms134_1 := NB344_291.out
           have hms134_2 := NB344_305.out
           have hms134_3 := NB344_310.out
           have hms134_4 := NB344_319.out
           refine skip_ (w1 := ?_) (by rfl) rfl ?_ ?_
           rotate_left
           ·
            go_simp
            rfl
           refine hK.out _ _ ⟨((cell_far (p := ⟨gb344, _, none⟩) NB290_344.out _).trans (((cell_far (p := ⟨gb344, _, none⟩) NB290_344.out _).trans (hHeld.1)))), ((cell_far (p := ⟨gb344, _, none⟩) NB290_344.out _).trans (((cell_far (p := ⟨gb344, _, none⟩) NB290_344.out _).trans (hHeld.2.1)))), ((cell_far (p := ⟨gb344, _, none⟩) NB291_344.out _).trans (((cell_far (p := ⟨gb344, _, none⟩) NB291_344.out _).trans (hHeld.2.2.1)))), ((cell_far (p := ⟨gb344, _, none⟩) NB291_344.out _).trans (((cell_far (p := ⟨gb344, _, none⟩) NB291_344.out _).trans (hHeld.2.2.2.1)))), ((cell_far (p := ⟨gb344, _, none⟩) NB291_344.out _).trans (((cell_far (p := ⟨gb344, _, none⟩) NB291_344.out _).trans (hHeld.2.2.2.2))))⟩ (fun hHeld => ?_)
           clear hK K
           refine pure_ (i := 10) (N := some 15) (v := ?_) (a' := ?_) #[true, true, true, true, true, true, true, true, true, true, true] rfl rfl (any_of HT_.out (by kernel_rfl)) (fun _ _ _ h => h) (Or.inl ⟨by rfl, ?_⟩) ?_ ?_
           rotate_left
           ·
            intro w'
            go_simp
            with_reducible rfl
           rotate_left
           ·
            simp only [Act.put, List.setIfInBounds_toArray, List.set_cons_zero, List.set_cons_succ, i64_w, i32_w]
            rfl
           refine done_ (done_of HT_.out (by kernel_rfl)) ?_
           go_upto_region 25 with (fail)
           go_cut [95] (fun v95 wc => ∃ (kq : Nat) (x95_115 : Bool), v95 = .bool x95_115 ∧ Aside0 (laws_FnExactAddClue.j2 kq t329 x95_115 t314 t330 = some r) ∧ Aside0 (kq ≤ kj73) ∧ Aside0 (Kd.R k25 25 wc w.heap.size (fun k_ => some k_ ≠ ((.slice Ao37 t327.length co37) : Value).ownBlock ∧ some k_ ≠ ((.slice Ao45 t315.length co45) : Value).ownBlock ∧ some k_ ≠ ((.slice Ao133 t340.length co133) : Value).ownBlock) (.slice Ao26 t301.length co26) t301) ∧ Aside0 (Kd.R k25 25 wc w.heap.size (fun k_ => some k_ ≠ ((.slice Ao26 t301.length co26) : Value).ownBlock ∧ some k_ ≠ ((.slice Ao45 t315.length co45) : Value).ownBlock ∧ some k_ ≠ ((.slice Ao133 t340.length co133) : Value).ownBlock) (.slice Ao37 t327.length co37) t327) ∧ Aside0 (Kd.R k25 25 wc w.heap.size (fun k_ => some k_ ≠ ((.slice Ao26 t301.length co26) : Value).ownBlock ∧ some k_ ≠ ((.slice Ao37 t327.length co37) : Value).ownBlock ∧ some k_ ≠ ((.slice Ao133 t340.length co133) : Value).ownBlock) (.slice Ao45 t315.length co45) t330) ∧ Aside0 (Kd.R k25 25 wc w.heap.size (fun k_ => some k_ ≠ ((.slice Ao26 t301.length co26) : Value).ownBlock ∧ some k_ ≠ ((.slice Ao37 t327.length co37) : Value).ownBlock ∧ some k_ ≠ ((.slice Ao45 t315.length co45) : Value).ownBlock) (.slice Ao133 t340.length co133) t340) ∧ Aside0 (wc.heap[gb290]? = some (.cells #[.int .i64 a0_0, (.slice A0_1 l0_1.length c0_1)] 34 (0, 0))) ∧ Aside0 (wc.heap[gb291]? = some (.cells #[.int .i64 a1_0, .int .i64 a1_1, .int .i64 a1_2] 23 (0, 0))) ∧ Aside0 (wc.heap[gb305]? = some (.cells #[.int .i64 t300, (.slice Ao26 t301.length co26)] 39 (0, 0))) ∧ Aside0 (wc.heap[gb310]? = some (.cells #[.int .i64 t306, (.slice Ao37 t327.length co37)] 39 (0, 0))) ∧ Aside0 (wc.heap[gb319]? = some (.cells #[.int .i64 t314, (.slice Ao45 t315.length co45)] 39 (0, 0))) ∧ Aside0 (wc.heap[gb344]? = some (.cells #[.int .i64 t339, (.slice Ao133 t340.length co133)] 39 (0, 0))) ∧ Aside0 (Below w.heap.size w wc))
           case first =>
            have H := HC116.out
            clear HC116
            replace H := Option.bind_eq_some_iff.mp H
            obtain ⟨t345, A1350, H⟩ := H
            replace H : (if t345 = true then (laws_FnExactAddClue.j2 kj73 t329 (t343 != t304) t314 t330) else (laws_FnExactAddClue.j2 kj73 t329 true t314 t330)) = some r := H
            have A135 := Aside0.mk A1350
            clear A1350
            by_cases c136 : t345 = true
            ·
             subst c136
             have H1 : (laws_FnExactAddClue.j2 kj73 t329 (t343 != t304) t314 t330) = some r := by rw [if_pos rfl] at H; exact H
             clear H
             have H := H1
             clear H1
             have H' := Aside0.mk H
             clear H
             have hnb137 := NB344_290.out
             have hnc137 := NB290_344.out
             have hnb138 := NB344_291.out
             have hnc138 := NB291_344.out
             have hnb139 := NB344_305.out
             have hnc139 := NB305_344.out
             have hnb140 := NB344_310.out
             have hnc140 := NB310_344.out
             have hnb141 := NB344_319.out
             have hnc141 := NB319_344.out
             have hcz142_0 : w131.cell? ⟨gb344, 0, none⟩ = some (.int .i64 0) := (blk_cell BK344.out 0).trans rfl
             have hcz142_1 : w131.cell? ⟨gb344, 1, none⟩ = some (.slice none 0 0) := (blk_cell BK344.out 1).trans rfl
             have hfz142_0 := blk_frozen BK344.out 0
             have hfz142_1 := blk_frozen BK344.out 1
             have hnb143 := NB305_290.out
             have hnc143 := NB290_305.out
             have hnb144 := NB305_291.out
             have hnc144 := NB291_305.out
             have hnb145 := NB305_310.out
             have hnc145 := NB310_305.out
             have hnb146 := NB305_319.out
             have hnc146 := NB319_305.out
             have hcz147_0 : w131.cell? ⟨gb305, 0, none⟩ = some (.int .i64 t300) := (blk_cell BK305.out 0).trans rfl
             have hcz147_1 : w131.cell? ⟨gb305, 1, none⟩ = some (.slice Ao26 t301.length co26) := (blk_cell BK305.out 1).trans rfl
             have hfz147_0 := blk_frozen BK305.out 0
             have hfz147_1 := blk_frozen BK305.out 1
             go_wp2_with (first | ((with_reducible refine gate_callee (f := 21) rfl ?_); refine goesL_ (some 89) rfl rfl Try.func21 (by kernel_rfl) rfl #[.agg #[.int .i64 t339, .slice Ao133 t340.length co133], .agg #[.int .i64 t300, .slice Ao26 t301.length co26]] rfl (by (try simp only [List.map_toArray, List.map_cons, List.map_nil]); first | done | rfl | (simp only [List.length_drop, List.length_take]; rfl)) ?_; (with_reducible refine (laws_eqPuzzle.calls kj73 t339 _ _ t340 t300 _ _ t301 true _ ?side1 ?side2 ?side3 ?side4 A135.out).mono ?_); (case side1 => refine (Kd.R_reads' (e := 25) (base := w.heap.size) (ok := fun k_ => (some k_ ≠ (v334 : Value).ownBlock ∧ (some k_ ≠ (.slice Ao26 t301.length co26 : Value).ownBlock ∧ (some k_ ≠ (.slice Ao37 t327.length co37 : Value).ownBlock ∧ some k_ ≠ (.slice Ao45 t315.length co45 : Value).ownBlock)))) (n := t340.length) (c := co133) ?_).2.2; exact (by (with_reducible repeat (first | apply Kd.R_alloc | apply Kd.R_drewN | apply Kd.R_drew)); exact (Kd.R_mono (Kd.R_far (p := ⟨gb344, 1, none⟩) (Kd.R_far (p := ⟨gb344, 0, none⟩) (Kd.R_types HO342.out BK344.out (by decide)) (fun _ hk => hk.2) (.int .i64 t339)) (fun _ hk => hk.2) (.slice Ao133 t340.length co133)) (fun _ h_ => h_.1)))); (case side2 => exact (Kd.R_reads' HO342.out).2.1); (case side3 => refine (Kd.R_reads' (e := 25) (base := w.heap.size) (ok := fun k_ => (some k_ ≠ (v334 : Value).ownBlock ∧ (some k_ ≠ (.slice Ao133 t340.length co133 : Value).ownBlock ∧ (some k_ ≠ (.slice Ao37 t327.length co37 : Value).ownBlock ∧ some k_ ≠ (.slice Ao45 t315.length co45 : Value).ownBlock)))) (n := t301.length) (c := co26) ?_).2.2; exact (by (with_reducible repeat (first | apply Kd.R_alloc | apply Kd.R_drewN | apply Kd.R_drew)); exact (Kd.R_mono (Kd.R_far (p := ⟨gb344, 1, none⟩) (Kd.R_far (p := ⟨gb344, 0, none⟩) (Kd.R_types HO_306001.out BK344.out (by decide)) (fun _ hk => hk.2) (.int .i64 t339)) (fun _ hk => hk.2) (.slice Ao133 t340.length co133)) (fun _ h_ => h_.1)))); (case side4 => exact (Kd.R_reads' HO_306001.out).2.1); rintro e w148 ⟨rfl, hb⟩; refine ⟨_, rfl, ?_⟩; have n0_ := Aside0.mk (Kd.R_below (by (with_reducible repeat (first | apply Kd.R_alloc | apply Kd.R_drewN | apply Kd.R_drew)); exact (Kd.R_mono (Kd.R_far (p := ⟨gb344, 1, none⟩) (Kd.R_far (p := ⟨gb344, 0, none⟩) (Kd.R_types HO_306001.out BK344.out (by decide)) (fun _ hk => hk.2) (.int .i64 t339)) (fun _ hk => hk.2) (.slice Ao133 t340.length co133)) (fun _ h_ => h_.1))) hb); have n1_ := Aside0.mk (Kd.R_below (by (with_reducible repeat (first | apply Kd.R_alloc | apply Kd.R_drewN | apply Kd.R_drew)); exact (Kd.R_mono (Kd.R_far (p := ⟨gb344, 1, none⟩) (Kd.R_far (p := ⟨gb344, 0, none⟩) (Kd.R_types HO_311001.out BK344.out (by decide)) (fun _ hk => hk.2) (.int .i64 t339)) (fun _ hk => hk.2) (.slice Ao133 t340.length co133)) (fun _ h_ => h_.1))) hb); have n2_ := Aside0.mk (Kd.R_below (by (with_reducible repeat (first | apply Kd.R_alloc | apply Kd.R_drewN | apply Kd.R_drew)); exact (Kd.R_mono (Kd.R_far (p := ⟨gb344, 1, none⟩) (Kd.R_far (p := ⟨gb344, 0, none⟩) (Kd.R_types HO_320001.out BK344.out (by decide)) (fun _ hk => hk.2) (.int .i64 t339)) (fun _ hk => hk.2) (.slice Ao133 t340.length co133)) (fun _ h_ => h_.1))) hb); have n3_ := Aside0.mk (Kd.R_below (by (with_reducible repeat (first | apply Kd.R_alloc | apply Kd.R_drewN | apply Kd.R_drew)); exact (Kd.R_mono (Kd.R_far (p := ⟨gb344, 1, none⟩) (Kd.R_far (p := ⟨gb344, 0, none⟩) (Kd.R_types HO335.out BK344.out (by decide)) (fun _ hk => hk.2) (.int .i64 t339)) (fun _ hk => hk.2) (.slice Ao133 t340.length co133)) (fun _ h_ => h_.1))) hb); have n4_ := Aside0.mk (Kd.R_below (by (with_reducible repeat (first | apply Kd.R_alloc | apply Kd.R_drewN | apply Kd.R_drew)); exact (Kd.R_mono (Kd.R_far (p := ⟨gb344, 1, none⟩) (Kd.R_far (p := ⟨gb344, 0, none⟩) (Kd.R_types HO342.out BK344.out (by decide)) (fun _ hk => hk.2) (.int .i64 t339)) (fun _ hk => hk.2) (.slice Ao133 t340.length co133)) (fun _ h_ => h_.1))) hb); have n5_ := Aside0.mk (blk_below (g := gb290) (o := .cells #[.int .i64 a0_0, .slice A0_1 l0_1.length c0_1] 34 (0, 0)) (by (with_reducible repeat (first | refine blk_drewN ?_ _ | refine blk_drew ?_ | refine blk_alloc ?_ _)); refine blk_far ?_ NB290_344.out _; (with_reducible repeat (first | refine blk_drewN ?_ _ | refine blk_drew ?_ | refine blk_alloc ?_ _)); refine blk_far ?_ NB290_344.out _; (with_reducible repeat (first | refine blk_drewN ?_ _ | refine blk_drew ?_ | refine blk_alloc ?_ _)); exact BK290.out) hb); have n6_ := Aside0.mk (blk_below (g := gb291) (o := .cells #[.int .i64 a1_0, .int .i64 a1_1, .int .i64 a1_2] 23 (0, 0)) (by (with_reducible repeat (first | refine blk_drewN ?_ _ | refine blk_drew ?_ | refine blk_alloc ?_ _)); refine blk_far ?_ NB291_344.out _; (with_reducible repeat (first | refine blk_drewN ?_ _ | refine blk_drew ?_ | refine blk_alloc ?_ _)); refine blk_far ?_ NB291_344.out _; (with_reducible repeat (first | refine blk_drewN ?_ _ | refine blk_drew ?_ | refine blk_alloc ?_ _)); exact BK291.out) hb); have n7_ := Aside0.mk (blk_below (g := gb305) (o := .cells #[.int .i64 t300, .slice Ao26 t301.length co26] 39 (0, 0)) (by (with_reducible repeat (first | refine blk_drewN ?_ _ | refine blk_drew ?_ | refine blk_alloc ?_ _)); refine blk_far ?_ NB305_344.out _; (with_reducible repeat (first | refine blk_drewN ?_ _ | refine blk_drew ?_ | refine blk_alloc ?_ _)); refine blk_far ?_ NB305_344.out _; (with_reducible repeat (first | refine blk_drewN ?_ _ | refine blk_drew ?_ | refine blk_alloc ?_ _)); exact BK305.out) hb); have n8_ := Aside0.mk (blk_below (g := gb310) (o := .cells #[.int .i64 t306, .slice Ao37 t327.length co37] 39 (0, 0)) (by (with_reducible repeat (first | refine blk_drewN ?_ _ | refine blk_drew ?_ | refine blk_alloc ?_ _)); refine blk_far ?_ NB310_344.out _; (with_reducible repeat (first | refine blk_drewN ?_ _ | refine blk_drew ?_ | refine blk_alloc ?_ _)); refine blk_far ?_ NB310_344.out _; (with_reducible repeat (first | refine blk_drewN ?_ _ | refine blk_drew ?_ | refine blk_alloc ?_ _)); exact BK310.out) hb); have n9_ := Aside0.mk (blk_below (g := gb319) (o := .cells #[.int .i64 t314, .slice Ao45 t315.length co45] 39 (0, 0)) (by (with_reducible repeat (first | refine blk_drewN ?_ _ | refine blk_drew ?_ | refine blk_alloc ?_ _)); refine blk_far ?_ NB319_344.out _; (with_reducible repeat (first | refine blk_drewN ?_ _ | refine blk_drew ?_ | refine blk_alloc ?_ _)); refine blk_far ?_ NB319_344.out _; (with_reducible repeat (first | refine blk_drewN ?_ _ | refine blk_drew ?_ | refine blk_alloc ?_ _)); exact BK319.out) hb); have n10_ := Aside0.mk (blk_below (g := gb344) (o := .cells #[.int .i64 t339, .slice Ao133 t340.length co133] 39 (0, 0)) (by (with_reducible repeat (first | refine blk_drewN ?_ _ | refine blk_drew ?_ | refine blk_alloc ?_ _)); refine blk_put (cs := #[.int .i64 t339, .slice none 0 0]) ?_ 1 _ rfl; (with_reducible repeat (first | refine blk_drewN ?_ _ | refine blk_drew ?_ | refine blk_alloc ?_ _)); refine blk_put (cs := #[.int .i64 0, .slice none 0 0]) ?_ 0 _ rfl; (with_reducible repeat (first | refine blk_drewN ?_ _ | refine blk_drew ?_ | refine blk_alloc ?_ _)); exact BK344.out) hb); have n11_ := Aside0.mk (below_step (by repeat (first | (with_reducible first | exact HB.out | apply below_alloc | apply pw_below_drewN | apply below_drew1 | refine below_set ?_ (Aside0.out (by assumption))) | exact HB.out)) hb); clear HO_306001; clear HO_311001; clear HO_320001; clear HO335; clear HO342; clear BK290; clear BK291; clear BK305; clear BK310; clear BK319; clear BK344; clear HB; have HO_306001 := n0_; have HO_311001 := n1_; have HO_320001 := n2_; have HO335 := n3_; have HO342 := n4_; have BK290 := n5_; have BK291 := n6_; have BK305 := n7_; have BK310 := n8_; have BK319 := n9_; have BK344 := n10_; have HB := n11_; clear n0_ n1_ n2_ n3_ n4_ n5_ n6_ n7_ n8_ n9_ n10_ n11_; (try clear hb); (try clear hb2); (try clear hk); (try clear hi)))
             go_meet
             case rel => exact ⟨_, ((t343 != t304)), (by first | rfl | (simp; done) | (simp [*]; done)), H', ⟨by have := HJ16.out; have := HJ73.out; first | omega | exact Nat.le_refl _⟩, ⟨by (try simp only [hl311001_73]); (with_reducible repeat (first | apply Kd.R_alloc | apply Kd.R_drewN | apply Kd.R_drew)); exact Kd.R_mono HO_306001.out (fun _ hk => ⟨hk.2.2.1, ⟨hk.2.2.2, hk.2.1⟩⟩)⟩, ⟨by (try simp only [hl311001_73]); (with_reducible repeat (first | apply Kd.R_alloc | apply Kd.R_drewN | apply Kd.R_drew)); exact Kd.R_mono HO_311001.out (fun _ hk => ⟨hk.2.2.1, ⟨hk.2.2.2, hk.2.1⟩⟩)⟩, ⟨by (try simp only [hl311001_73]); (with_reducible repeat (first | apply Kd.R_alloc | apply Kd.R_drewN | apply Kd.R_drew)); exact Kd.R_mono HO_320001.out (fun _ hk => ⟨hk.2.2.1, ⟨hk.2.2.2, hk.2.1⟩⟩)⟩, ⟨by (try simp only [hl311001_73]); (with_reducible repeat (first | apply Kd.R_alloc | apply Kd.R_drewN | apply Kd.R_drew)); exact Kd.R_mono HO342.out (fun _ hk => ⟨hk.2.1, ⟨hk.2.2.1, hk.2.2.2⟩⟩)⟩, ⟨by (try simp only [hl311001_73]); (with_reducible repeat (first | refine blk_drewN ?_ _ | refine blk_drew ?_ | refine blk_alloc ?_ _)); exact BK290.out⟩, ⟨by (try simp only [hl311001_73]); (with_reducible repeat (first | refine blk_drewN ?_ _ | refine blk_drew ?_ | refine blk_alloc ?_ _)); exact BK291.out⟩, ⟨by (try simp only [hl311001_73]); (with_reducible repeat (first | refine blk_drewN ?_ _ | refine blk_drew ?_ | refine blk_alloc ?_ _)); exact BK305.out⟩, ⟨by (try simp only [hl311001_73]); (with_reducible repeat (first | refine blk_drewN ?_ _ | refine blk_drew ?_ | refine blk_alloc ?_ _)); exact BK310.out⟩, ⟨by (try simp only [hl311001_73]); (with_reducible repeat (first | refine blk_drewN ?_ _ | refine blk_drew ?_ | refine blk_alloc ?_ _)); exact BK319.out⟩, ⟨by (try simp only [hl311001_73]); (with_reducible repeat (first | refine blk_drewN ?_ _ | refine blk_drew ?_ | refine blk_alloc ?_ _)); exact BK344.out⟩, ⟨by repeat (first | (with_reducible first | exact HB.out | apply below_alloc | apply pw_below_drewN | apply below_drew1 | refine below_set ?_ (Aside0.out (by assumption))) | exact HB.out)⟩⟩
            ·
             replace c136 := Bool.eq_false_iff.mpr c136
             subst c136
             have H1 : (laws_FnExactAddClue.j2 kj73 t329 true t314 t330) = some r := by rw [if_neg (show ¬ (false = true) by decide)] at H; exact H
             clear H
             have H := H1
             clear H1
             have H' := Aside0.mk H
             clear H
             have hnb149 := NB344_290.out
             have hnc149 := NB290_344.out
             have hnb150 := NB344_291.out
             have hnc150 := NB291_344.out
             have hnb151 := NB344_305.out
             have hnc151 := NB305_344.out
             have hnb152 := NB344_310.out
             have hnc152 := NB310_344.out
             have hnb153 := NB344_319.out
             have hnc153 := NB319_344.out
             have hcz154_0 : w131.cell? ⟨gb344, 0, none⟩ = some (.int .i64 0) := (blk_cell BK344.out 0).trans rfl
             have hcz154_1 : w131.cell? ⟨gb344, 1, none⟩ = some (.slice none 0 0) := (blk_cell BK344.out 1).trans rfl
             have hfz154_0 := blk_frozen BK344.out 0
             have hfz154_1 := blk_frozen BK344.out 1
             have hnb155 := NB305_290.out
             have hnc155 := NB290_305.out
             have hnb156 := NB305_291.out
             have hnc156 := NB291_305.out
             have hnb157 := NB305_310.out
             have hnc157 := NB310_305.out
             have hnb158 := NB305_319.out
             have hnc158 := NB319_305.out
             have hcz159_0 : w131.cell? ⟨gb305, 0, none⟩ = some (.int .i64 t300) := (blk_cell BK305.out 0).trans rfl
             have hcz159_1 : w131.cell? ⟨gb305, 1, none⟩ = some (.slice Ao26 t301.length co26) := (blk_cell BK305.out 1).trans rfl
             have hfz159_0 := blk_frozen BK305.out 0
             have hfz159_1 := blk_frozen BK305.out 1
             go_wp2_with (first | ((with_reducible refine gate_callee (f := 21) rfl ?_); refine goesL_ (some 89) rfl rfl Try.func21 (by kernel_rfl) rfl #[.agg #[.int .i64 t339, .slice Ao133 t340.length co133], .agg #[.int .i64 t300, .slice Ao26 t301.length co26]] rfl (by (try simp only [List.map_toArray, List.map_cons, List.map_nil]); first | done | rfl | (simp only [List.length_drop, List.length_take]; rfl)) ?_; (with_reducible refine (laws_eqPuzzle.calls kj73 t339 _ _ t340 t300 _ _ t301 false _ ?side1 ?side2 ?side3 ?side4 A135.out).mono ?_); (case side1 => refine (Kd.R_reads' (e := 25) (base := w.heap.size) (ok := fun k_ => (some k_ ≠ (v334 : Value).ownBlock ∧ (some k_ ≠ (.slice Ao26 t301.length co26 : Value).ownBlock ∧ (some k_ ≠ (.slice Ao37 t327.length co37 : Value).ownBlock ∧ some k_ ≠ (.slice Ao45 t315.length co45 : Value).ownBlock)))) (n := t340.length) (c := co133) ?_).2.2; exact (by (with_reducible repeat (first | apply Kd.R_alloc | apply Kd.R_drewN | apply Kd.R_drew)); exact (Kd.R_mono (Kd.R_far (p := ⟨gb344, 1, none⟩) (Kd.R_far (p := ⟨gb344, 0, none⟩) (Kd.R_types HO342.out BK344.out (by decide)) (fun _ hk => hk.2) (.int .i64 t339)) (fun _ hk => hk.2) (.slice Ao133 t340.length co133)) (fun _ h_ => h_.1)))); (case side2 => exact (Kd.R_reads' HO342.out).2.1); (case side3 => refine (Kd.R_reads' (e := 25) (base := w.heap.size) (ok := fun k_ => (some k_ ≠ (v334 : Value).ownBlock ∧ (some k_ ≠ (.slice Ao133 t340.length co133 : Value).ownBlock ∧ (some k_ ≠ (.slice Ao37 t327.length co37 : Value).ownBlock ∧ some k_ ≠ (.slice Ao45 t315.length co45 : Value).ownBlock)))) (n := t301.length) (c := co26) ?_).2.2; exact (by (with_reducible repeat (first | apply Kd.R_alloc | apply Kd.R_drewN | apply Kd.R_drew)); exact (Kd.R_mono (Kd.R_far (p := ⟨gb344, 1, none⟩) (Kd.R_far (p := ⟨gb344, 0, none⟩) (Kd.R_types HO_306001.out BK344.out (by decide)) (fun _ hk => hk.2) (.int .i64 t339)) (fun _ hk => hk.2) (.slice Ao133 t340.length co133)) (fun _ h_ => h_.1)))); (case side4 => exact (Kd.R_reads' HO_306001.out).2.1); rintro e w160 ⟨rfl, hb⟩; refine ⟨_, rfl, ?_⟩; have n0_ := Aside0.mk (Kd.R_below (by (with_reducible repeat (first | apply Kd.R_alloc | apply Kd.R_drewN | apply Kd.R_drew)); exact (Kd.R_mono (Kd.R_far (p := ⟨gb344, 1, none⟩) (Kd.R_far (p := ⟨gb344, 0, none⟩) (Kd.R_types HO_306001.out BK344.out (by decide)) (fun _ hk => hk.2) (.int .i64 t339)) (fun _ hk => hk.2) (.slice Ao133 t340.length co133)) (fun _ h_ => h_.1))) hb); have n1_ := Aside0.mk (Kd.R_below (by (with_reducible repeat (first | apply Kd.R_alloc | apply Kd.R_drewN | apply Kd.R_drew)); exact (Kd.R_mono (Kd.R_far (p := ⟨gb344, 1, none⟩) (Kd.R_far (p := ⟨gb344, 0, none⟩) (Kd.R_types HO_311001.out BK344.out (by decide)) (fun _ hk => hk.2) (.int .i64 t339)) (fun _ hk => hk.2) (.slice Ao133 t340.length co133)) (fun _ h_ => h_.1))) hb); have n2_ := Aside0.mk (Kd.R_below (by (with_reducible repeat (first | apply Kd.R_alloc | apply Kd.R_drewN | apply Kd.R_drew)); exact (Kd.R_mono (Kd.R_far (p := ⟨gb344, 1, none⟩) (Kd.R_far (p := ⟨gb344, 0, none⟩) (Kd.R_types HO_320001.out BK344.out (by decide)) (fun _ hk => hk.2) (.int .i64 t339)) (fun _ hk => hk.2) (.slice Ao133 t340.length co133)) (fun _ h_ => h_.1))) hb); have n3_ := Aside0.mk (Kd.R_below (by (with_reducible repeat (first | apply Kd.R_alloc | apply Kd.R_drewN | apply Kd.R_drew)); exact (Kd.R_mono (Kd.R_far (p := ⟨gb344, 1, none⟩) (Kd.R_far (p := ⟨gb344, 0, none⟩) (Kd.R_types HO335.out BK344.out (by decide)) (fun _ hk => hk.2) (.int .i64 t339)) (fun _ hk => hk.2) (.slice Ao133 t340.length co133)) (fun _ h_ => h_.1))) hb); have n4_ := Aside0.mk (Kd.R_below (by (with_reducible repeat (first | apply Kd.R_alloc | apply Kd.R_drewN | apply Kd.R_drew)); exact (Kd.R_mono (Kd.R_far (p := ⟨gb344, 1, none⟩) (Kd.R_far (p := ⟨gb344, 0, none⟩) (Kd.R_types HO342.out BK344.out (by decide)) (fun _ hk => hk.2) (.int .i64 t339)) (fun _ hk => hk.2) (.slice Ao133 t340.length co133)) (fun _ h_ => h_.1))) hb); have n5_ := Aside0.mk (blk_below (g := gb290) (o := .cells #[.int .i64 a0_0, .slice A0_1 l0_1.length c0_1] 34 (0, 0)) (by (with_reducible repeat (first | refine blk_drewN ?_ _ | refine blk_drew ?_ | refine blk_alloc ?_ _)); refine blk_far ?_ NB290_344.out _; (with_reducible repeat (first | refine blk_drewN ?_ _ | refine blk_drew ?_ | refine blk_alloc ?_ _)); refine blk_far ?_ NB290_344.out _; (with_reducible repeat (first | refine blk_drewN ?_ _ | refine blk_drew ?_ | refine blk_alloc ?_ _)); exact BK290.out) hb); have n6_ := Aside0.mk (blk_below (g := gb291) (o := .cells #[.int .i64 a1_0, .int .i64 a1_1, .int .i64 a1_2] 23 (0, 0)) (by (with_reducible repeat (first | refine blk_drewN ?_ _ | refine blk_drew ?_ | refine blk_alloc ?_ _)); refine blk_far ?_ NB291_344.out _; (with_reducible repeat (first | refine blk_drewN ?_ _ | refine blk_drew ?_ | refine blk_alloc ?_ _)); refine blk_far ?_ NB291_344.out _; (with_reducible repeat (first | refine blk_drewN ?_ _ | refine blk_drew ?_ | refine blk_alloc ?_ _)); exact BK291.out) hb); have n7_ := Aside0.mk (blk_below (g := gb305) (o := .cells #[.int .i64 t300, .slice Ao26 t301.length co26] 39 (0, 0)) (by (with_reducible repeat (first | refine blk_drewN ?_ _ | refine blk_drew ?_ | refine blk_alloc ?_ _)); refine blk_far ?_ NB305_344.out _; (with_reducible repeat (first | refine blk_drewN ?_ _ | refine blk_drew ?_ | refine blk_alloc ?_ _)); refine blk_far ?_ NB305_344.out _; (with_reducible repeat (first | refine blk_drewN ?_ _ | refine blk_drew ?_ | refine blk_alloc ?_ _)); exact BK305.out) hb); have n8_ := Aside0.mk (blk_below (g := gb310) (o := .cells #[.int .i64 t306, .slice Ao37 t327.length co37] 39 (0, 0)) (by (with_reducible repeat (first | refine blk_drewN ?_ _ | refine blk_drew ?_ | refine blk_alloc ?_ _)); refine blk_far ?_ NB310_344.out _; (with_reducible repeat (first | refine blk_drewN ?_ _ | refine blk_drew ?_ | refine blk_alloc ?_ _)); refine blk_far ?_ NB310_344.out _; (with_reducible repeat (first | refine blk_drewN ?_ _ | refine blk_drew ?_ | refine blk_alloc ?_ _)); exact BK310.out) hb); have n9_ := Aside0.mk (blk_below (g := gb319) (o := .cells #[.int .i64 t314, .slice Ao45 t315.length co45] 39 (0, 0)) (by (with_reducible repeat (first | refine blk_drewN ?_ _ | refine blk_drew ?_ | refine blk_alloc ?_ _)); refine blk_far ?_ NB319_344.out _; (with_reducible repeat (first | refine blk_drewN ?_ _ | refine blk_drew ?_ | refine blk_alloc ?_ _)); refine blk_far ?_ NB319_344.out _; (with_reducible repeat (first | refine blk_drewN ?_ _ | refine blk_drew ?_ | refine blk_alloc ?_ _)); exact BK319.out) hb); have n10_ := Aside0.mk (blk_below (g := gb344) (o := .cells #[.int .i64 t339, .slice Ao133 t340.length co133] 39 (0, 0)) (by (with_reducible repeat (first | refine blk_drewN ?_ _ | refine blk_drew ?_ | refine blk_alloc ?_ _)); refine blk_put (cs := #[.int .i64 t339, .slice none 0 0]) ?_ 1 _ rfl; (with_reducible repeat (first | refine blk_drewN ?_ _ | refine blk_drew ?_ | refine blk_alloc ?_ _)); refine blk_put (cs := #[.int .i64 0, .slice none 0 0]) ?_ 0 _ rfl; (with_reducible repeat (first | refine blk_drewN ?_ _ | refine blk_drew ?_ | refine blk_alloc ?_ _)); exact BK344.out) hb); have n11_ := Aside0.mk (below_step (by repeat (first | (with_reducible first | exact HB.out | apply below_alloc | apply pw_below_drewN | apply below_drew1 | refine below_set ?_ (Aside0.out (by assumption))) | exact HB.out)) hb); clear HO_306001; clear HO_311001; clear HO_320001; clear HO335; clear HO342; clear BK290; clear BK291; clear BK305; clear BK310; clear BK319; clear BK344; clear HB; have HO_306001 := n0_; have HO_311001 := n1_; have HO_320001 := n2_; have HO335 := n3_; have HO342 := n4_; have BK290 := n5_; have BK291 := n6_; have BK305 := n7_; have BK310 := n8_; have BK319 := n9_; have BK344 := n10_; have HB := n11_; clear n0_ n1_ n2_ n3_ n4_ n5_ n6_ n7_ n8_ n9_ n10_ n11_; (try clear hb); (try clear hb2); (try clear hk); (try clear hi)))
             go_meet
             case rel => exact ⟨_, (true), (by first | rfl | (simp; done) | (simp [*]; done)), H', ⟨by have := HJ16.out; have := HJ73.out; first | omega | exact Nat.le_refl _⟩, ⟨by (try simp only [hl311001_73]); (with_reducible repeat (first | apply Kd.R_alloc | apply Kd.R_drewN | apply Kd.R_drew)); exact Kd.R_mono HO_306001.out (fun _ hk => ⟨hk.2.2.1, ⟨hk.2.2.2, hk.2.1⟩⟩)⟩, ⟨by (try simp only [hl311001_73]); (with_reducible repeat (first | apply Kd.R_alloc | apply Kd.R_drewN | apply Kd.R_drew)); exact Kd.R_mono HO_311001.out (fun _ hk => ⟨hk.2.2.1, ⟨hk.2.2.2, hk.2.1⟩⟩)⟩, ⟨by (try simp only [hl311001_73]); (with_reducible repeat (first | apply Kd.R_alloc | apply Kd.R_drewN | apply Kd.R_drew)); exact Kd.R_mono HO_320001.out (fun _ hk => ⟨hk.2.2.1, ⟨hk.2.2.2, hk.2.1⟩⟩)⟩, ⟨by (try simp only [hl311001_73]); (with_reducible repeat (first | apply Kd.R_alloc | apply Kd.R_drewN | apply Kd.R_drew)); exact Kd.R_mono HO342.out (fun _ hk => ⟨hk.2.1, ⟨hk.2.2.1, hk.2.2.2⟩⟩)⟩, ⟨by (try simp only [hl311001_73]); (with_reducible repeat (first | refine blk_drewN ?_ _ | refine blk_drew ?_ | refine blk_alloc ?_ _)); exact BK290.out⟩, ⟨by (try simp only [hl311001_73]); (with_reducible repeat (first | refine blk_drewN ?_ _ | refine blk_drew ?_ | refine blk_alloc ?_ _)); exact BK291.out⟩, ⟨by (try simp only [hl311001_73]); (with_reducible repeat (first | refine blk_drewN ?_ _ | refine blk_drew ?_ | refine blk_alloc ?_ _)); exact BK305.out⟩, ⟨by (try simp only [hl311001_73]); (with_reducible repeat (first | refine blk_drewN ?_ _ | refine blk_drew ?_ | refine blk_alloc ?_ _)); exact BK310.out⟩, ⟨by (try simp only [hl311001_73]); (with_reducible repeat (first | refine blk_drewN ?_ _ | refine blk_drew ?_ | refine blk_alloc ?_ _)); exact BK319.out⟩, ⟨by (try simp only [hl311001_73]); (with_reducible repeat (first | refine blk_drewN ?_ _ | refine blk_drew ?_ | refine blk_alloc ?_ _)); exact BK344.out⟩, ⟨by repeat (first | (with_reducible first | exact HB.out | apply below_alloc | apply pw_below_drewN | apply below_drew1 | refine below_set ?_ (Aside0.out (by assumption))) | exact HB.out)⟩⟩
           case rest =>
            clear HC116
            try clear c1
            try clear c2
            try clear p2
            try clear c3
            try clear c11
            try clear c13
            try clear c14
            try clear c15
            try clear c19
            try clear c21
            try clear c31
            try clear c136
            try clear c137
            try clear c138
            try clear c139
            try clear c140
            try clear c141
            try clear c143
            try clear c144
            try clear c145
            try clear c146
            try clear c149
            try clear c150
            try clear c151
            try clear c152
            try clear c153
            try clear c155
            try clear c156
            try clear c157
            try clear c158
            try clear hcz142_0
            try clear hcz142_1
            try clear hcz147_0
            try clear hcz147_1
            try clear hcz154_0
            try clear hcz154_1
            try clear hcz159_0
            try clear hcz159_1
            try clear hfz142_0
            try clear hfz142_1
            try clear hfz147_0
            try clear hfz147_1
            try clear hfz154_0
            try clear hfz154_1
            try clear hfz159_0
            try clear hfz159_1
            obtain ⟨kq, x95_115, rfl, HA, HJ115, HO_306001, HO_311001, HO_320001, HO_345001, BK290, BK291, BK305, BK310, BK319, BK344, HB⟩ := hcut
            have hl320001_115 := (Kd.R_reads' HO_320001.out).1
            rw [hl320001_115] at HO_320001
            (try simp only [hl320001_115])
            (try simp only [hl320001_115] at BK290)
            (try simp only [hl320001_115] at BK291)
            (try simp only [hl320001_115] at BK305)
            (try simp only [hl320001_115] at BK310)
            (try simp only [hl320001_115] at BK319)
            (try simp only [hl320001_115] at BK344)
            (try simp only [hl320001_115] at HO_306001)
            (try simp only [hl320001_115] at HO_311001)
            (try simp only [hl320001_115] at HO_345001)
            cases kq with
            | zero => exact absurd HA.out (by simp [laws_FnExactAddClue.j2])
            | succ kj115 =>
             have H := HA.out
             clear HA
             simp only [laws_FnExactAddClue.j2] at H
             by_cases c161 : x95_115 = true
             ·
              subst c161
              have H1 : (none) = some r := by rw [if_pos rfl] at H; exact H
              clear H
              have H := H1
              clear H1
              exact absurd H (by simp)
             ·
              replace c161 := Bool.eq_false_iff.mpr c161
              subst c161
              have H1 : ((laws_heldPuzzle.f kj115 t314 t330 1).bind fun t346 => (if t346 < 0 then (none) else (if t346 = t329 then (some true) else (none)))) = some r := by rw [if_neg (show ¬ (false = true) by decide)] at H; exact H
              clear H
              have H := H1
              clear H1
              replace H := Option.bind_eq_some_iff.mp H
              obtain ⟨t346, A1620, H⟩ := H
              replace H : (if t346 < 0 then (none) else (if t346 = t329 then (some true) else (none))) = some r := H
              have A162 := Aside0.mk A1620
              clear A1620
              by_cases c163 : t346 < 0
              ·
               rw [if_pos c163] at H
               exact absurd H (by simp)
              ·
               rw [if_neg c163] at H
               have c163b0 : decide (t346 < 0) = false := decide_eq_false c163
               clear c163
               by_cases c164 : t346 = t329
               ·
                rw [if_pos c164] at H
                have c164b0 : (t346 == t329) = true := beq_iff_eq.mpr c164
                have c164b1 : (t346 != t329) = false := bne_eq_false_iff_eq.mpr c164
                clear c164
                obtain rfl := Option.some.inj H
                have hnb165 := NB319_290.out
                have hnc165 := NB290_319.out
                have hnb166 := NB319_291.out
                have hnc166 := NB291_319.out
                have hnb167 := NB319_305.out
                have hnc167 := NB305_319.out
                have hnb168 := NB319_310.out
                have hnc168 := NB310_319.out
                have hnb169 := NB319_344.out
                have hnc169 := NB344_319.out
                have hcz170_0 : wc.cell? ⟨gb319, 0, none⟩ = some (.int .i64 t314) := (blk_cell BK319.out 0).trans rfl
                have hcz170_1 : wc.cell? ⟨gb319, 1, none⟩ = some (.slice Ao45 t330.length co45) := (blk_cell BK319.out 1).trans rfl
                have hfz170_0 := blk_frozen BK319.out 0
                have hfz170_1 := blk_frozen BK319.out 1
                go_wp2_with (first | ((with_reducible refine gate_callee (f := 33) rfl ?_); refine goesL_ (some 98) rfl rfl Try.func33 (by kernel_rfl) rfl #[.agg #[.int .i64 t314, .slice Ao45 t330.length co45], .int .i64 1] rfl (by (try simp only [List.map_toArray, List.map_cons, List.map_nil]); first | done | rfl | (simp only [List.length_drop, List.length_take]; rfl)) ?_; (with_reducible refine (laws_heldPuzzle.calls kj115 t314 _ _ t330 1 t346 _ ?side1 ?side2 A162.out).mono ?_); (case side1 => repeat (first | exact (Kd.R_reads' HO_320001.out).2.2 | (with_reducible refine Kd.C_alloc ?_ _) | (with_reducible refine Kd.C_drewN ?_ _) | (with_reducible refine Kd.C_drew ?_))); (case side2 => exact (Kd.R_reads' HO_320001.out).2.1); rintro e w171 ⟨rfl, hb⟩; refine ⟨_, rfl, ?_⟩; have n0_ := Aside0.mk (Kd.R_below (Kd.pR HO_306001.out) hb); have n1_ := Aside0.mk (Kd.R_below (Kd.pR HO_311001.out) hb); have n2_ := Aside0.mk (Kd.R_below (Kd.pR HO_320001.out) hb); have n3_ := Aside0.mk (Kd.R_below (Kd.pR HO_345001.out) hb); have n4_ := Aside0.mk (blk_below (pk BK290.out) hb); have n5_ := Aside0.mk (blk_below (pk BK291.out) hb); have n6_ := Aside0.mk (blk_below (pk BK305.out) hb); have n7_ := Aside0.mk (blk_below (pk BK310.out) hb); have n8_ := Aside0.mk (blk_below (pk BK319.out) hb); have n9_ := Aside0.mk (blk_below (pk BK344.out) hb); have n10_ := Aside0.mk (below_step (by repeat (first | (with_reducible first | exact HB.out | apply below_alloc | apply pw_below_drewN | apply below_drew1 | refine below_set ?_ (Aside0.out (by assumption))) | exact HB.out)) hb); clear HO_306001; clear HO_311001; clear HO_320001; clear HO_345001; clear BK290; clear BK291; clear BK305; clear BK310; clear BK319; clear BK344; clear HB; have HO_306001 := n0_; have HO_311001 := n1_; have HO_320001 := n2_; have HO_345001 := n3_; have BK290 := n4_; have BK291 := n5_; have BK305 := n6_; have BK310 := n7_; have BK319 := n8_; have BK344 := n9_; have HB := n10_; clear n0_ n1_ n2_ n3_ n4_ n5_ n6_ n7_ n8_ n9_ n10_; (try clear hb); (try clear hb2); (try clear hk); (try clear hi)))
                go_ret
                exact ⟨by first | rfl | (simp [errW_none, errW_some] <;> rfl) | (simp [*, errW_none, errW_some] <;> rfl), by repeat (first | (with_reducible first | exact HB.out | apply below_alloc | apply pw_below_drewN | apply below_drew1 | refine below_set ?_ (Aside0.out (by assumption))) | exact HB.out)⟩
               ·
                rw [if_neg c164] at H
                exact absurd H (by simp)
          ·
           rw [if_neg c112] at H
           exact absurd H (by simp)
     ·
      replace c72 := Bool.eq_false_iff.mpr c72
      subst c72
      have H1 : (none) = some r := by rw [if_neg (show ¬ (false = true) by decide)] at H; exact H
      clear H
      have H := H1
      clear H1
      exact absurd H (by simp)

end Go.Proofs.Ytglegmmpmcnpkaa.QFnExactAddClue
