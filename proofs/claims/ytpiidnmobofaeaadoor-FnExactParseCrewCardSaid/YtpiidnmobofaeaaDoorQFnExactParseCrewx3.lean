/- Contracts of functions of the given program, walked: each call returns what its Lean function says. Conditions: those that stand at each theorem. (Written by a program of this session.) -/
import Derived.Test.YtpiidnmobofaeaaDoorQFnExactParseCrewx0
import Derived.Test.YtpiidnmobofaeaaDoorQFnExactParseCrewx1
import Derived.Test.YtpiidnmobofaeaaDoorQFnExactParseCrewx2
namespace Go.Proofs.YtpiidnmobofaeaaDoor.QFnExactParseCrew
open Go.RowKit Go.Proofs.YtpiidnmobofaeaaDoorW.PrintWords Go.Proofs.YtpiidnmobofaeaaDoorW.PrintLast Go.Proofs.YtpiidnmobofaeaaDoorW.PrintMore
attribute [local go_sem] max2_int min2_int max_two min_two max_three min_three max_four min_four   -- for this text's walks alone
set_option linter.unusedVariables false
set_option linter.unusedSimpArgs false

/-! ### spec_loParse: function 104 -/
mutual
def spec_loParse.j0 : Nat → List ByteArray → Bool → Option (List Int × List Bool × Int × Bool)
  | 0, _, _ => none
  | k + 1, x4, x18 => if x18 = true then (some (([] : List Int), ([] : List Bool), 0, false)) else (if 0 < (x4.length : Int) then ((spec_l1Read.f k (rdOf ByteArray.empty x4 0)).bind fun t127 => (if 1 < (x4.length : Int) then ((spec_l1Split.f k (rdOf ByteArray.empty x4 1) 44).bind fun t130 => (spec_loParse.l0 k t130 (t130.length : Int) 0 ([] : List Int) ([] : List Bool) t127)) else (none))) else (none))
def spec_loParse.l0 : Nat → List ByteArray → Int → Int → List Int → List Bool → Int → Option (List Int × List Bool × Int × Bool)
  | 0, _, _, _, _, _, _ => none
  | k + 1, x28, x29, x30, x129000, x129001, x129002 => if x30 < x29 then (if 0 ≤ x30 then (if x30 < (x28.length : Int) then (if ((rdOf ByteArray.empty x28 x30).size : Int) > 0 then (if 0 ≤ (wrap64 (((rdOf ByteArray.empty x28 x30).size : Int) - 1)) then (if (wrap64 (((rdOf ByteArray.empty x28 x30).size : Int) - 1)) < ((rdOf ByteArray.empty x28 x30).size : Int) then (if (bt (rdOf ByteArray.empty x28 x30) (wrap64 (((rdOf ByteArray.empty x28 x30).size : Int) - 1))) = 114 then (if (wrap64 (((rdOf ByteArray.empty x28 x30).size : Int) - 1)) ≤ ((rdOf ByteArray.empty x28 x30).size : Int) then ((spec_l1Read.f k ((rdOf ByteArray.empty x28 x30).extract 0 ((wrap64 (((rdOf ByteArray.empty x28 x30).size : Int) - 1)) : Int).toNat)).bind fun t134 => (if x129000.length < 17592186044416 then (if x129001.length < 140737488355328 then (spec_loParse.l0 k x28 x29 (wrap64 (x30 + 1)) (x129000 ++ [t134]) (x129001 ++ [true]) x129002) else (none)) else (none))) else (none)) else ((spec_l1Read.f k (rdOf ByteArray.empty x28 x30)).bind fun t141 => (if x129000.length < 17592186044416 then (if x129001.length < 140737488355328 then (spec_loParse.l0 k x28 x29 (wrap64 (x30 + 1)) (x129000 ++ [t141]) (x129001 ++ [false]) x129002) else (none)) else (none)))) else (none)) else (none)) else ((spec_l1Read.f k (rdOf ByteArray.empty x28 x30)).bind fun t148 => (if x129000.length < 17592186044416 then (if x129001.length < 140737488355328 then (spec_loParse.l0 k x28 x29 (wrap64 (x30 + 1)) (x129000 ++ [t148]) (x129001 ++ [false]) x129002) else (none)) else (none)))) else (none)) else (none)) else ((spec_loGood.f k x129000 x129001 x129002).bind fun t155 => (if t155 = true then (some (x129000, x129001, x129002, true)) else (some (([] : List Int), ([] : List Bool), 0, false))))
end
def spec_loParse.f (k : Nat) (a0 : ByteArray) : Option (List Int × List Bool × Int × Bool) := (spec_l1Split.f k a0 61).bind fun t123 => (if (a0.size : Int) > 60 then (spec_loParse.j0 k t123 true) else (spec_loParse.j0 k t123 ((t123.length : Int) != 2)))
theorem spec_loParse.mono_l : ∀ k, (∀ y0 y1, LeO (spec_loParse.j0 k y0 y1) (spec_loParse.j0 (k + 1) y0 y1)) ∧ (∀ y0 y1 y2 y3 y4 y5, LeO (spec_loParse.l0 k y0 y1 y2 y3 y4 y5) (spec_loParse.l0 (k + 1) y0 y1 y2 y3 y4 y5))
  | 0 => ⟨fun _ _ r h => by simp [spec_loParse.j0] at h, fun _ _ _ _ _ _ r h => by simp [spec_loParse.l0] at h⟩
  | k + 1 => by
    obtain ⟨ih0, ih1⟩ := spec_loParse.mono_l k
    refine ⟨?_, ?_⟩
    · intro y0 y1
      unfold spec_loParse.j0
      repeat' first
      | (with_reducible exact ih0 _ _)
      | (with_reducible exact ih1 _ _ _ _ _ _)
      | (with_reducible exact spec_l1Read.mono _ _)
      | (with_reducible exact spec_l1Split.mono _ _ _)
      | (with_reducible exact spec_loGood.mono _ _ _ _)
      | (with_reducible exact LeO.refl _)
      | (with_reducible exact LeO.none _)
      | (with_reducible refine LeO.ite ?_ ?_)
      | (with_reducible refine LeO.bind ?_ (fun _ => ?_))
      | exact ih0 _ _
      | exact ih1 _ _ _ _ _ _
      | exact spec_l1Read.mono _ _
      | exact spec_l1Split.mono _ _ _
      | exact spec_loGood.mono _ _ _ _
      | exact LeO.none _
      | refine LeO.ite ?_ ?_
      | refine LeO.bind ?_ (fun _ => ?_)
    · intro y0 y1 y2 y3 y4 y5
      unfold spec_loParse.l0
      repeat' first
      | (with_reducible exact ih0 _ _)
      | (with_reducible exact ih1 _ _ _ _ _ _)
      | (with_reducible exact spec_l1Read.mono _ _)
      | (with_reducible exact spec_l1Split.mono _ _ _)
      | (with_reducible exact spec_loGood.mono _ _ _ _)
      | (with_reducible exact LeO.refl _)
      | (with_reducible exact LeO.none _)
      | (with_reducible refine LeO.ite ?_ ?_)
      | (with_reducible refine LeO.bind ?_ (fun _ => ?_))
      | exact ih0 _ _
      | exact ih1 _ _ _ _ _ _
      | exact spec_l1Read.mono _ _
      | exact spec_l1Split.mono _ _ _
      | exact spec_loGood.mono _ _ _ _
      | exact LeO.none _
      | refine LeO.ite ?_ ?_
      | refine LeO.bind ?_ (fun _ => ?_)
theorem spec_loParse.mono : ∀ a0 k, LeO (spec_loParse.f k a0) (spec_loParse.f (k + 1) a0) := by
  intro a0 k
  obtain ⟨ih0, ih1⟩ := spec_loParse.mono_l k
  unfold spec_loParse.f
  repeat' first
      | (with_reducible exact ih0 _ _)
      | (with_reducible exact ih1 _ _ _ _ _ _)
      | (with_reducible exact spec_l1Read.mono _ _)
      | (with_reducible exact spec_l1Split.mono _ _ _)
      | (with_reducible exact spec_loGood.mono _ _ _ _)
      | (with_reducible exact LeO.refl _)
      | (with_reducible exact LeO.none _)
      | (with_reducible refine LeO.ite ?_ ?_)
      | (with_reducible refine LeO.bind ?_ (fun _ => ?_))
      | exact ih0 _ _
      | exact ih1 _ _ _ _ _ _
      | exact spec_l1Read.mono _ _
      | exact spec_l1Split.mono _ _ _
      | exact spec_loGood.mono _ _ _ _
      | exact LeO.none _
      | refine LeO.ite ?_ ?_
      | refine LeO.bind ?_ (fun _ => ?_)
def spec_loParse.T11 : Bool × List (List Nat × List Nat) := (true, [([], []), ([0], [0]), ([], []), ([2], [2]), ([3], [3]), ([1, 4, 3], [1, 4]), ([0, 1, 2, 3, 4, 5], []), ([6, 5, 5, 0, 1, 2, 3, 4, 5], [5, 6])])
def spec_loParse.B11 : List Nat := [0, 1, 0, 4, 12, 31, 63, 127]
theorem spec_loParse.tab11 : rtab .any (opsOf Tryd.f104 11) = spec_loParse.T11 := by kernel_rfl
theorem spec_loParse.bits11 : waitsOk spec_loParse.T11.2 spec_loParse.B11 = true := by kernel_rfl
set_option maxHeartbeats 8000000 in
set_option maxRecDepth 100000 in
theorem spec_loParse.calls (k : Nat) (a0 : ByteArray) (r1 : List Int) (r2 : List Bool) (r3 : Int) (r4 : Bool) (w : World) (h : spec_loParse.f k a0 = some (r1, r2, r3, r4)) :
  Calls Tryd.prog 104 #[.string a0] w fun e w' => ∃ v0_ v1_ : Value, e = .returned (.tuple #[.agg #[v0_, v1_, .int .i64 r3], .bool r4]) ∧ Kd.R (Kd.int .i64) 3 w' w.heap.size (fun _ => True) v0_ r1 ∧ Kd.R Kd.bool 4 w' w.heap.size (fun _ => True) v1_ r2 ∧ Below w.heap.size w w' := by
 have hu65 := Tryd.underlying65
 have HB := Aside0.mk (Below.refl w.heap.size w)
 have H : ((spec_l1Split.f k a0 61).bind fun t123 => (if (a0.size : Int) > 60 then (spec_loParse.j0 k t123 true) else (spec_loParse.j0 k t123 ((t123.length : Int) != 2)))) = some (r1, r2, r3, r4) := h
 clear h
 replace H := Option.bind_eq_some_iff.mp H
 obtain ⟨t123, A20, H⟩ := H
 replace H : (if (a0.size : Int) > 60 then (spec_loParse.j0 k t123 true) else (spec_loParse.j0 k t123 ((t123.length : Int) != 2))) = some (r1, r2, r3, r4) := H
 have A2 := Aside0.mk A20
 clear A20
 have HC3 := Aside0.mk H
 clear H
 go_enter Tryd.func104, Tryd.ntmps104
 go_upto_region 2 with (first | ((with_reducible refine gate_dst (N := 2) rfl ?_); (try (refine gate_guard (by rfl) ?_; dsimp only)); refine box_event ?hg (N := 2) ?hd (cs := #[.slice none 0 0, .slice none 0 0, .int .i64 0]) (t := 65) ?hr ?_; (case hd => rfl); (case hg => rfl); (case hr => first | (go_simp; done) | (go_simp; rfl)); intro gb122 hg w4 hbox hb; have n0_ := Aside0.mk (below_step (by repeat (first | (with_reducible first | exact HB.out | apply below_alloc | apply pw_below_drewN | apply below_drew1) | exact HB.out)) hb); have n1_ := Aside0.mk (hbox); have n2_ := Aside0.mk ((by rw [hg]; exact (below_size (by repeat (first | (with_reducible first | exact HB.out | apply below_alloc | apply pw_below_drewN | apply below_drew1) | exact HB.out))) : w.heap.size ≤ gb122)); have n3_ := n2_; clear HB; have HB := n0_; have BK122 := n1_; have GW122 := n2_; have GE122 := n3_; clear n0_ n1_ n2_ n3_; clear hb hbox hg) | ((with_reducible refine gate_callee (f := 130) rfl ?_); refine goesL_ (some 10) rfl rfl Tryd.func130 (by kernel_rfl) rfl #[.string a0, .int .u8 61] rfl (by (try simp only [List.map_toArray, List.map_cons, List.map_nil]); first | done | rfl | (simp only [List.length_drop, List.length_take]; rfl)) ?_; (with_reducible refine (spec_l1Split.calls k a0 61 t123 _ A2.out).mono ?_); rintro e w5 ⟨v124, rfl, ho0, hb⟩; refine ⟨_, rfl, ?_⟩; have n0_ := Aside0.mk (Kd.R_lower ho0 (below_size (by repeat (first | (with_reducible first | exact HB.out | apply below_alloc | apply pw_below_drewN | apply below_drew1 | refine below_set ?_ GE122.out) | exact HB.out)))); have n1_ := Aside0.mk (blk_below (pk BK122.out) hb); have n2_ := Aside0.mk (below_step (by repeat (first | (with_reducible first | exact HB.out | apply below_alloc | apply pw_below_drewN | apply below_drew1 | refine below_set ?_ GE122.out) | exact HB.out)) hb); clear BK122; clear HB; have HO125 := n0_; have BK122 := n1_; have HB := n2_; clear n0_ n1_ n2_; (try clear hb); (try clear hb2); (try clear hk); (try clear hi); (try clear ho0)))
 (try simp only [Act.put, List.setIfInBounds_toArray, List.set_cons_zero, List.set_cons_succ])
 go_cut [18] (fun v18 wc => ∃ (kq : Nat) (x18_2 : Bool), v18 = .bool x18_2 ∧ Aside0 (spec_loParse.j0 kq t123 x18_2 = some (r1, r2, r3, r4)) ∧ Aside0 (kq ≤ k) ∧ Aside0 (Kd.R Kd.string 9 wc w.heap.size (fun _ => True) v124 t123) ∧ Aside0 (wc.heap[gb122]? = some (.cells #[(.slice none 0 0), (.slice none 0 0), .int .i64 0] 65 (0, 0))) ∧ Aside0 (Below w.heap.size w wc))
 case first =>
  have H := HC3.out
  clear HC3
  by_cases c6 : (a0.size : Int) > 60
  ·
   rw [if_pos c6] at H
   have c6b0 : decide (60 < (a0.size : Int)) = true := decide_eq_true c6
   have c6b1 : decide (60 < a0.size) = true := decide_eq_true (by omega)
   clear c6
   (first | rw [c6b0] | (simp only [i64_w, i32_w]; rw [c6b0]) | skip)
   have H' := Aside0.mk H
   clear H
   go_wp2
   go_meet
   case rel => exact ⟨_, (true), (by first | rfl | (simp; done) | (simp [*]; done)), H', ⟨by first | omega | exact Nat.le_refl _⟩, ⟨by (with_reducible repeat (first | apply Kd.R_alloc | apply Kd.R_drewN | apply Kd.R_drew)); exact HO125.out⟩, ⟨by (with_reducible repeat (first | refine blk_drewN ?_ _ | refine blk_drew ?_ | refine blk_alloc ?_ _)); exact BK122.out⟩, ⟨by repeat (first | (with_reducible first | exact HB.out | apply below_alloc | apply pw_below_drewN | apply below_drew1 | refine below_set ?_ GE122.out) | exact HB.out)⟩⟩
  ·
   rw [if_neg c6] at H
   have c6b0 : decide (60 < (a0.size : Int)) = false := decide_eq_false c6
   have c6b1 : decide (60 < a0.size) = false := decide_eq_false (by omega)
   clear c6
   (first | rw [c6b0] | (simp only [i64_w, i32_w]; rw [c6b0]) | skip)
   have H' := Aside0.mk H
   clear H
   obtain ⟨Ao7, co7, eo7⟩ := Kd.R_slice HO125.out
   subst eo7
   go_wp2
   go_meet
   case rel => exact ⟨_, (((t123.length : Int) != 2)), (by first | rfl | (simp; done) | (simp [*]; done)), H', ⟨by first | omega | exact Nat.le_refl _⟩, ⟨by (with_reducible repeat (first | apply Kd.R_alloc | apply Kd.R_drewN | apply Kd.R_drew)); exact HO125.out⟩, ⟨by (with_reducible repeat (first | refine blk_drewN ?_ _ | refine blk_drew ?_ | refine blk_alloc ?_ _)); exact BK122.out⟩, ⟨by repeat (first | (with_reducible first | exact HB.out | apply below_alloc | apply pw_below_drewN | apply below_drew1 | refine below_set ?_ GE122.out) | exact HB.out)⟩⟩
 case rest =>
  clear HC3
  try clear c1
  try clear p2
  try clear c6
  try clear c6b0
  try clear c6b1
  obtain ⟨kq, x18_2, rfl, HA, HJ2, HO_4, BK122, HB⟩ := hcut
  cases kq with
  | zero => exact absurd HA.out (by simp [spec_loParse.j0])
  | succ kj2 =>
   have H := HA.out
   clear HA
   simp only [spec_loParse.j0] at H
   by_cases c8 : x18_2 = true
   ·
    subst c8
    have H1 : (some (([] : List Int), ([] : List Bool), 0, false)) = some (r1, r2, r3, r4) := by rw [if_pos rfl] at H; exact H
    clear H
    have H := H1
    clear H1
    simp only [Option.some.injEq, Prod.mk.injEq] at H
    obtain ⟨rfl, rfl, rfl, rfl⟩ := H
    have hcz9_0 : wc.cell? ⟨gb122, 0, none⟩ = some (.slice none 0 0) := (blk_cell BK122.out 0).trans rfl
    have hcz9_1 : wc.cell? ⟨gb122, 1, none⟩ = some (.slice none 0 0) := (blk_cell BK122.out 1).trans rfl
    have hcz9_2 : wc.cell? ⟨gb122, 2, none⟩ = some (.int .i64 0) := (blk_cell BK122.out 2).trans rfl
    have hfz9_0 := blk_frozen BK122.out 0
    have hfz9_1 := blk_frozen BK122.out 1
    have hfz9_2 := blk_frozen BK122.out 2
    go_wp2
    refine bodyPost_ret (results_ct rfl _ _ gb122 65 #[.slice none 0 0, .slice none 0 0, .int .i64 0] (0, 0) _ rfl (by (with_reducible repeat (first | refine blk_drewN ?_ _ | refine blk_drew ?_ | refine blk_alloc ?_ _)); refine blk_put (cs := #[.slice none 0 0, .slice none 0 0, .int .i64 0]) ?_ 2 _ rfl; (with_reducible repeat (first | refine blk_drewN ?_ _ | refine blk_drew ?_ | refine blk_alloc ?_ _)); refine blk_put (cs := #[.slice none 0 0, .slice none 0 0, .int .i64 0]) ?_ 1 _ rfl; (with_reducible repeat (first | refine blk_drewN ?_ _ | refine blk_drew ?_ | refine blk_alloc ?_ _)); refine blk_put (cs := #[.slice none 0 0, .slice none 0 0, .int .i64 0]) ?_ 0 _ rfl; (with_reducible repeat (first | refine blk_drewN ?_ _ | refine blk_drew ?_ | refine blk_alloc ?_ _)); exact BK122.out) Tryd.underlying65 rfl (by kernel_rfl)) rfl ?_
    exact ⟨_, _, by first | rfl | (simp [errW_none, errW_some] <;> rfl) | (simp [*, errW_none, errW_some] <;> rfl), by first | exact Kd.R_nil _ _ _ _ _ | exact Kd.N_nil _ _ _ _ _ | exact Kd.V_nil _ _ _ _ _ | exact Kd.Q_nil _ _ _ _ _ | exact Kd.S_nil _ _ _ _ _, by first | exact Kd.R_nil _ _ _ _ _ | exact Kd.N_nil _ _ _ _ _ | exact Kd.V_nil _ _ _ _ _ | exact Kd.Q_nil _ _ _ _ _ | exact Kd.S_nil _ _ _ _ _, by repeat (first | (with_reducible first | exact HB.out | apply below_alloc | apply pw_below_drewN | apply below_drew1 | refine below_set ?_ GE122.out) | exact HB.out)⟩
   ·
    replace c8 := Bool.eq_false_iff.mpr c8
    subst c8
    have H1 : (if 0 < (t123.length : Int) then ((spec_l1Read.f kj2 (rdOf ByteArray.empty t123 0)).bind fun t127 => (if 1 < (t123.length : Int) then ((spec_l1Split.f kj2 (rdOf ByteArray.empty t123 1) 44).bind fun t130 => (spec_loParse.l0 kj2 t130 (t130.length : Int) 0 ([] : List Int) ([] : List Bool) t127)) else (none))) else (none)) = some (r1, r2, r3, r4) := by rw [if_neg (show ¬ (false = true) by decide)] at H; exact H
    clear H
    have H := H1
    clear H1
    by_cases c10 : 0 < (t123.length : Int)
    ·
     rw [if_pos c10] at H
     have c10b0 : decide (0 < (t123.length : Int)) = true := decide_eq_true c10
     have c10b1 : decide (0 < t123.length) = true := decide_eq_true (by omega)
     clear c10
     replace H := Option.bind_eq_some_iff.mp H
     obtain ⟨t127, A110, H⟩ := H
     replace H : (if 1 < (t123.length : Int) then ((spec_l1Split.f kj2 (rdOf ByteArray.empty t123 1) 44).bind fun t130 => (spec_loParse.l0 kj2 t130 (t130.length : Int) 0 ([] : List Int) ([] : List Bool) t127)) else (none)) = some (r1, r2, r3, r4) := H
     have A11 := Aside0.mk A110
     clear A110
     by_cases c12 : 1 < (t123.length : Int)
     ·
      rw [if_pos c12] at H
      have c12b0 : decide (1 < (t123.length : Int)) = true := decide_eq_true c12
      have c12b1 : decide (1 < t123.length) = true := decide_eq_true (by omega)
      clear c12
      replace H := Option.bind_eq_some_iff.mp H
      obtain ⟨t130, A130, H⟩ := H
      replace H : (spec_loParse.l0 kj2 t130 (t130.length : Int) 0 ([] : List Int) ([] : List Bool) t127) = some (r1, r2, r3, r4) := H
      have A13 := Aside0.mk A130
      clear A130
      have H' := Aside0.mk H
      clear H
      obtain ⟨Ao14, co14, eo14⟩ := Kd.R_slice HO_4.out
      subst eo14
      have p126 : 0 ≤ (0 : Int) := (by omega)
      have q126 : 0 < (t123.length : Int) := of_decide_eq_true (by first | (with_reducible assumption) | assumption)
      obtain ⟨ad126, e126, hx126_0⟩ := Kd.at_string (Kd.R_reads' HO_4.out).2.2 0 p126 q126
      cases e126
      have qi126 : (0 < t123.length) = True := eq_true (by omega)
      (try rw [show ((0 : Int)).toNat = 0 from rfl] at hx126_0)
      (try rw [Addr.add_zero'] at hx126_0)
      replace p126 := eq_true p126
      replace q126 := eq_true q126
      go_wp2_with (first | ((with_reducible refine gate_callee (f := 131) rfl ?_); refine goesL_ (some 23) rfl rfl Tryd.func131 (by kernel_rfl) rfl #[.string (rdOf ByteArray.empty t123 0)] rfl (by (try simp only [List.map_toArray, List.map_cons, List.map_nil]); first | done | rfl | (simp only [List.length_drop, List.length_take]; rfl)) ?_; (with_reducible refine (spec_l1Read.calls kj2 (rdOf ByteArray.empty t123 0) t127 _ A11.out).mono ?_); rintro e w' ⟨rfl, ⟨nd, rfl⟩⟩; refine ⟨_, rfl, ?_⟩; (try (rw [drewN_self wc]; generalize hq_ : World.drewN wc _ = wc; have n0_ : Aside0 (Kd.R Kd.string 9 wc w.heap.size (fun _ => True) (.slice (some ad126) t123.length co14) t123) := ⟨by rw [← hq_]; exact (Kd.pR HO_4.out)⟩; have n1_ : Aside0 (wc.heap[gb122]? = some (.cells #[.slice none 0 0, .slice none 0 0, .int .i64 0] 65 (0, 0))) := ⟨by rw [← hq_]; exact (pk BK122.out)⟩; have n2_ : Aside0 (Below w.heap.size w wc) := ⟨by rw [← hq_]; exact (by repeat (first | (with_reducible first | exact HB.out | apply below_alloc | apply pw_below_drewN | apply below_drew1 | refine below_set ?_ GE122.out) | exact HB.out))⟩; clear HO_4 BK122 HB hq_; have HO_4 := n0_; have BK122 := n1_; have HB := n2_; clear n0_ n1_ n2_; have hczq1 := (blk_cell BK122.out 0); have hfzq1 := (blk_frozen BK122.out 0); simp at hczq1; have hczq2 := (blk_cell BK122.out 1); have hfzq2 := (blk_frozen BK122.out 1); simp at hczq2; have hczq3 := (blk_cell BK122.out 2); have hfzq3 := (blk_frozen BK122.out 2); simp at hczq3))) | ((with_reducible refine gate_dst (N := 5) rfl ?_); (try (refine gate_guard (by rfl) ?_; dsimp only)); refine box_event ?hg (N := 5) ?hd (cs := #[.slice none 0 0, .slice none 0 0, .int .i64 0]) (t := 65) ?hr ?_; (case hd => rfl); (case hg => rfl); (case hr => first | (go_simp; done) | (go_simp; rfl)); intro gb128 hg w15 hbox hb; have n0_ := Aside0.mk (Kd.R_below (Kd.pR HO_4.out) hb); have n1_ := Aside0.mk (blk_below (pk BK122.out) hb); have n2_ := Aside0.mk (below_step (by repeat (first | (with_reducible first | exact HB.out | apply below_alloc | apply pw_below_drewN | apply below_drew1 | refine below_set ?_ GE122.out) | exact HB.out)) hb); have n3_ := Aside0.mk (hbox); have n4_ := Aside0.mk ((by rw [hg]; exact (below_size (by repeat (first | (with_reducible first | exact HB.out | apply below_alloc | apply pw_below_drewN | apply below_drew1 | refine below_set ?_ GE122.out) | exact HB.out))) : w.heap.size ≤ gb128)); have n5_ := n4_; have n6_ := Aside0.mk ((by rw [hg]; exact Nat.ne_of_lt (blk_lt (pk BK122.out)) : gb122 ≠ gb128)); have n7_ := Aside0.mk n6_.out.symm; clear HO_4; clear BK122; clear HB; have HO_4 := n0_; have BK122 := n1_; have HB := n2_; have BK128 := n3_; have GW128 := n4_; have GE128 := n5_; have NB122_128 := n6_; have NB128_122 := n7_; clear n0_ n1_ n2_ n3_ n4_ n5_ n6_ n7_; clear hb hbox hg; have hnb16 := NB128_122.out; have hnc16 := NB122_128.out; have hcz17_0 : w15.cell? ⟨gb128, 0, none⟩ = some (.slice none 0 0) := (blk_cell BK128.out 0).trans rfl; have hcz17_1 : w15.cell? ⟨gb128, 1, none⟩ = some (.slice none 0 0) := (blk_cell BK128.out 1).trans rfl; have hcz17_2 : w15.cell? ⟨gb128, 2, none⟩ = some (.int .i64 0) := (blk_cell BK128.out 2).trans rfl; have hfz17_0 := blk_frozen BK128.out 0; have hfz17_1 := blk_frozen BK128.out 1; have hfz17_2 := blk_frozen BK128.out 2; have p129 : 0 ≤ (1 : Int) := (by omega); have q129 : 1 < (t123.length : Int) := of_decide_eq_true (by first | (with_reducible assumption) | assumption); obtain ⟨ad129, e129, hx129_0⟩ := Kd.at_string (Kd.R_reads' HO_4.out).2.2 1 p129 q129; obtain rfl : ad126 = ad129 := (by injection e129); (try simp only [show (1 : Int).toNat = 1 from rfl, Nat.reduceMul, Nat.reduceEqDiff, Go.Addr.add, ↓reduceIte] at hx129_0); have qi129 : (1 < t123.length) = True := eq_true (by omega); (try rw [show ((1 : Int)).toNat = 1 from rfl] at hx129_0); have hn129_0 : ad126.block ≠ gb128 := Kd.own_blk (Kd.R_ne HO_4.out BK128.out (by decide)); have hn129_1 : ad126.block ≠ gb128 := Kd.own_blk (Kd.R_ne HO_4.out BK128.out (by decide)); have hn129_2 : ad126.block ≠ gb128 := Kd.own_blk (Kd.R_ne HO_4.out BK128.out (by decide)); replace hx129_0 := (cell_far (p := ⟨gb128, 0, none⟩) (by first | (rw [add_block]; exact hn129_0) | (show (Addr.add _ _).block ≠ _; rw [add_block]; exact hn129_0) | exact hn129_0) (.slice none 0 0)).trans hx129_0; replace hx129_0 := (cell_far (p := ⟨gb128, 1, none⟩) (by first | (rw [add_block]; exact hn129_1) | (show (Addr.add _ _).block ≠ _; rw [add_block]; exact hn129_1) | exact hn129_1) (.slice none 0 0)).trans hx129_0; replace hx129_0 := (cell_far (p := ⟨gb128, 2, none⟩) (by first | (rw [add_block]; exact hn129_2) | (show (Addr.add _ _).block ≠ _; rw [add_block]; exact hn129_2) | exact hn129_2) (.int .i64 t127)).trans hx129_0; clear hn129_0; clear hn129_1; clear hn129_2; replace p129 := eq_true p129; replace q129 := eq_true q129) | ((with_reducible refine gate_callee (f := 130) rfl ?_); refine goesL_ (some 28) rfl rfl Tryd.func130 (by kernel_rfl) rfl #[.string (rdOf ByteArray.empty t123 1), .int .u8 44] rfl (by (try simp only [List.map_toArray, List.map_cons, List.map_nil]); first | done | rfl | (simp only [List.length_drop, List.length_take]; rfl)) ?_; (with_reducible refine (spec_l1Split.calls kj2 (rdOf ByteArray.empty t123 1) 44 t130 _ A13.out).mono ?_); rintro e w18 ⟨v131, rfl, ho0, hb⟩; refine ⟨_, rfl, ?_⟩; have n0_ := Aside0.mk (Kd.R_elder' (by (with_reducible repeat (first | apply Kd.R_alloc | apply Kd.R_drewN | apply Kd.R_drew)); exact (Kd.R_mono (Kd.R_far (p := ⟨gb128, 2, none⟩) (Kd.R_far (p := ⟨gb128, 1, none⟩) (Kd.R_far (p := ⟨gb128, 0, none⟩) (Kd.R_types HO_4.out BK128.out (by decide)) (fun _ hk => hk.2) (.slice none 0 0)) (fun _ hk => hk.2) (.slice none 0 0)) (fun _ hk => hk.2) (.int .i64 t127)) (fun _ h_ => h_.1))) (Kd.R_base ho0) hb); have n1_ := Aside0.mk (Kd.R_lower (Kd.R_new' ho0 (Kd.R_lt (by (with_reducible repeat (first | apply Kd.R_alloc | apply Kd.R_drewN | apply Kd.R_drew)); exact (Kd.R_mono (Kd.R_far (p := ⟨gb128, 2, none⟩) (Kd.R_far (p := ⟨gb128, 1, none⟩) (Kd.R_far (p := ⟨gb128, 0, none⟩) (Kd.R_types HO_4.out BK128.out (by decide)) (fun _ hk => hk.2) (.slice none 0 0)) (fun _ hk => hk.2) (.slice none 0 0)) (fun _ hk => hk.2) (.int .i64 t127)) (fun _ h_ => h_.1))))) (below_size (by repeat (first | (with_reducible first | exact HB.out | apply below_alloc | apply pw_below_drewN | apply below_drew1 | refine below_set ?_ (Aside0.out (by assumption))) | exact HB.out)))); have n2_ := Aside0.mk (blk_below (g := gb122) (o := .cells #[.slice none 0 0, .slice none 0 0, .int .i64 0] 65 (0, 0)) (by (with_reducible repeat (first | refine blk_drewN ?_ _ | refine blk_drew ?_ | refine blk_alloc ?_ _)); refine blk_far ?_ NB122_128.out _; (with_reducible repeat (first | refine blk_drewN ?_ _ | refine blk_drew ?_ | refine blk_alloc ?_ _)); refine blk_far ?_ NB122_128.out _; (with_reducible repeat (first | refine blk_drewN ?_ _ | refine blk_drew ?_ | refine blk_alloc ?_ _)); refine blk_far ?_ NB122_128.out _; (with_reducible repeat (first | refine blk_drewN ?_ _ | refine blk_drew ?_ | refine blk_alloc ?_ _)); exact BK122.out) hb); have n3_ := Aside0.mk (blk_below (g := gb128) (o := .cells #[.slice none 0 0, .slice none 0 0, .int .i64 t127] 65 (0, 0)) (by (with_reducible repeat (first | refine blk_drewN ?_ _ | refine blk_drew ?_ | refine blk_alloc ?_ _)); refine blk_put (cs := #[.slice none 0 0, .slice none 0 0, .int .i64 0]) ?_ 2 _ rfl; (with_reducible repeat (first | refine blk_drewN ?_ _ | refine blk_drew ?_ | refine blk_alloc ?_ _)); refine blk_put (cs := #[.slice none 0 0, .slice none 0 0, .int .i64 0]) ?_ 1 _ rfl; (with_reducible repeat (first | refine blk_drewN ?_ _ | refine blk_drew ?_ | refine blk_alloc ?_ _)); refine blk_put (cs := #[.slice none 0 0, .slice none 0 0, .int .i64 0]) ?_ 0 _ rfl; (with_reducible repeat (first | refine blk_drewN ?_ _ | refine blk_drew ?_ | refine blk_alloc ?_ _)); exact BK128.out) hb); have n4_ := Aside0.mk (below_step (by repeat (first | (with_reducible first | exact HB.out | apply below_alloc | apply pw_below_drewN | apply below_drew1 | refine below_set ?_ (Aside0.out (by assumption))) | exact HB.out)) hb); clear HO_4; clear BK122; clear BK128; clear HB; have HO_4 := n0_; have HO132 := n1_; have BK122 := n2_; have BK128 := n3_; have HB := n4_; clear n0_ n1_ n2_ n3_ n4_; (try clear hb); (try clear hb2); (try clear hk); (try clear hi); (try clear ho0); obtain ⟨Ao19, co19, eo19⟩ := Kd.R_slice HO132.out; subst eo19))
      go_loopg [30] kj2 (fun kq v30 w' => ∃ (x30_2 : Int) (x129000_2 : List Int) (x129001_2 : List Bool) (u129000 : Value) (u129001 : Value), v30 = .int .i64 x30_2 ∧ Aside0 (spec_loParse.l0 kq t130 (t130.length : Int) x30_2 x129000_2 x129001_2 t127 = some (r1, r2, r3, r4)) ∧ Aside0 (kq ≤ kj2) ∧ Aside0 (Kd.R Kd.string 9 w' w.heap.size (fun _ => True) (.slice Ao19 t130.length co19) t130) ∧ Aside0 (Kd.R (Kd.int .i64) 3 w' w.heap.size (fun _ => True) u129000 x129000_2) ∧ Aside0 (Kd.R Kd.bool 4 w' w.heap.size (fun _ => True) u129001 x129001_2) ∧ Aside0 (w'.heap[gb122]? = some (.cells #[(.slice none 0 0), (.slice none 0 0), .int .i64 0] 65 (0, 0))) ∧ Aside0 (w'.heap[gb128]? = some (.cells #[u129000, u129001, .int .i64 t127] 65 (0, 0))) ∧ Aside0 (Below w.heap.size w w'))
      case atStart => exact ⟨(0), (([] : List Int)), (([] : List Bool)), (.slice none 0 0), (.slice none 0 0), (by first | rfl | (simp; done) | (simp [*]; done)), H', ⟨Nat.le_refl _⟩, ⟨by (with_reducible repeat (first | apply Kd.R_alloc | apply Kd.R_drewN | apply Kd.R_drew)); exact Kd.R_mono HO132.out (fun _ hk => trivial)⟩, ⟨by first | exact Kd.R_nil _ _ _ _ _ | exact Kd.N_nil _ _ _ _ _ | exact Kd.V_nil _ _ _ _ _ | exact Kd.Q_nil _ _ _ _ _ | exact Kd.S_nil _ _ _ _ _⟩, ⟨by first | exact Kd.R_nil _ _ _ _ _ | exact Kd.N_nil _ _ _ _ _ | exact Kd.V_nil _ _ _ _ _ | exact Kd.Q_nil _ _ _ _ _ | exact Kd.S_nil _ _ _ _ _⟩, ⟨by (with_reducible repeat (first | refine blk_drewN ?_ _ | refine blk_drew ?_ | refine blk_alloc ?_ _)); exact BK122.out⟩, ⟨by (with_reducible repeat (first | refine blk_drewN ?_ _ | refine blk_drew ?_ | refine blk_alloc ?_ _)); exact BK128.out⟩, ⟨by repeat (first | (with_reducible first | exact HB.out | apply below_alloc | apply pw_below_drewN | apply below_drew1 | refine below_set ?_ (Aside0.out (by assumption))) | exact HB.out)⟩⟩
      case round =>
       clear H'
       try clear c1
       try clear p1
       try clear q1
       try clear hx1
       try clear qi1
       try clear p2
       try clear c6
       try clear c6b0
       try clear c6b1
       try clear c8
       try clear c10
       try clear c10b0
       try clear c10b1
       try clear c12
       try clear c12b0
       try clear c12b1
       try clear p12
       try clear q12
       try clear hx12
       try clear qi12
       try clear c13
       try clear c16
       try clear hcz17_0
       try clear hcz17_1
       try clear hcz17_2
       try clear hcz9_0
       try clear hcz9_1
       try clear hcz9_2
       try clear hfz17_0
       try clear hfz17_1
       try clear hfz17_2
       try clear hfz9_0
       try clear hfz9_1
       try clear hfz9_2
       try clear hx126_0
       try clear hx129_0
       try clear p126
       try clear p129
       try clear p2
       try clear q126
       try clear q129
       obtain ⟨x30_2, x129000_2, x129001_2, u129000, u129001, rfl, HA, HK2, HO_28, HO_129000, HO_129001, BK122, BK128, HB⟩ := hrel
       cases gk with
       | zero => exact absurd HA.out (by simp [spec_loParse.l0])
       | succ k2 =>
        have H := HA.out
        clear HA
        simp only [spec_loParse.l0] at H
        by_cases c20 : x30_2 < (t130.length : Int)
        ·
         rw [if_pos c20] at H
         have c20b0 : decide (x30_2 < (t130.length : Int)) = true := decide_eq_true c20
         clear c20
         by_cases c21 : 0 ≤ x30_2
         ·
          rw [if_pos c21] at H
          have c21b0 : decide (0 ≤ x30_2) = true := decide_eq_true c21
          clear c21
          by_cases c22 : x30_2 < (t130.length : Int)
          ·
           rw [if_pos c22] at H
           have c22b0 : decide (x30_2 < (t130.length : Int)) = true := decide_eq_true c22
           clear c22
           by_cases c23 : ((rdOf ByteArray.empty t130 x30_2).size : Int) > 0
           ·
            rw [if_pos c23] at H
            have c23b0 : decide (0 < ((rdOf ByteArray.empty t130 x30_2).size : Int)) = true := decide_eq_true c23
            have c23b1 : decide (0 < (rdOf ByteArray.empty t130 x30_2).size) = true := decide_eq_true (by omega)
            clear c23
            obtain ⟨ji24, hji24⟩ : ∃ j_ : Int, (wrap64 (((rdOf ByteArray.empty t130 x30_2).size : Int) - 1)) = j_ := ⟨_, rfl⟩
            replace H : (if 0 ≤ (ji24) then (if (ji24) < ((rdOf ByteArray.empty t130 x30_2).size : Int) then (if (bt (rdOf ByteArray.empty t130 x30_2) (ji24)) = 114 then (if (ji24) ≤ ((rdOf ByteArray.empty t130 x30_2).size : Int) then ((spec_l1Read.f k2 ((rdOf ByteArray.empty t130 x30_2).extract 0 ((ji24) : Int).toNat)).bind fun t134 => (if x129000_2.length < 17592186044416 then (if x129001_2.length < 140737488355328 then (spec_loParse.l0 k2 t130 (t130.length : Int) (wrap64 (x30_2 + 1)) (x129000_2 ++ [t134]) (x129001_2 ++ [true]) t127) else (none)) else (none))) else (none)) else ((spec_l1Read.f k2 (rdOf ByteArray.empty t130 x30_2)).bind fun t141 => (if x129000_2.length < 17592186044416 then (if x129001_2.length < 140737488355328 then (spec_loParse.l0 k2 t130 (t130.length : Int) (wrap64 (x30_2 + 1)) (x129000_2 ++ [t141]) (x129001_2 ++ [false]) t127) else (none)) else (none)))) else (none)) else (none)) = some (r1, r2, r3, r4) := by first | (rw [hji24] at H; exact H) | (simp only [hji24] at H ⊢; exact H)
            have hji24w : (IntKind.i64.wrap (((rdOf ByteArray.empty t130 x30_2).size : Int) - 1)) = ji24 := (i64_w _).trans hji24
            by_cases c25 : 0 ≤ (ji24)
            ·
             rw [if_pos c25] at H
             have c25b0 : decide (0 ≤ (ji24)) = true := decide_eq_true c25
             clear c25
             by_cases c26 : (ji24) < ((rdOf ByteArray.empty t130 x30_2).size : Int)
             ·
              rw [if_pos c26] at H
              have c26b0 : decide ((ji24) < ((rdOf ByteArray.empty t130 x30_2).size : Int)) = true := decide_eq_true c26
              clear c26
              by_cases c28 : (bt (rdOf ByteArray.empty t130 x30_2) (ji24)) = 114
              ·
               rw [if_pos c28] at H
               have c28b0 : ((bt (rdOf ByteArray.empty t130 x30_2) (ji24)) == 114) = true := beq_iff_eq.mpr c28
               have c28b1 : ((bt (rdOf ByteArray.empty t130 x30_2) (ji24)) != 114) = false := bne_eq_false_iff_eq.mpr c28
               clear c28
               have c29b0 := eq_true (of_decide_eq_true (by first | (with_reducible assumption) | assumption) : 0 ≤ (ji24))
               by_cases c30 : (ji24) ≤ ((rdOf ByteArray.empty t130 x30_2).size : Int)
               ·
                rw [if_pos c30] at H
                have c30b0 := eq_true c30
                have c30b1 : decide ((ji24) ≤ ((rdOf ByteArray.empty t130 x30_2).size : Int)) = true := decide_eq_true c30
                clear c30
                replace H := Option.bind_eq_some_iff.mp H
                obtain ⟨t134, A310, H⟩ := H
                replace H : (if x129000_2.length < 17592186044416 then (if x129001_2.length < 140737488355328 then (spec_loParse.l0 k2 t130 (t130.length : Int) (wrap64 (x30_2 + 1)) (x129000_2 ++ [t134]) (x129001_2 ++ [true]) t127) else (none)) else (none)) = some (r1, r2, r3, r4) := H
                have A31 := Aside0.mk A310
                clear A310
                by_cases c32 : x129000_2.length < 17592186044416
                ·
                 rw [if_pos c32] at H
                 have LMc32 := Aside0.mk c32
                 clear c32
                 obtain ⟨y135, hy135⟩ : ∃ y_ : List Int, y_ = (x129000_2 ++ [t134]) := ⟨_, rfl⟩
                 replace H : (if x129001_2.length < 140737488355328 then (spec_loParse.l0 k2 t130 (t130.length : Int) (wrap64 (x30_2 + 1)) y135 (x129001_2 ++ [true]) t127) else (none)) = some (r1, r2, r3, r4) := by first | (rw [hy135]; with_reducible exact H) | (have H2_ := (Option.bind_some _ _).symm.trans H; rw [hy135]; with_reducible exact H2_) | (have H2_ := (Option.bind_some _ _).symm.trans H; with_reducible exact H2_) | with_reducible exact H | (rw [hy135]; exact H) | exact H
                 have Ny135 := Aside0.mk hy135
                 clear hy135
                 by_cases c33 : x129001_2.length < 140737488355328
                 ·
                  rw [if_pos c33] at H
                  have LMc33 := Aside0.mk c33
                  clear c33
                  obtain ⟨y138, hy138⟩ : ∃ y_ : List Bool, y_ = (x129001_2 ++ [true]) := ⟨_, rfl⟩
                  replace H : (spec_loParse.l0 k2 t130 (t130.length : Int) (wrap64 (x30_2 + 1)) y135 y138 t127) = some (r1, r2, r3, r4) := by first | (rw [hy138]; with_reducible exact H) | (have H2_ := (Option.bind_some _ _).symm.trans H; rw [hy138]; with_reducible exact H2_) | (have H2_ := (Option.bind_some _ _).symm.trans H; with_reducible exact H2_) | with_reducible exact H | (rw [hy138]; exact H) | exact H
                  have Ny138 := Aside0.mk hy138
                  clear hy138
                  have H' := Aside0.mk H
                  clear H
                  have p133 : 0 ≤ (x30_2 : Int) := of_decide_eq_true (by first | (with_reducible assumption) | assumption)
                  have q133 : x30_2 < (t130.length : Int) := of_decide_eq_true (by first | (with_reducible assumption) | assumption)
                  obtain ⟨ad133, e133, hx133_0⟩ := Kd.at_string (Kd.R_reads' HO_28.out).2.2 x30_2 p133 q133
                  cases e133
                  replace p133 := eq_true p133
                  replace q133 := eq_true q133
                  have p27 : 0 ≤ ((ji24) : Int) := of_decide_eq_true (by first | (with_reducible assumption) | assumption)
                  have q27 : (ji24) < ((rdOf ByteArray.empty t130 x30_2).size : Int) := of_decide_eq_true (by first | (with_reducible assumption) | assumption)
                  have hx27 := bt_at (rdOf ByteArray.empty t130 x30_2) (ji24)
                  replace p27 := eq_true p27
                  replace q27 := eq_true q27
                  try go_wp2
                  have n0_ := Aside0.mk (Kd.R_drew HO_28.out)
                  have n1_ := Aside0.mk (Kd.R_drew HO_129000.out)
                  have n2_ := Aside0.mk (Kd.R_drew HO_129001.out)
                  have n3_ := Aside0.mk (blk_drew BK122.out)
                  have n4_ := Aside0.mk (blk_drew BK128.out)
                  have n5_ := Aside0.mk (below_drew1 HB.out)
                  clear HO_28 HO_129000 HO_129001 BK122 BK128 HB
                  have HO_28 := n0_; have HO_129000 := n1_; have HO_129001 := n2_; have BK122 := n3_; have BK128 := n4_; have HB := n5_
                  clear n0_ n1_ n2_ n3_ n4_ n5_
                  refine start_ (n := 8) (S := fun w' => w'.cell? ⟨gb128, 0, none⟩ = some (u129000) ∧ w'.cell? ⟨gb128, 1, none⟩ = some (u129001) ∧ w'.cell? ⟨gb128, 2, none⟩ = some (.int .i64 t127)) (ds := [7]) #[false, false, false, false, false, false, false, false] (by kernel_rfl) rfl rfl ⟨(blk_cell BK128.out 0).trans rfl, (blk_cell BK128.out 1).trans rfl, (blk_cell BK128.out 2).trans rfl⟩ (fun hHeld => ?_); refine with_tabW spec_loParse.tab11 spec_loParse.bits11 (fun HT_ HW_ => ?_)
                  generalize wr.drew = w34 at HO_28 HO_129000 HO_129001 BK122 BK128 HB hHeld ⊢
                  refine pure_ (i := 0) (N := some 51) (v := ?_) (a' := ?_) #[true, false, false, false, false, false, false, false] rfl rfl (any_of HT_.out (by kernel_rfl)) (fun _ _ _ h => h) (Or.inl ⟨by rfl, ?_⟩) ?_ ?_
                  rotate_left
                  ·
                   intro w'
                   go_simp
                   with_reducible rfl
                  rotate_left
                  ·
                   simp only [Act.put, List.setIfInBounds_toArray, List.set_cons_zero, List.set_cons_succ, i64_w, i32_w]
                   rfl
                  refine pure_ (i := 2) (N := some 53) (v := ?_) (a' := ?_) #[true, false, true, false, false, false, false, false] rfl rfl (any_of HT_.out (by kernel_rfl)) (fun _ _ _ h => h) (Or.inl ⟨by rfl, ?_⟩) ?_ ?_
                  rotate_left
                  ·
                   intro w'
                   go_simp
                   with_reducible rfl
                  rotate_left
                  ·
                   simp only [Act.put, List.setIfInBounds_toArray, List.set_cons_zero, List.set_cons_succ, i64_w, i32_w]
                   rfl
                  refine take_ (i := 1) (N := some 52) (v := ?_) (a' := ?_) #[true, true, true, false, false, false, false, false] rfl rfl (take_ofW HT_.out HW_.out (by kernel_rfl)) (fun _ _ _ h => h) (Or.inl ⟨by rfl, ?_⟩) hHeld ?_ ?_
                  rotate_left
                  ·
                   rintro w' ⟨s0, s1, s2⟩
                   go_simp
                   with_reducible rfl
                  rotate_left
                  ·
                   simp only [Act.put, List.setIfInBounds_toArray, List.set_cons_zero, List.set_cons_succ, i64_w, i32_w]
                   rfl
                  refine one_ (i := 3) (N := some 54) #[true, true, true, true, false, false, false, false] rfl rfl (one_of HT_.out (by kernel_rfl)) (by decide) (fun K hK => ?_)
                  refine goes_ Tryd.func131 (by kernel_rfl) rfl #[.string ((rdOf ByteArray.empty t130 x30_2).extract 0 ((ji24) : Int).toNat)] (by rfl) rfl rfl (by (try simp only [List.map_toArray, List.map_cons, List.map_nil]); first | done | (simp only [hji24]; rfl) | rfl | (simp only [List.length_drop, List.length_take]; rfl)) ?_
                  with_reducible refine (spec_l1Read.calls k2 ((rdOf ByteArray.empty t130 x30_2).extract 0 ((ji24) : Int).toNat) t134 _ A31.out).mono ?_
                  rintro e w' ⟨rfl, ⟨nd, rfl⟩⟩
                  refine ⟨_, rfl, ?_⟩
                  refine hK.out _ _ ⟨(blk_cell BK128.out 0).trans rfl, (blk_cell BK128.out 1).trans rfl, (blk_cell BK128.out 2).trans rfl⟩ (fun hHeld => ?_)
                  clear hK K
                  refine norm_ (a' := ?_) ?_ ?_
                  rotate_left
                  ·
                   show Act.put _ (some 54) _ = _
                   simp only [Act.put, List.setIfInBounds_toArray, List.set_cons_zero, List.set_cons_succ, i64_w, i32_w]
                   rfl
                  refine one_ (i := 4) (N := some 55) #[true, true, true, true, true, false, false, false] rfl rfl (one_of HT_.out (by kernel_rfl)) (by decide) (fun K hK => ?_)
                  refine value_ (w1 := ?_) (v := ?_) (by rfl) rfl ?_ ?_
                  rotate_left 2
                  ·
                   go_simp
                   constructor
                   ·
                    rfl
                   ·
                    rfl
                  refine hK.out _ _ ⟨(blk_cell (blk_alloc BK128.out _) 0).trans rfl, (blk_cell (blk_alloc BK128.out _) 1).trans rfl, (blk_cell (blk_alloc BK128.out _) 2).trans rfl⟩ (fun hHeld => ?_)
                  clear hK K
                  refine norm_ (a' := ?_) ?_ ?_
                  rotate_left
                  ·
                   show Act.put _ (some 55) _ = _
                   simp only [Act.put, List.setIfInBounds_toArray, List.set_cons_zero, List.set_cons_succ, i64_w, i32_w]
                   rfl
                  refine one_ (i := 5) (N := some 56) #[true, true, true, true, true, true, false, false] rfl rfl (one_of HT_.out (by kernel_rfl)) (by decide) (fun K hK => ?_)
                  refine Kd.R_append_step (Kd.int .i64) (w0 := w) w.heap.size (by rfl) (.tmp 52) (.tmp 55) 22 3 (.int .i64 0) 8 rfl Tryd.underlying22 info3 rfl (by decide) (by omega) u129000 x129000_2 t134 [.int .i64 t134] (fun _ => True) (fun _ => False) rfl rfl ?aP (fun _ hk => hk.elim) ?aF ?aO ?aB ?aS ?aL ?_
                  (case aP => exact rfl)
                  (case aB => exact (by repeat (first | (with_reducible first | exact HB.out | apply below_alloc | apply pw_below_drewN | apply below_drew1 | refine below_set ?_ (Aside0.out (by assumption))) | exact HB.out)))
                  (case aF => exact (fun _ _ => trivial))
                  (case aO => exact (Kd.pR HO_129000.out))
                  (case aS => exact (below_size (by repeat (first | (with_reducible first | exact HB.out | apply below_alloc | apply pw_below_drewN | apply below_drew1 | refine below_set ?_ (Aside0.out (by assumption))) | exact HB.out))))
                  (case aL => have := LMc32.out; omega)
                  intro v136 w35 ho hb hg hat
                  rw [← Ny135.out] at ho
                  have n0_ := Aside0.mk (Kd.R_over' (Kd.pR HO_28.out) (Kd.R_typed (Kd.pR HO_129000.out)) (by decide) hg)
                  have n1_ := Aside0.mk (Kd.R_over' (Kd.pR HO_129001.out) (Kd.R_typed (Kd.pR HO_129000.out)) (by decide) hg)
                  have n2_ := Aside0.mk (blk_grown (pk BK122.out) hg (Kd.R_ne HO_129000.out BK122.out (by decide)))
                  have n3_ := Aside0.mk (blk_grown (pk BK128.out) hg (Kd.R_ne HO_129000.out BK128.out (by decide)))
                  have n4_ := Aside0.mk (hb)
                  have n5_ := Aside0.mk (ho)
                  clear HO_28 HO_129001 BK122 BK128 HB HO_129000
                  have HO_28 := n0_; have HO_129001 := n1_; have BK122 := n2_; have BK128 := n3_; have HB := n4_; have HO137 := n5_
                  clear n0_ n1_ n2_ n3_ n4_ n5_ ho hb hg hat
                  obtain ⟨Ao36, co36, eo36⟩ := Kd.R_slice HO137.out
                  (first | subst eo36 | (injection eo36 with f1_ f2_ f3_; have f4_ := f1_.symm; have f5_ := f3_.symm; clear f1_ f2_ f3_; subst f4_; subst f5_))
                  refine hK.out _ _ ⟨(blk_cell BK128.out 0).trans rfl, (blk_cell BK128.out 1).trans rfl, (blk_cell BK128.out 2).trans rfl⟩ (fun hHeld => ?_)
                  clear hK K
                  refine norm_ (a' := ?_) ?_ ?_
                  rotate_left
                  ·
                   show Act.put _ (some 56) _ = _
                   simp only [Act.put, List.setIfInBounds_toArray, List.set_cons_zero, List.set_cons_succ, i64_w, i32_w]
                   rfl
                  refine pure_ (i := 6) (N := some 57) (v := ?_) (a' := ?_) #[true, true, true, true, true, true, true, false] rfl rfl (any_of HT_.out (by kernel_rfl)) (fun _ _ _ h => h) (Or.inl ⟨by rfl, ?_⟩) ?_ ?_
                  rotate_left
                  ·
                   intro w'
                   go_simp
                   with_reducible rfl
                  rotate_left
                  ·
                   simp only [Act.put, List.setIfInBounds_toArray, List.set_cons_zero, List.set_cons_succ, i64_w, i32_w]
                   rfl
                  refine last_ (i := 7) (N := none) #[true, true, true, true, true, true, true, true] rfl rfl (one_of HT_.out (by kernel_rfl)) (by decide) (fun K hK => ?_)
                  have hs37 : w35.cell? ⟨gb128, 0, none⟩ = some (u129000) := (blk_cell BK128.out 0).trans rfl
                  have hfs37 := blk_frozen BK128.out 0
                  have hns37_0 := NB122_128.out
                  have hms37_0 := NB128_122.out
                  refine skip_ (w1 := ?_) (by rfl) rfl ?_ ?_
                  rotate_left
                  ·
                   go_simp
                   rfl
                  refine hK.out _ _ ?_
                  clear hK K
                  refine done_ (done_of HT_.out (by kernel_rfl)) ?_
                  have hnb38 := NB128_122.out
                  have hnc38 := NB122_128.out
                  have hcz39_0 : w35.cell? ⟨gb128, 0, none⟩ = some (u129000) := (blk_cell BK128.out 0).trans rfl
                  have hcz39_1 : w35.cell? ⟨gb128, 1, none⟩ = some (u129001) := (blk_cell BK128.out 1).trans rfl
                  have hcz39_2 : w35.cell? ⟨gb128, 2, none⟩ = some (.int .i64 t127) := (blk_cell BK128.out 2).trans rfl
                  have hfz39_0 := blk_frozen BK128.out 0
                  have hfz39_1 := blk_frozen BK128.out 1
                  have hfz39_2 := blk_frozen BK128.out 2
                  try go_wp2_with (first | ((with_reducible refine gate_builtin (b := .append) (xs := #[.tmp 59, .tmp 61]) rfl ?_); (try (refine gate_guard (by rfl) ?_; dsimp only)); at_builtin; refine Kd.R_append Kd.bool (w0 := w) w.heap.size rfl (.tmp 59) (.tmp 61) 60 4 (.bool false) 1 rfl Tryd.underlying60 info4 rfl (by decide) (by omega) u129001 x129001_2 true [.bool true] (fun _ => True) (fun _ => False) rfl (by first | (go_simp; done) | (go_simp; rfl)) ?aP (fun _ hk => hk.elim) ?aF ?aO ?aB ?aS ?aL ?_; (case aP => exact rfl); (case aB => exact (by repeat (first | (with_reducible first | exact HB.out | apply below_alloc | apply pw_below_drewN | apply below_drew1 | refine below_set ?_ (Aside0.out (by assumption))) | exact HB.out))); (case aF => exact (fun _ _ => trivial)); (case aO => exact (by (with_reducible repeat (first | apply Kd.R_alloc | apply Kd.R_drewN | apply Kd.R_drew)); exact Kd.R_mono (Kd.R_far (p := ⟨gb128, 0, none⟩) (Kd.R_types HO_129001.out BK128.out (by decide)) (fun _ hk => hk.2) (.slice Ao36 y135.length co36)) (fun _ hk => trivial))); (case aS => exact (below_size (by repeat (first | (with_reducible first | exact HB.out | apply below_alloc | apply pw_below_drewN | apply below_drew1 | refine below_set ?_ (Aside0.out (by assumption))) | exact HB.out)))); (case aL => have := LMc33.out; omega); intro v139 w40 ho hb hg hat; rw [← Ny138.out] at ho; have n0_ := Aside0.mk (Kd.R_over' (by (with_reducible repeat (first | apply Kd.R_alloc | apply Kd.R_drewN | apply Kd.R_drew)); exact (Kd.R_mono (Kd.R_far (p := ⟨gb128, 0, none⟩) (Kd.R_types HO_28.out BK128.out (by decide)) (fun _ hk => hk.2) (.slice Ao36 y135.length co36)) (fun _ h_ => h_.1))) (Kd.R_typed (by (with_reducible repeat (first | apply Kd.R_alloc | apply Kd.R_drewN | apply Kd.R_drew)); exact (Kd.R_mono (Kd.R_far (p := ⟨gb128, 0, none⟩) (Kd.R_types HO_129001.out BK128.out (by decide)) (fun _ hk => hk.2) (.slice Ao36 y135.length co36)) (fun _ h_ => h_.1)))) (by decide) hg); have n1_ := Aside0.mk (blk_grown (g := gb122) (o := .cells #[.slice none 0 0, .slice none 0 0, .int .i64 0] 65 (0, 0)) (by (with_reducible repeat (first | refine blk_drewN ?_ _ | refine blk_drew ?_ | refine blk_alloc ?_ _)); refine blk_far ?_ NB122_128.out _; (with_reducible repeat (first | refine blk_drewN ?_ _ | refine blk_drew ?_ | refine blk_alloc ?_ _)); exact BK122.out) hg (Kd.R_ne HO_129001.out BK122.out (by decide))); have n2_ := Aside0.mk (blk_grown (g := gb128) (o := .cells #[.slice Ao36 y135.length co36, u129001, .int .i64 t127] 65 (0, 0)) (by (with_reducible repeat (first | refine blk_drewN ?_ _ | refine blk_drew ?_ | refine blk_alloc ?_ _)); refine blk_put (cs := #[u129000, u129001, .int .i64 t127]) ?_ 0 _ rfl; (with_reducible repeat (first | refine blk_drewN ?_ _ | refine blk_drew ?_ | refine blk_alloc ?_ _)); exact BK128.out) hg (Kd.R_ne HO_129001.out BK128.out (by decide))); have n3_ := Aside0.mk (Kd.R_over' (by (with_reducible repeat (first | apply Kd.R_alloc | apply Kd.R_drewN | apply Kd.R_drew)); exact (Kd.R_mono (Kd.R_far (p := ⟨gb128, 0, none⟩) (Kd.R_types HO137.out BK128.out (by decide)) (fun _ hk => hk.2) (.slice Ao36 y135.length co36)) (fun _ h_ => h_.1))) (Kd.R_typed (by (with_reducible repeat (first | apply Kd.R_alloc | apply Kd.R_drewN | apply Kd.R_drew)); exact (Kd.R_mono (Kd.R_far (p := ⟨gb128, 0, none⟩) (Kd.R_types HO_129001.out BK128.out (by decide)) (fun _ hk => hk.2) (.slice Ao36 y135.length co36)) (fun _ h_ => h_.1)))) (by decide) hg); have n4_ := Aside0.mk (hb); have n5_ := Aside0.mk (ho); clear HO_28; clear BK122; clear BK128; clear HO137; clear HB; clear HO_129001; have HO_28 := n0_; have BK122 := n1_; have BK128 := n2_; have HO137 := n3_; have HB := n4_; have HO140 := n5_; clear n0_ n1_ n2_ n3_ n4_ n5_; clear ho hb hg hat; obtain ⟨Ao41, co41, eo41⟩ := Kd.R_slice HO140.out; subst eo41; have hcz42_0 : w40.cell? ⟨gb128, 0, none⟩ = some (.slice Ao36 y135.length co36) := (blk_cell BK128.out 0).trans rfl; have hcz42_1 : w40.cell? ⟨gb128, 1, none⟩ = some (u129001) := (blk_cell BK128.out 1).trans rfl; have hcz42_2 : w40.cell? ⟨gb128, 2, none⟩ = some (.int .i64 t127) := (blk_cell BK128.out 2).trans rfl; have hfz42_0 := blk_frozen BK128.out 0; have hfz42_1 := blk_frozen BK128.out 1; have hfz42_2 := blk_frozen BK128.out 2))
                  go_roundg k2
                  case measure => have := HJ2.out; have := HK2.out; omega
                  case rel => exact ⟨(wrap64 (x30_2 + 1)), (y135), (y138), (.slice Ao36 y135.length co36), (.slice Ao41 y138.length co41), (by first | rfl | (simp; done) | (simp [*]; done)), H', ⟨by have := HJ2.out; have := HK2.out; omega⟩, ⟨by (with_reducible repeat (first | apply Kd.R_alloc | apply Kd.R_drewN | apply Kd.R_drew)); exact Kd.R_mono (Kd.R_far (p := ⟨gb128, 1, none⟩) (Kd.R_types HO_28.out BK128.out (by decide)) (fun _ hk => hk.2) (.slice Ao41 y138.length co41)) (fun _ hk => trivial)⟩, ⟨by (with_reducible repeat (first | apply Kd.R_alloc | apply Kd.R_drewN | apply Kd.R_drew)); exact Kd.R_mono (Kd.R_far (p := ⟨gb128, 1, none⟩) (Kd.R_types HO137.out BK128.out (by decide)) (fun _ hk => hk.2) (.slice Ao41 y138.length co41)) (fun _ hk => trivial)⟩, ⟨by (with_reducible repeat (first | apply Kd.R_alloc | apply Kd.R_drewN | apply Kd.R_drew)); exact Kd.R_mono (Kd.R_far (p := ⟨gb128, 1, none⟩) (Kd.R_types HO140.out BK128.out (by decide)) (fun _ hk => hk.2) (.slice Ao41 y138.length co41)) (fun _ hk => trivial)⟩, ⟨by (with_reducible repeat (first | refine blk_drewN ?_ _ | refine blk_drew ?_ | refine blk_alloc ?_ _)); refine blk_far ?_ NB122_128.out _; (with_reducible repeat (first | refine blk_drewN ?_ _ | refine blk_drew ?_ | refine blk_alloc ?_ _)); exact BK122.out⟩, ⟨by (with_reducible repeat (first | refine blk_drewN ?_ _ | refine blk_drew ?_ | refine blk_alloc ?_ _)); refine blk_put (cs := #[.slice Ao36 y135.length co36, u129001, .int .i64 t127]) ?_ 1 _ rfl; (with_reducible repeat (first | refine blk_drewN ?_ _ | refine blk_drew ?_ | refine blk_alloc ?_ _)); exact BK128.out⟩, ⟨by repeat (first | (with_reducible first | exact HB.out | apply below_alloc | apply pw_below_drewN | apply below_drew1 | refine below_set ?_ (Aside0.out (by assumption))) | exact HB.out)⟩⟩
                 ·
                  rw [if_neg c33] at H
                  exact absurd H (by simp)
                ·
                 rw [if_neg c32] at H
                 exact absurd H (by simp)
               ·
                rw [if_neg c30] at H
                exact absurd H (by simp)
              ·
               rw [if_neg c28] at H
               have c28b0 : ((bt (rdOf ByteArray.empty t130 x30_2) (ji24)) == 114) = false := beq_eq_false_iff_ne.mpr c28
               have c28b1 : ((bt (rdOf ByteArray.empty t130 x30_2) (ji24)) != 114) = true := bne_iff_ne.mpr c28
               replace H := Option.bind_eq_some_iff.mp H
               obtain ⟨t141, A430, H⟩ := H
               replace H : (if x129000_2.length < 17592186044416 then (if x129001_2.length < 140737488355328 then (spec_loParse.l0 k2 t130 (t130.length : Int) (wrap64 (x30_2 + 1)) (x129000_2 ++ [t141]) (x129001_2 ++ [false]) t127) else (none)) else (none)) = some (r1, r2, r3, r4) := H
               have A43 := Aside0.mk A430
               clear A430
               by_cases c44 : x129000_2.length < 17592186044416
               ·
                rw [if_pos c44] at H
                have LMc44 := Aside0.mk c44
                clear c44
                obtain ⟨y142, hy142⟩ : ∃ y_ : List Int, y_ = (x129000_2 ++ [t141]) := ⟨_, rfl⟩
                replace H : (if x129001_2.length < 140737488355328 then (spec_loParse.l0 k2 t130 (t130.length : Int) (wrap64 (x30_2 + 1)) y142 (x129001_2 ++ [false]) t127) else (none)) = some (r1, r2, r3, r4) := by first | (rw [hy142]; with_reducible exact H) | (have H2_ := (Option.bind_some _ _).symm.trans H; rw [hy142]; with_reducible exact H2_) | (have H2_ := (Option.bind_some _ _).symm.trans H; with_reducible exact H2_) | with_reducible exact H | (rw [hy142]; exact H) | exact H
                have Ny142 := Aside0.mk hy142
                clear hy142
                by_cases c45 : x129001_2.length < 140737488355328
                ·
                 rw [if_pos c45] at H
                 have LMc45 := Aside0.mk c45
                 clear c45
                 obtain ⟨y145, hy145⟩ : ∃ y_ : List Bool, y_ = (x129001_2 ++ [false]) := ⟨_, rfl⟩
                 replace H : (spec_loParse.l0 k2 t130 (t130.length : Int) (wrap64 (x30_2 + 1)) y142 y145 t127) = some (r1, r2, r3, r4) := by first | (rw [hy145]; with_reducible exact H) | (have H2_ := (Option.bind_some _ _).symm.trans H; rw [hy145]; with_reducible exact H2_) | (have H2_ := (Option.bind_some _ _).symm.trans H; with_reducible exact H2_) | with_reducible exact H | (rw [hy145]; exact H) | exact H
                 have Ny145 := Aside0.mk hy145
                 clear hy145
                 have H' := Aside0.mk H
                 clear H
                 have p133 : 0 ≤ (x30_2 : Int) := of_decide_eq_true (by first | (with_reducible assumption) | assumption)
                 have q133 : x30_2 < (t130.length : Int) := of_decide_eq_true (by first | (with_reducible assumption) | assumption)
                 obtain ⟨ad133, e133, hx133_0⟩ := Kd.at_string (Kd.R_reads' HO_28.out).2.2 x30_2 p133 q133
                 cases e133
                 replace p133 := eq_true p133
                 replace q133 := eq_true q133
                 have p27 : 0 ≤ ((ji24) : Int) := of_decide_eq_true (by first | (with_reducible assumption) | assumption)
                 have q27 : (ji24) < ((rdOf ByteArray.empty t130 x30_2).size : Int) := of_decide_eq_true (by first | (with_reducible assumption) | assumption)
                 have hx27 := bt_at (rdOf ByteArray.empty t130 x30_2) (ji24)
                 replace p27 := eq_true p27
                 replace q27 := eq_true q27
                 try go_wp2
                 have n0_ := Aside0.mk (Kd.R_drew HO_28.out)
                 have n1_ := Aside0.mk (Kd.R_drew HO_129000.out)
                 have n2_ := Aside0.mk (Kd.R_drew HO_129001.out)
                 have n3_ := Aside0.mk (blk_drew BK122.out)
                 have n4_ := Aside0.mk (blk_drew BK128.out)
                 have n5_ := Aside0.mk (below_drew1 HB.out)
                 clear HO_28 HO_129000 HO_129001 BK122 BK128 HB
                 have HO_28 := n0_; have HO_129000 := n1_; have HO_129001 := n2_; have BK122 := n3_; have BK128 := n4_; have HB := n5_
                 clear n0_ n1_ n2_ n3_ n4_ n5_
                 refine start_ (n := 8) (S := fun w' => w'.cell? ⟨gb128, 0, none⟩ = some (u129000) ∧ w'.cell? ⟨gb128, 1, none⟩ = some (u129001) ∧ w'.cell? ⟨gb128, 2, none⟩ = some (.int .i64 t127)) (ds := [7]) #[false, false, false, false, false, false, false, false] (by kernel_rfl) rfl rfl ⟨(blk_cell BK128.out 0).trans rfl, (blk_cell BK128.out 1).trans rfl, (blk_cell BK128.out 2).trans rfl⟩ (fun hHeld => ?_); refine with_tabW spec_loParse.tab11 spec_loParse.bits11 (fun HT_ HW_ => ?_)
                 generalize wr.drew = w46 at HO_28 HO_129000 HO_129001 BK122 BK128 HB hHeld ⊢
                 refine pure_ (i := 0) (N := some 51) (v := ?_) (a' := ?_) #[true, false, false, false, false, false, false, false] rfl rfl (any_of HT_.out (by kernel_rfl)) (fun _ _ _ h => h) (Or.inl ⟨by rfl, ?_⟩) ?_ ?_
                 rotate_left
                 ·
                  intro w'
                  go_simp
                  with_reducible rfl
                 rotate_left
                 ·
                  simp only [Act.put, List.setIfInBounds_toArray, List.set_cons_zero, List.set_cons_succ, i64_w, i32_w]
                  rfl
                 refine pure_ (i := 2) (N := some 53) (v := ?_) (a' := ?_) #[true, false, true, false, false, false, false, false] rfl rfl (any_of HT_.out (by kernel_rfl)) (fun _ _ _ h => h) (Or.inl ⟨by rfl, ?_⟩) ?_ ?_
                 rotate_left
                 ·
                  intro w'
                  go_simp
                  with_reducible rfl
                 rotate_left
                 ·
                  simp only [Act.put, List.setIfInBounds_toArray, List.set_cons_zero, List.set_cons_succ, i64_w, i32_w]
                  rfl
                 refine take_ (i := 1) (N := some 52) (v := ?_) (a' := ?_) #[true, true, true, false, false, false, false, false] rfl rfl (take_ofW HT_.out HW_.out (by kernel_rfl)) (fun _ _ _ h => h) (Or.inl ⟨by rfl, ?_⟩) hHeld ?_ ?_
                 rotate_left
                 ·
                  rintro w' ⟨s0, s1, s2⟩
                  go_simp
                  with_reducible rfl
                 rotate_left
                 ·
                  simp only [Act.put, List.setIfInBounds_toArray, List.set_cons_zero, List.set_cons_succ, i64_w, i32_w]
                  rfl
                 refine one_ (i := 3) (N := some 54) #[true, true, true, true, false, false, false, false] rfl rfl (one_of HT_.out (by kernel_rfl)) (by decide) (fun K hK => ?_)
                 refine goes_ Tryd.func131 (by kernel_rfl) rfl #[.string (rdOf ByteArray.empty t130 x30_2)] (by rfl) rfl rfl (by (try simp only [List.map_toArray, List.map_cons, List.map_nil]); first | done | rfl | (simp only [List.length_drop, List.length_take]; rfl)) ?_
                 with_reducible refine (spec_l1Read.calls k2 (rdOf ByteArray.empty t130 x30_2) t141 _ A43.out).mono ?_
                 rintro e w' ⟨rfl, ⟨nd, rfl⟩⟩
                 refine ⟨_, rfl, ?_⟩
                 refine hK.out _ _ ⟨(blk_cell BK128.out 0).trans rfl, (blk_cell BK128.out 1).trans rfl, (blk_cell BK128.out 2).trans rfl⟩ (fun hHeld => ?_)
                 clear hK K
                 refine norm_ (a' := ?_) ?_ ?_
                 rotate_left
                 ·
                  show Act.put _ (some 54) _ = _
                  simp only [Act.put, List.setIfInBounds_toArray, List.set_cons_zero, List.set_cons_succ, i64_w, i32_w]
                  rfl
                 refine one_ (i := 4) (N := some 55) #[true, true, true, true, true, false, false, false] rfl rfl (one_of HT_.out (by kernel_rfl)) (by decide) (fun K hK => ?_)
                 refine value_ (w1 := ?_) (v := ?_) (by rfl) rfl ?_ ?_
                 rotate_left 2
                 ·
                  go_simp
                  constructor
                  ·
                   rfl
                  ·
                   rfl
                 refine hK.out _ _ ⟨(blk_cell (blk_alloc BK128.out _) 0).trans rfl, (blk_cell (blk_alloc BK128.out _) 1).trans rfl, (blk_cell (blk_alloc BK128.out _) 2).trans rfl⟩ (fun hHeld => ?_)
                 clear hK K
                 refine norm_ (a' := ?_) ?_ ?_
                 rotate_left
                 ·
                  show Act.put _ (some 55) _ = _
                  simp only [Act.put, List.setIfInBounds_toArray, List.set_cons_zero, List.set_cons_succ, i64_w, i32_w]
                  rfl
                 refine one_ (i := 5) (N := some 56) #[true, true, true, true, true, true, false, false] rfl rfl (one_of HT_.out (by kernel_rfl)) (by decide) (fun K hK => ?_)
                 refine Kd.R_append_step (Kd.int .i64) (w0 := w) w.heap.size (by rfl) (.tmp 52) (.tmp 55) 22 3 (.int .i64 0) 8 rfl Tryd.underlying22 info3 rfl (by decide) (by omega) u129000 x129000_2 t141 [.int .i64 t141] (fun _ => True) (fun _ => False) rfl rfl ?aP (fun _ hk => hk.elim) ?aF ?aO ?aB ?aS ?aL ?_
                 (case aP => exact rfl)
                 (case aB => exact (by repeat (first | (with_reducible first | exact HB.out | apply below_alloc | apply pw_below_drewN | apply below_drew1 | refine below_set ?_ (Aside0.out (by assumption))) | exact HB.out)))
                 (case aF => exact (fun _ _ => trivial))
                 (case aO => exact (Kd.pR HO_129000.out))
                 (case aS => exact (below_size (by repeat (first | (with_reducible first | exact HB.out | apply below_alloc | apply pw_below_drewN | apply below_drew1 | refine below_set ?_ (Aside0.out (by assumption))) | exact HB.out))))
                 (case aL => have := LMc44.out; omega)
                 intro v143 w47 ho hb hg hat
                 rw [← Ny142.out] at ho
                 have n0_ := Aside0.mk (Kd.R_over' (Kd.pR HO_28.out) (Kd.R_typed (Kd.pR HO_129000.out)) (by decide) hg)
                 have n1_ := Aside0.mk (Kd.R_over' (Kd.pR HO_129001.out) (Kd.R_typed (Kd.pR HO_129000.out)) (by decide) hg)
                 have n2_ := Aside0.mk (blk_grown (pk BK122.out) hg (Kd.R_ne HO_129000.out BK122.out (by decide)))
                 have n3_ := Aside0.mk (blk_grown (pk BK128.out) hg (Kd.R_ne HO_129000.out BK128.out (by decide)))
                 have n4_ := Aside0.mk (hb)
                 have n5_ := Aside0.mk (ho)
                 clear HO_28 HO_129001 BK122 BK128 HB HO_129000
                 have HO_28 := n0_; have HO_129001 := n1_; have BK122 := n2_; have BK128 := n3_; have HB := n4_; have HO144 := n5_
                 clear n0_ n1_ n2_ n3_ n4_ n5_ ho hb hg hat
                 obtain ⟨Ao48, co48, eo48⟩ := Kd.R_slice HO144.out
                 (first | subst eo48 | (injection eo48 with f1_ f2_ f3_; have f4_ := f1_.symm; have f5_ := f3_.symm; clear f1_ f2_ f3_; subst f4_; subst f5_))
                 refine hK.out _ _ ⟨(blk_cell BK128.out 0).trans rfl, (blk_cell BK128.out 1).trans rfl, (blk_cell BK128.out 2).trans rfl⟩ (fun hHeld => ?_)
                 clear hK K
                 refine norm_ (a' := ?_) ?_ ?_
                 rotate_left
                 ·
                  show Act.put _ (some 56) _ = _
                  simp only [Act.put, List.setIfInBounds_toArray, List.set_cons_zero, List.set_cons_succ, i64_w, i32_w]
                  rfl
                 refine pure_ (i := 6) (N := some 57) (v := ?_) (a' := ?_) #[true, true, true, true, true, true, true, false] rfl rfl (any_of HT_.out (by kernel_rfl)) (fun _ _ _ h => h) (Or.inl ⟨by rfl, ?_⟩) ?_ ?_
                 rotate_left
                 ·
                  intro w'
                  go_simp
                  with_reducible rfl
                 rotate_left
                 ·
                  simp only [Act.put, List.setIfInBounds_toArray, List.set_cons_zero, List.set_cons_succ, i64_w, i32_w]
                  rfl
                 refine last_ (i := 7) (N := none) #[true, true, true, true, true, true, true, true] rfl rfl (one_of HT_.out (by kernel_rfl)) (by decide) (fun K hK => ?_)
                 have hs49 : w47.cell? ⟨gb128, 0, none⟩ = some (u129000) := (blk_cell BK128.out 0).trans rfl
                 have hfs49 := blk_frozen BK128.out 0
                 have hns49_0 := NB122_128.out
                 have hms49_0 := NB128_122.out
                 refine skip_ (w1 := ?_) (by rfl) rfl ?_ ?_
                 rotate_left
                 ·
                  go_simp
                  rfl
                 refine hK.out _ _ ?_
                 clear hK K
                 refine done_ (done_of HT_.out (by kernel_rfl)) ?_
                 have hnb50 := NB128_122.out
                 have hnc50 := NB122_128.out
                 have hcz51_0 : w47.cell? ⟨gb128, 0, none⟩ = some (u129000) := (blk_cell BK128.out 0).trans rfl
                 have hcz51_1 : w47.cell? ⟨gb128, 1, none⟩ = some (u129001) := (blk_cell BK128.out 1).trans rfl
                 have hcz51_2 : w47.cell? ⟨gb128, 2, none⟩ = some (.int .i64 t127) := (blk_cell BK128.out 2).trans rfl
                 have hfz51_0 := blk_frozen BK128.out 0
                 have hfz51_1 := blk_frozen BK128.out 1
                 have hfz51_2 := blk_frozen BK128.out 2
                 try go_wp2_with (first | ((with_reducible refine gate_builtin (b := .append) (xs := #[.tmp 59, .tmp 61]) rfl ?_); (try (refine gate_guard (by rfl) ?_; dsimp only)); at_builtin; refine Kd.R_append Kd.bool (w0 := w) w.heap.size rfl (.tmp 59) (.tmp 61) 60 4 (.bool false) 1 rfl Tryd.underlying60 info4 rfl (by decide) (by omega) u129001 x129001_2 false [.bool false] (fun _ => True) (fun _ => False) rfl (by first | (go_simp; done) | (go_simp; rfl)) ?aP (fun _ hk => hk.elim) ?aF ?aO ?aB ?aS ?aL ?_; (case aP => exact rfl); (case aB => exact (by repeat (first | (with_reducible first | exact HB.out | apply below_alloc | apply pw_below_drewN | apply below_drew1 | refine below_set ?_ (Aside0.out (by assumption))) | exact HB.out))); (case aF => exact (fun _ _ => trivial)); (case aO => exact (by (with_reducible repeat (first | apply Kd.R_alloc | apply Kd.R_drewN | apply Kd.R_drew)); exact Kd.R_mono (Kd.R_far (p := ⟨gb128, 0, none⟩) (Kd.R_types HO_129001.out BK128.out (by decide)) (fun _ hk => hk.2) (.slice Ao48 y142.length co48)) (fun _ hk => trivial))); (case aS => exact (below_size (by repeat (first | (with_reducible first | exact HB.out | apply below_alloc | apply pw_below_drewN | apply below_drew1 | refine below_set ?_ (Aside0.out (by assumption))) | exact HB.out)))); (case aL => have := LMc45.out; omega); intro v146 w52 ho hb hg hat; rw [← Ny145.out] at ho; have n0_ := Aside0.mk (Kd.R_over' (by (with_reducible repeat (first | apply Kd.R_alloc | apply Kd.R_drewN | apply Kd.R_drew)); exact (Kd.R_mono (Kd.R_far (p := ⟨gb128, 0, none⟩) (Kd.R_types HO_28.out BK128.out (by decide)) (fun _ hk => hk.2) (.slice Ao48 y142.length co48)) (fun _ h_ => h_.1))) (Kd.R_typed (by (with_reducible repeat (first | apply Kd.R_alloc | apply Kd.R_drewN | apply Kd.R_drew)); exact (Kd.R_mono (Kd.R_far (p := ⟨gb128, 0, none⟩) (Kd.R_types HO_129001.out BK128.out (by decide)) (fun _ hk => hk.2) (.slice Ao48 y142.length co48)) (fun _ h_ => h_.1)))) (by decide) hg); have n1_ := Aside0.mk (blk_grown (g := gb122) (o := .cells #[.slice none 0 0, .slice none 0 0, .int .i64 0] 65 (0, 0)) (by (with_reducible repeat (first | refine blk_drewN ?_ _ | refine blk_drew ?_ | refine blk_alloc ?_ _)); refine blk_far ?_ NB122_128.out _; (with_reducible repeat (first | refine blk_drewN ?_ _ | refine blk_drew ?_ | refine blk_alloc ?_ _)); exact BK122.out) hg (Kd.R_ne HO_129001.out BK122.out (by decide))); have n2_ := Aside0.mk (blk_grown (g := gb128) (o := .cells #[.slice Ao48 y142.length co48, u129001, .int .i64 t127] 65 (0, 0)) (by (with_reducible repeat (first | refine blk_drewN ?_ _ | refine blk_drew ?_ | refine blk_alloc ?_ _)); refine blk_put (cs := #[u129000, u129001, .int .i64 t127]) ?_ 0 _ rfl; (with_reducible repeat (first | refine blk_drewN ?_ _ | refine blk_drew ?_ | refine blk_alloc ?_ _)); exact BK128.out) hg (Kd.R_ne HO_129001.out BK128.out (by decide))); have n3_ := Aside0.mk (Kd.R_over' (by (with_reducible repeat (first | apply Kd.R_alloc | apply Kd.R_drewN | apply Kd.R_drew)); exact (Kd.R_mono (Kd.R_far (p := ⟨gb128, 0, none⟩) (Kd.R_types HO144.out BK128.out (by decide)) (fun _ hk => hk.2) (.slice Ao48 y142.length co48)) (fun _ h_ => h_.1))) (Kd.R_typed (by (with_reducible repeat (first | apply Kd.R_alloc | apply Kd.R_drewN | apply Kd.R_drew)); exact (Kd.R_mono (Kd.R_far (p := ⟨gb128, 0, none⟩) (Kd.R_types HO_129001.out BK128.out (by decide)) (fun _ hk => hk.2) (.slice Ao48 y142.length co48)) (fun _ h_ => h_.1)))) (by decide) hg); have n4_ := Aside0.mk (hb); have n5_ := Aside0.mk (ho); clear HO_28; clear BK122; clear BK128; clear HO144; clear HB; clear HO_129001; have HO_28 := n0_; have BK122 := n1_; have BK128 := n2_; have HO144 := n3_; have HB := n4_; have HO147 := n5_; clear n0_ n1_ n2_ n3_ n4_ n5_; clear ho hb hg hat; obtain ⟨Ao53, co53, eo53⟩ := Kd.R_slice HO147.out; subst eo53; have hcz54_0 : w52.cell? ⟨gb128, 0, none⟩ = some (.slice Ao48 y142.length co48) := (blk_cell BK128.out 0).trans rfl; have hcz54_1 : w52.cell? ⟨gb128, 1, none⟩ = some (u129001) := (blk_cell BK128.out 1).trans rfl; have hcz54_2 : w52.cell? ⟨gb128, 2, none⟩ = some (.int .i64 t127) := (blk_cell BK128.out 2).trans rfl; have hfz54_0 := blk_frozen BK128.out 0; have hfz54_1 := blk_frozen BK128.out 1; have hfz54_2 := blk_frozen BK128.out 2))
                 go_roundg k2
                 case measure => have := HJ2.out; have := HK2.out; omega
                 case rel => exact ⟨(wrap64 (x30_2 + 1)), (y142), (y145), (.slice Ao48 y142.length co48), (.slice Ao53 y145.length co53), (by first | rfl | (simp; done) | (simp [*]; done)), H', ⟨by have := HJ2.out; have := HK2.out; omega⟩, ⟨by (with_reducible repeat (first | apply Kd.R_alloc | apply Kd.R_drewN | apply Kd.R_drew)); exact Kd.R_mono (Kd.R_far (p := ⟨gb128, 1, none⟩) (Kd.R_types HO_28.out BK128.out (by decide)) (fun _ hk => hk.2) (.slice Ao53 y145.length co53)) (fun _ hk => trivial)⟩, ⟨by (with_reducible repeat (first | apply Kd.R_alloc | apply Kd.R_drewN | apply Kd.R_drew)); exact Kd.R_mono (Kd.R_far (p := ⟨gb128, 1, none⟩) (Kd.R_types HO144.out BK128.out (by decide)) (fun _ hk => hk.2) (.slice Ao53 y145.length co53)) (fun _ hk => trivial)⟩, ⟨by (with_reducible repeat (first | apply Kd.R_alloc | apply Kd.R_drewN | apply Kd.R_drew)); exact Kd.R_mono (Kd.R_far (p := ⟨gb128, 1, none⟩) (Kd.R_types HO147.out BK128.out (by decide)) (fun _ hk => hk.2) (.slice Ao53 y145.length co53)) (fun _ hk => trivial)⟩, ⟨by (with_reducible repeat (first | refine blk_drewN ?_ _ | refine blk_drew ?_ | refine blk_alloc ?_ _)); refine blk_far ?_ NB122_128.out _; (with_reducible repeat (first | refine blk_drewN ?_ _ | refine blk_drew ?_ | refine blk_alloc ?_ _)); exact BK122.out⟩, ⟨by (with_reducible repeat (first | refine blk_drewN ?_ _ | refine blk_drew ?_ | refine blk_alloc ?_ _)); refine blk_put (cs := #[.slice Ao48 y142.length co48, u129001, .int .i64 t127]) ?_ 1 _ rfl; (with_reducible repeat (first | refine blk_drewN ?_ _ | refine blk_drew ?_ | refine blk_alloc ?_ _)); exact BK128.out⟩, ⟨by repeat (first | (with_reducible first | exact HB.out | apply below_alloc | apply pw_below_drewN | apply below_drew1 | refine below_set ?_ (Aside0.out (by assumption))) | exact HB.out)⟩⟩
                ·
                 rw [if_neg c45] at H
                 exact absurd H (by simp)
               ·
                rw [if_neg c44] at H
                exact absurd H (by simp)
             ·
              rw [if_neg c26] at H
              exact absurd H (by simp)
            ·
             rw [if_neg c25] at H
             exact absurd H (by simp)
           ·
            rw [if_neg c23] at H
            have c23b0 : decide (0 < ((rdOf ByteArray.empty t130 x30_2).size : Int)) = false := decide_eq_false c23
            have c23b1 : decide (0 < (rdOf ByteArray.empty t130 x30_2).size) = false := decide_eq_false (by omega)
            clear c23
            replace H := Option.bind_eq_some_iff.mp H
            obtain ⟨t148, A550, H⟩ := H
            replace H : (if x129000_2.length < 17592186044416 then (if x129001_2.length < 140737488355328 then (spec_loParse.l0 k2 t130 (t130.length : Int) (wrap64 (x30_2 + 1)) (x129000_2 ++ [t148]) (x129001_2 ++ [false]) t127) else (none)) else (none)) = some (r1, r2, r3, r4) := H
            have A55 := Aside0.mk A550
            clear A550
            by_cases c56 : x129000_2.length < 17592186044416
            ·
             rw [if_pos c56] at H
             have LMc56 := Aside0.mk c56
             clear c56
             obtain ⟨y149, hy149⟩ : ∃ y_ : List Int, y_ = (x129000_2 ++ [t148]) := ⟨_, rfl⟩
             replace H : (if x129001_2.length < 140737488355328 then (spec_loParse.l0 k2 t130 (t130.length : Int) (wrap64 (x30_2 + 1)) y149 (x129001_2 ++ [false]) t127) else (none)) = some (r1, r2, r3, r4) := by first | (rw [hy149]; with_reducible exact H) | (have H2_ := (Option.bind_some _ _).symm.trans H; rw [hy149]; with_reducible exact H2_) | (have H2_ := (Option.bind_some _ _).symm.trans H; with_reducible exact H2_) | with_reducible exact H | (rw [hy149]; exact H) | exact H
             have Ny149 := Aside0.mk hy149
             clear hy149
             by_cases c57 : x129001_2.length < 140737488355328
             ·
              rw [if_pos c57] at H
              have LMc57 := Aside0.mk c57
              clear c57
              obtain ⟨y152, hy152⟩ : ∃ y_ : List Bool, y_ = (x129001_2 ++ [false]) := ⟨_, rfl⟩
              replace H : (spec_loParse.l0 k2 t130 (t130.length : Int) (wrap64 (x30_2 + 1)) y149 y152 t127) = some (r1, r2, r3, r4) := by first | (rw [hy152]; with_reducible exact H) | (have H2_ := (Option.bind_some _ _).symm.trans H; rw [hy152]; with_reducible exact H2_) | (have H2_ := (Option.bind_some _ _).symm.trans H; with_reducible exact H2_) | with_reducible exact H | (rw [hy152]; exact H) | exact H
              have Ny152 := Aside0.mk hy152
              clear hy152
              have H' := Aside0.mk H
              clear H
              have p133 : 0 ≤ (x30_2 : Int) := of_decide_eq_true (by first | (with_reducible assumption) | assumption)
              have q133 : x30_2 < (t130.length : Int) := of_decide_eq_true (by first | (with_reducible assumption) | assumption)
              obtain ⟨ad133, e133, hx133_0⟩ := Kd.at_string (Kd.R_reads' HO_28.out).2.2 x30_2 p133 q133
              cases e133
              replace p133 := eq_true p133
              replace q133 := eq_true q133
              try go_wp2
              have n0_ := Aside0.mk (Kd.R_drew HO_28.out)
              have n1_ := Aside0.mk (Kd.R_drew HO_129000.out)
              have n2_ := Aside0.mk (Kd.R_drew HO_129001.out)
              have n3_ := Aside0.mk (blk_drew BK122.out)
              have n4_ := Aside0.mk (blk_drew BK128.out)
              have n5_ := Aside0.mk (below_drew1 HB.out)
              clear HO_28 HO_129000 HO_129001 BK122 BK128 HB
              have HO_28 := n0_; have HO_129000 := n1_; have HO_129001 := n2_; have BK122 := n3_; have BK128 := n4_; have HB := n5_
              clear n0_ n1_ n2_ n3_ n4_ n5_
              refine start_ (n := 8) (S := fun w' => w'.cell? ⟨gb128, 0, none⟩ = some (u129000) ∧ w'.cell? ⟨gb128, 1, none⟩ = some (u129001) ∧ w'.cell? ⟨gb128, 2, none⟩ = some (.int .i64 t127)) (ds := [7]) #[false, false, false, false, false, false, false, false] (by kernel_rfl) rfl rfl ⟨(blk_cell BK128.out 0).trans rfl, (blk_cell BK128.out 1).trans rfl, (blk_cell BK128.out 2).trans rfl⟩ (fun hHeld => ?_); refine with_tabW spec_loParse.tab11 spec_loParse.bits11 (fun HT_ HW_ => ?_)
              generalize wr.drew = w58 at HO_28 HO_129000 HO_129001 BK122 BK128 HB hHeld ⊢
              refine pure_ (i := 0) (N := some 51) (v := ?_) (a' := ?_) #[true, false, false, false, false, false, false, false] rfl rfl (any_of HT_.out (by kernel_rfl)) (fun _ _ _ h => h) (Or.inl ⟨by rfl, ?_⟩) ?_ ?_
              rotate_left
              ·
               intro w'
               go_simp
               with_reducible rfl
              rotate_left
              ·
               simp only [Act.put, List.setIfInBounds_toArray, List.set_cons_zero, List.set_cons_succ, i64_w, i32_w]
               rfl
              refine pure_ (i := 2) (N := some 53) (v := ?_) (a' := ?_) #[true, false, true, false, false, false, false, false] rfl rfl (any_of HT_.out (by kernel_rfl)) (fun _ _ _ h => h) (Or.inl ⟨by rfl, ?_⟩) ?_ ?_
              rotate_left
              ·
               intro w'
               go_simp
               with_reducible rfl
              rotate_left
              ·
               simp only [Act.put, List.setIfInBounds_toArray, List.set_cons_zero, List.set_cons_succ, i64_w, i32_w]
               rfl
              refine take_ (i := 1) (N := some 52) (v := ?_) (a' := ?_) #[true, true, true, false, false, false, false, false] rfl rfl (take_ofW HT_.out HW_.out (by kernel_rfl)) (fun _ _ _ h => h) (Or.inl ⟨by rfl, ?_⟩) hHeld ?_ ?_
              rotate_left
              ·
               rintro w' ⟨s0, s1, s2⟩
               go_simp
               with_reducible rfl
              rotate_left
              ·
               simp only [Act.put, List.setIfInBounds_toArray, List.set_cons_zero, List.set_cons_succ, i64_w, i32_w]
               rfl
              refine one_ (i := 3) (N := some 54) #[true, true, true, true, false, false, false, false] rfl rfl (one_of HT_.out (by kernel_rfl)) (by decide) (fun K hK => ?_)
              refine goes_ Tryd.func131 (by kernel_rfl) rfl #[.string (rdOf ByteArray.empty t130 x30_2)] (by rfl) rfl rfl (by (try simp only [List.map_toArray, List.map_cons, List.map_nil]); first | done | rfl | (simp only [List.length_drop, List.length_take]; rfl)) ?_
              with_reducible refine (spec_l1Read.calls k2 (rdOf ByteArray.empty t130 x30_2) t148 _ A55.out).mono ?_
              rintro e w' ⟨rfl, ⟨nd, rfl⟩⟩
              refine ⟨_, rfl, ?_⟩
              refine hK.out _ _ ⟨(blk_cell BK128.out 0).trans rfl, (blk_cell BK128.out 1).trans rfl, (blk_cell BK128.out 2).trans rfl⟩ (fun hHeld => ?_)
              clear hK K
              refine norm_ (a' := ?_) ?_ ?_
              rotate_left
              ·
               show Act.put _ (some 54) _ = _
               simp only [Act.put, List.setIfInBounds_toArray, List.set_cons_zero, List.set_cons_succ, i64_w, i32_w]
               rfl
              refine one_ (i := 4) (N := some 55) #[true, true, true, true, true, false, false, false] rfl rfl (one_of HT_.out (by kernel_rfl)) (by decide) (fun K hK => ?_)
              refine value_ (w1 := ?_) (v := ?_) (by rfl) rfl ?_ ?_
              rotate_left 2
              ·
               go_simp
               constructor
               ·
                rfl
               ·
                rfl
              refine hK.out _ _ ⟨(blk_cell (blk_alloc BK128.out _) 0).trans rfl, (blk_cell (blk_alloc BK128.out _) 1).trans rfl, (blk_cell (blk_alloc BK128.out _) 2).trans rfl⟩ (fun hHeld => ?_)
              clear hK K
              refine norm_ (a' := ?_) ?_ ?_
              rotate_left
              ·
               show Act.put _ (some 55) _ = _
               simp only [Act.put, List.setIfInBounds_toArray, List.set_cons_zero, List.set_cons_succ, i64_w, i32_w]
               rfl
              refine one_ (i := 5) (N := some 56) #[true, true, true, true, true, true, false, false] rfl rfl (one_of HT_.out (by kernel_rfl)) (by decide) (fun K hK => ?_)
              refine Kd.R_append_step (Kd.int .i64) (w0 := w) w.heap.size (by rfl) (.tmp 52) (.tmp 55) 22 3 (.int .i64 0) 8 rfl Tryd.underlying22 info3 rfl (by decide) (by omega) u129000 x129000_2 t148 [.int .i64 t148] (fun _ => True) (fun _ => False) rfl rfl ?aP (fun _ hk => hk.elim) ?aF ?aO ?aB ?aS ?aL ?_
              (case aP => exact rfl)
              (case aB => exact (by repeat (first | (with_reducible first | exact HB.out | apply below_alloc | apply pw_below_drewN | apply below_drew1 | refine below_set ?_ (Aside0.out (by assumption))) | exact HB.out)))
              (case aF => exact (fun _ _ => trivial))
              (case aO => exact (Kd.pR HO_129000.out))
              (case aS => exact (below_size (by repeat (first | (with_reducible first | exact HB.out | apply below_alloc | apply pw_below_drewN | apply below_drew1 | refine below_set ?_ (Aside0.out (by assumption))) | exact HB.out))))
              (case aL => have := LMc56.out; omega)
              intro v150 w59 ho hb hg hat
              rw [← Ny149.out] at ho
              have n0_ := Aside0.mk (Kd.R_over' (Kd.pR HO_28.out) (Kd.R_typed (Kd.pR HO_129000.out)) (by decide) hg)
              have n1_ := Aside0.mk (Kd.R_over' (Kd.pR HO_129001.out) (Kd.R_typed (Kd.pR HO_129000.out)) (by decide) hg)
              have n2_ := Aside0.mk (blk_grown (pk BK122.out) hg (Kd.R_ne HO_129000.out BK122.out (by decide)))
              have n3_ := Aside0.mk (blk_grown (pk BK128.out) hg (Kd.R_ne HO_129000.out BK128.out (by decide)))
              have n4_ := Aside0.mk (hb)
              have n5_ := Aside0.mk (ho)
              clear HO_28 HO_129001 BK122 BK128 HB HO_129000
              have HO_28 := n0_; have HO_129001 := n1_; have BK122 := n2_; have BK128 := n3_; have HB := n4_; have HO151 := n5_
              clear n0_ n1_ n2_ n3_ n4_ n5_ ho hb hg hat
              obtain ⟨Ao60, co60, eo60⟩ := Kd.R_slice HO151.out
              (first | subst eo60 | (injection eo60 with f1_ f2_ f3_; have f4_ := f1_.symm; have f5_ := f3_.symm; clear f1_ f2_ f3_; subst f4_; subst f5_))
              refine hK.out _ _ ⟨(blk_cell BK128.out 0).trans rfl, (blk_cell BK128.out 1).trans rfl, (blk_cell BK128.out 2).trans rfl⟩ (fun hHeld => ?_)
              clear hK K
              refine norm_ (a' := ?_) ?_ ?_
              rotate_left
              ·
               show Act.put _ (some 56) _ = _
               simp only [Act.put, List.setIfInBounds_toArray, List.set_cons_zero, List.set_cons_succ, i64_w, i32_w]
               rfl
              refine pure_ (i := 6) (N := some 57) (v := ?_) (a' := ?_) #[true, true, true, true, true, true, true, false] rfl rfl (any_of HT_.out (by kernel_rfl)) (fun _ _ _ h => h) (Or.inl ⟨by rfl, ?_⟩) ?_ ?_
              rotate_left
              ·
               intro w'
               go_simp
               with_reducible rfl
              rotate_left
              ·
               simp only [Act.put, List.setIfInBounds_toArray, List.set_cons_zero, List.set_cons_succ, i64_w, i32_w]
               rfl
              refine last_ (i := 7) (N := none) #[true, true, true, true, true, true, true, true] rfl rfl (one_of HT_.out (by kernel_rfl)) (by decide) (fun K hK => ?_)
              have hs61 : w59.cell? ⟨gb128, 0, none⟩ = some (u129000) := (blk_cell BK128.out 0).trans rfl
              have hfs61 := blk_frozen BK128.out 0
              have hns61_0 := NB122_128.out
              have hms61_0 := NB128_122.out
              refine skip_ (w1 := ?_) (by rfl) rfl ?_ ?_
              rotate_left
              ·
               go_simp
               rfl
              refine hK.out _ _ ?_
              clear hK K
              refine done_ (done_of HT_.out (by kernel_rfl)) ?_
              have hnb62 := NB128_122.out
              have hnc62 := NB122_128.out
              have hcz63_0 : w59.cell? ⟨gb128, 0, none⟩ = some (u129000) := (blk_cell BK128.out 0).trans rfl
              have hcz63_1 : w59.cell? ⟨gb128, 1, none⟩ = some (u129001) := (blk_cell BK128.out 1).trans rfl
              have hcz63_2 : w59.cell? ⟨gb128, 2, none⟩ = some (.int .i64 t127) := (blk_cell BK128.out 2).trans rfl
              have hfz63_0 := blk_frozen BK128.out 0
              have hfz63_1 := blk_frozen BK128.out 1
              have hfz63_2 := blk_frozen BK128.out 2
              try go_wp2_with (first | ((with_reducible refine gate_builtin (b := .append) (xs := #[.tmp 59, .tmp 61]) rfl ?_); (try (refine gate_guard (by rfl) ?_; dsimp only)); at_builtin; refine Kd.R_append Kd.bool (w0 := w) w.heap.size rfl (.tmp 59) (.tmp 61) 60 4 (.bool false) 1 rfl Tryd.underlying60 info4 rfl (by decide) (by omega) u129001 x129001_2 false [.bool false] (fun _ => True) (fun _ => False) rfl (by first | (go_simp; done) | (go_simp; rfl)) ?aP (fun _ hk => hk.elim) ?aF ?aO ?aB ?aS ?aL ?_; (case aP => exact rfl); (case aB => exact (by repeat (first | (with_reducible first | exact HB.out | apply below_alloc | apply pw_below_drewN | apply below_drew1 | refine below_set ?_ (Aside0.out (by assumption))) | exact HB.out))); (case aF => exact (fun _ _ => trivial)); (case aO => exact (by (with_reducible repeat (first | apply Kd.R_alloc | apply Kd.R_drewN | apply Kd.R_drew)); exact Kd.R_mono (Kd.R_far (p := ⟨gb128, 0, none⟩) (Kd.R_types HO_129001.out BK128.out (by decide)) (fun _ hk => hk.2) (.slice Ao60 y149.length co60)) (fun _ hk => trivial))); (case aS => exact (below_size (by repeat (first | (with_reducible first | exact HB.out | apply below_alloc | apply pw_below_drewN | apply below_drew1 | refine below_set ?_ (Aside0.out (by assumption))) | exact HB.out)))); (case aL => have := LMc57.out; omega); intro v153 w64 ho hb hg hat; rw [← Ny152.out] at ho; have n0_ := Aside0.mk (Kd.R_over' (by (with_reducible repeat (first | apply Kd.R_alloc | apply Kd.R_drewN | apply Kd.R_drew)); exact (Kd.R_mono (Kd.R_far (p := ⟨gb128, 0, none⟩) (Kd.R_types HO_28.out BK128.out (by decide)) (fun _ hk => hk.2) (.slice Ao60 y149.length co60)) (fun _ h_ => h_.1))) (Kd.R_typed (by (with_reducible repeat (first | apply Kd.R_alloc | apply Kd.R_drewN | apply Kd.R_drew)); exact (Kd.R_mono (Kd.R_far (p := ⟨gb128, 0, none⟩) (Kd.R_types HO_129001.out BK128.out (by decide)) (fun _ hk => hk.2) (.slice Ao60 y149.length co60)) (fun _ h_ => h_.1)))) (by decide) hg); have n1_ := Aside0.mk (blk_grown (g := gb122) (o := .cells #[.slice none 0 0, .slice none 0 0, .int .i64 0] 65 (0, 0)) (by (with_reducible repeat (first | refine blk_drewN ?_ _ | refine blk_drew ?_ | refine blk_alloc ?_ _)); refine blk_far ?_ NB122_128.out _; (with_reducible repeat (first | refine blk_drewN ?_ _ | refine blk_drew ?_ | refine blk_alloc ?_ _)); exact BK122.out) hg (Kd.R_ne HO_129001.out BK122.out (by decide))); have n2_ := Aside0.mk (blk_grown (g := gb128) (o := .cells #[.slice Ao60 y149.length co60, u129001, .int .i64 t127] 65 (0, 0)) (by (with_reducible repeat (first | refine blk_drewN ?_ _ | refine blk_drew ?_ | refine blk_alloc ?_ _)); refine blk_put (cs := #[u129000, u129001, .int .i64 t127]) ?_ 0 _ rfl; (with_reducible repeat (first | refine blk_drewN ?_ _ | refine blk_drew ?_ | refine blk_alloc ?_ _)); exact BK128.out) hg (Kd.R_ne HO_129001.out BK128.out (by decide))); have n3_ := Aside0.mk (Kd.R_over' (by (with_reducible repeat (first | apply Kd.R_alloc | apply Kd.R_drewN | apply Kd.R_drew)); exact (Kd.R_mono (Kd.R_far (p := ⟨gb128, 0, none⟩) (Kd.R_types HO151.out BK128.out (by decide)) (fun _ hk => hk.2) (.slice Ao60 y149.length co60)) (fun _ h_ => h_.1))) (Kd.R_typed (by (with_reducible repeat (first | apply Kd.R_alloc | apply Kd.R_drewN | apply Kd.R_drew)); exact (Kd.R_mono (Kd.R_far (p := ⟨gb128, 0, none⟩) (Kd.R_types HO_129001.out BK128.out (by decide)) (fun _ hk => hk.2) (.slice Ao60 y149.length co60)) (fun _ h_ => h_.1)))) (by decide) hg); have n4_ := Aside0.mk (hb); have n5_ := Aside0.mk (ho); clear HO_28; clear BK122; clear BK128; clear HO151; clear HB; clear HO_129001; have HO_28 := n0_; have BK122 := n1_; have BK128 := n2_; have HO151 := n3_; have HB := n4_; have HO154 := n5_; clear n0_ n1_ n2_ n3_ n4_ n5_; clear ho hb hg hat; obtain ⟨Ao65, co65, eo65⟩ := Kd.R_slice HO154.out; subst eo65; have hcz66_0 : w64.cell? ⟨gb128, 0, none⟩ = some (.slice Ao60 y149.length co60) := (blk_cell BK128.out 0).trans rfl; have hcz66_1 : w64.cell? ⟨gb128, 1, none⟩ = some (u129001) := (blk_cell BK128.out 1).trans rfl; have hcz66_2 : w64.cell? ⟨gb128, 2, none⟩ = some (.int .i64 t127) := (blk_cell BK128.out 2).trans rfl; have hfz66_0 := blk_frozen BK128.out 0; have hfz66_1 := blk_frozen BK128.out 1; have hfz66_2 := blk_frozen BK128.out 2))
              go_roundg k2
              case measure => have := HJ2.out; have := HK2.out; omega
              case rel => exact ⟨(wrap64 (x30_2 + 1)), (y149), (y152), (.slice Ao60 y149.length co60), (.slice Ao65 y152.length co65), (by first | rfl | (simp; done) | (simp [*]; done)), H', ⟨by have := HJ2.out; have := HK2.out; omega⟩, ⟨by (with_reducible repeat (first | apply Kd.R_alloc | apply Kd.R_drewN | apply Kd.R_drew)); exact Kd.R_mono (Kd.R_far (p := ⟨gb128, 1, none⟩) (Kd.R_types HO_28.out BK128.out (by decide)) (fun _ hk => hk.2) (.slice Ao65 y152.length co65)) (fun _ hk => trivial)⟩, ⟨by (with_reducible repeat (first | apply Kd.R_alloc | apply Kd.R_drewN | apply Kd.R_drew)); exact Kd.R_mono (Kd.R_far (p := ⟨gb128, 1, none⟩) (Kd.R_types HO151.out BK128.out (by decide)) (fun _ hk => hk.2) (.slice Ao65 y152.length co65)) (fun _ hk => trivial)⟩, ⟨by (with_reducible repeat (first | apply Kd.R_alloc | apply Kd.R_drewN | apply Kd.R_drew)); exact Kd.R_mono (Kd.R_far (p := ⟨gb128, 1, none⟩) (Kd.R_types HO154.out BK128.out (by decide)) (fun _ hk => hk.2) (.slice Ao65 y152.length co65)) (fun _ hk => trivial)⟩, ⟨by (with_reducible repeat (first | refine blk_drewN ?_ _ | refine blk_drew ?_ | refine blk_alloc ?_ _)); refine blk_far ?_ NB122_128.out _; (with_reducible repeat (first | refine blk_drewN ?_ _ | refine blk_drew ?_ | refine blk_alloc ?_ _)); exact BK122.out⟩, ⟨by (with_reducible repeat (first | refine blk_drewN ?_ _ | refine blk_drew ?_ | refine blk_alloc ?_ _)); refine blk_put (cs := #[.slice Ao60 y149.length co60, u129001, .int .i64 t127]) ?_ 1 _ rfl; (with_reducible repeat (first | refine blk_drewN ?_ _ | refine blk_drew ?_ | refine blk_alloc ?_ _)); exact BK128.out⟩, ⟨by repeat (first | (with_reducible first | exact HB.out | apply below_alloc | apply pw_below_drewN | apply below_drew1 | refine below_set ?_ (Aside0.out (by assumption))) | exact HB.out)⟩⟩
             ·
              rw [if_neg c57] at H
              exact absurd H (by simp)
            ·
             rw [if_neg c56] at H
             exact absurd H (by simp)
          ·
           rw [if_neg c22] at H
           exact absurd H (by simp)
         ·
          rw [if_neg c21] at H
          exact absurd H (by simp)
        ·
         rw [if_neg c20] at H
         have c20b0 : decide (x30_2 < (t130.length : Int)) = false := decide_eq_false c20
         clear c20
         replace H := Option.bind_eq_some_iff.mp H
         obtain ⟨t155, A670, H⟩ := H
         replace H : (if t155 = true then (some (x129000_2, x129001_2, t127, true)) else (some (([] : List Int), ([] : List Bool), 0, false))) = some (r1, r2, r3, r4) := H
         have A67 := Aside0.mk A670
         clear A670
         by_cases c68 : t155 = true
         ·
          subst c68
          have H1 : (some (x129000_2, x129001_2, t127, true)) = some (r1, r2, r3, r4) := by rw [if_pos rfl] at H; exact H
          clear H
          have H := H1
          clear H1
          simp only [Option.some.injEq, Prod.mk.injEq] at H
          obtain ⟨rfl, rfl, rfl, rfl⟩ := H
          have hnb69 := NB128_122.out
          have hnc69 := NB122_128.out
          have hcz70_0 : wr.cell? ⟨gb128, 0, none⟩ = some (u129000) := (blk_cell BK128.out 0).trans rfl
          have hcz70_1 : wr.cell? ⟨gb128, 1, none⟩ = some (u129001) := (blk_cell BK128.out 1).trans rfl
          have hcz70_2 : wr.cell? ⟨gb128, 2, none⟩ = some (.int .i64 t127) := (blk_cell BK128.out 2).trans rfl
          have hfz70_0 := blk_frozen BK128.out 0
          have hfz70_1 := blk_frozen BK128.out 1
          have hfz70_2 := blk_frozen BK128.out 2
          obtain ⟨Ao71, co71, eo71⟩ := Kd.R_slice HO_129000.out
          subst eo71
          obtain ⟨Ao72, co72, eo72⟩ := Kd.R_slice HO_129001.out
          subst eo72
          go_wp2_with (first | ((with_reducible refine gate_callee (f := 84) rfl ?_); refine goesL_ (some 66) rfl rfl Tryd.func84 (by kernel_rfl) rfl #[.agg #[.slice Ao71 x129000_2.length co71, .slice Ao72 x129001_2.length co72, .int .i64 t127]] rfl (by (try simp only [List.map_toArray, List.map_cons, List.map_nil]); first | done | rfl | (simp only [List.length_drop, List.length_take]; rfl)) ?_; (with_reducible refine (spec_loGood.calls k2 _ _ x129000_2 _ _ x129001_2 t127 true _ ?side1 ?side2 ?side3 ?side4 A67.out).mono ?_); (case side1 => repeat (first | exact (Kd.R_reads' HO_129000.out).2.2 | (with_reducible refine Kd.C_alloc ?_ _) | (with_reducible refine Kd.C_drewN ?_ _) | (with_reducible refine Kd.C_drew ?_))); (case side2 => exact (Kd.R_reads' HO_129000.out).2.1); (case side3 => repeat (first | exact (Kd.R_reads' HO_129001.out).2.2 | (with_reducible refine Kd.C_alloc ?_ _) | (with_reducible refine Kd.C_drewN ?_ _) | (with_reducible refine Kd.C_drew ?_))); (case side4 => exact (Kd.R_reads' HO_129001.out).2.1); rintro e w73 ⟨rfl, hb⟩; refine ⟨_, rfl, ?_⟩; have n0_ := Aside0.mk (Kd.R_below (Kd.pR HO_28.out) hb); have n1_ := Aside0.mk (Kd.R_below (Kd.pR HO_129000.out) hb); have n2_ := Aside0.mk (Kd.R_below (Kd.pR HO_129001.out) hb); have n3_ := Aside0.mk (blk_below (pk BK122.out) hb); have n4_ := Aside0.mk (blk_below (pk BK128.out) hb); have n5_ := Aside0.mk (below_step (by repeat (first | (with_reducible first | exact HB.out | apply below_alloc | apply pw_below_drewN | apply below_drew1 | refine below_set ?_ (Aside0.out (by assumption))) | exact HB.out)) hb); clear HO_28; clear HO_129000; clear HO_129001; clear BK122; clear BK128; clear HB; have HO_28 := n0_; have HO_129000 := n1_; have HO_129001 := n2_; have BK122 := n3_; have BK128 := n4_; have HB := n5_; clear n0_ n1_ n2_ n3_ n4_ n5_; (try clear hb); (try clear hb2); (try clear hk); (try clear hi); have hcz74_0 : w73.cell? ⟨gb128, 0, none⟩ = some (.slice Ao71 x129000_2.length co71) := (blk_cell BK128.out 0).trans rfl; have hcz74_1 : w73.cell? ⟨gb128, 1, none⟩ = some (.slice Ao72 x129001_2.length co72) := (blk_cell BK128.out 1).trans rfl; have hcz74_2 : w73.cell? ⟨gb128, 2, none⟩ = some (.int .i64 t127) := (blk_cell BK128.out 2).trans rfl; have hfz74_0 := blk_frozen BK128.out 0; have hfz74_1 := blk_frozen BK128.out 1; have hfz74_2 := blk_frozen BK128.out 2; have hcz75_0 : w73.cell? ⟨gb122, 0, none⟩ = some (.slice none 0 0) := (blk_cell BK122.out 0).trans rfl; have hcz75_1 : w73.cell? ⟨gb122, 1, none⟩ = some (.slice none 0 0) := (blk_cell BK122.out 1).trans rfl; have hcz75_2 : w73.cell? ⟨gb122, 2, none⟩ = some (.int .i64 0) := (blk_cell BK122.out 2).trans rfl; have hfz75_0 := blk_frozen BK122.out 0; have hfz75_1 := blk_frozen BK122.out 1; have hfz75_2 := blk_frozen BK122.out 2))
          refine bodyPost_ret (results_ct rfl _ _ gb122 65 #[.slice Ao71 x129000_2.length co71, .slice Ao72 x129001_2.length co72, .int .i64 t127] (0, 0) _ rfl (by (with_reducible repeat (first | refine blk_drewN ?_ _ | refine blk_drew ?_ | refine blk_alloc ?_ _)); refine blk_put (cs := #[.slice Ao71 x129000_2.length co71, .slice Ao72 x129001_2.length co72, .int .i64 0]) ?_ 2 _ rfl; (with_reducible repeat (first | refine blk_drewN ?_ _ | refine blk_drew ?_ | refine blk_alloc ?_ _)); refine blk_put (cs := #[.slice Ao71 x129000_2.length co71, .slice none 0 0, .int .i64 0]) ?_ 1 _ rfl; (with_reducible repeat (first | refine blk_drewN ?_ _ | refine blk_drew ?_ | refine blk_alloc ?_ _)); refine blk_put (cs := #[.slice none 0 0, .slice none 0 0, .int .i64 0]) ?_ 0 _ rfl; (with_reducible repeat (first | refine blk_drewN ?_ _ | refine blk_drew ?_ | refine blk_alloc ?_ _)); exact BK122.out) Tryd.underlying65 rfl (by kernel_rfl)) rfl ?_
          exact ⟨_, _, by first | rfl | (simp [errW_none, errW_some] <;> rfl) | (simp [*, errW_none, errW_some] <;> rfl), by (with_reducible repeat (first | apply Kd.R_alloc | apply Kd.R_drewN | apply Kd.R_drew)); exact Kd.R_mono (Kd.R_far (p := ⟨gb122, 2, none⟩) (Kd.R_far (p := ⟨gb122, 1, none⟩) (Kd.R_far (p := ⟨gb122, 0, none⟩) (Kd.R_types HO_129000.out BK122.out (by decide)) (fun _ hk => hk.2) (.slice Ao71 x129000_2.length co71)) (fun _ hk => hk.2) (.slice Ao72 x129001_2.length co72)) (fun _ hk => hk.2) (.int .i64 t127)) (fun _ hk => trivial), by (with_reducible repeat (first | apply Kd.R_alloc | apply Kd.R_drewN | apply Kd.R_drew)); exact Kd.R_mono (Kd.R_far (p := ⟨gb122, 2, none⟩) (Kd.R_far (p := ⟨gb122, 1, none⟩) (Kd.R_far (p := ⟨gb122, 0, none⟩) (Kd.R_types HO_129001.out BK122.out (by decide)) (fun _ hk => hk.2) (.slice Ao71 x129000_2.length co71)) (fun _ hk => hk.2) (.slice Ao72 x129001_2.length co72)) (fun _ hk => hk.2) (.int .i64 t127)) (fun _ hk => trivial), by repeat (first | (with_reducible first | exact HB.out | apply below_alloc | apply pw_below_drewN | apply below_drew1 | refine below_set ?_ (Aside0.out (by assumption))) | exact HB.out)⟩
         ·
          replace c68 := Bool.eq_false_iff.mpr c68
          subst c68
          have H1 : (some (([] : List Int), ([] : List Bool), 0, false)) = some (r1, r2, r3, r4) := by rw [if_neg (show ¬ (false = true) by decide)] at H; exact H
          clear H
          have H := H1
          clear H1
          simp only [Option.some.injEq, Prod.mk.injEq] at H
          obtain ⟨rfl, rfl, rfl, rfl⟩ := H
          have hnb76 := NB128_122.out
          have hnc76 := NB122_128.out
          have hcz77_0 : wr.cell? ⟨gb128, 0, none⟩ = some (u129000) := (blk_cell BK128.out 0).trans rfl
          have hcz77_1 : wr.cell? ⟨gb128, 1, none⟩ = some (u129001) := (blk_cell BK128.out 1).trans rfl
          have hcz77_2 : wr.cell? ⟨gb128, 2, none⟩ = some (.int .i64 t127) := (blk_cell BK128.out 2).trans rfl
          have hfz77_0 := blk_frozen BK128.out 0
          have hfz77_1 := blk_frozen BK128.out 1
          have hfz77_2 := blk_frozen BK128.out 2
          obtain ⟨Ao78, co78, eo78⟩ := Kd.R_slice HO_129000.out
          subst eo78
          obtain ⟨Ao79, co79, eo79⟩ := Kd.R_slice HO_129001.out
          subst eo79
          go_wp2_with (first | ((with_reducible refine gate_callee (f := 84) rfl ?_); refine goesL_ (some 66) rfl rfl Tryd.func84 (by kernel_rfl) rfl #[.agg #[.slice Ao78 x129000_2.length co78, .slice Ao79 x129001_2.length co79, .int .i64 t127]] rfl (by (try simp only [List.map_toArray, List.map_cons, List.map_nil]); first | done | rfl | (simp only [List.length_drop, List.length_take]; rfl)) ?_; (with_reducible refine (spec_loGood.calls k2 _ _ x129000_2 _ _ x129001_2 t127 false _ ?side1 ?side2 ?side3 ?side4 A67.out).mono ?_); (case side1 => repeat (first | exact (Kd.R_reads' HO_129000.out).2.2 | (with_reducible refine Kd.C_alloc ?_ _) | (with_reducible refine Kd.C_drewN ?_ _) | (with_reducible refine Kd.C_drew ?_))); (case side2 => exact (Kd.R_reads' HO_129000.out).2.1); (case side3 => repeat (first | exact (Kd.R_reads' HO_129001.out).2.2 | (with_reducible refine Kd.C_alloc ?_ _) | (with_reducible refine Kd.C_drewN ?_ _) | (with_reducible refine Kd.C_drew ?_))); (case side4 => exact (Kd.R_reads' HO_129001.out).2.1); rintro e w80 ⟨rfl, hb⟩; refine ⟨_, rfl, ?_⟩; have n0_ := Aside0.mk (Kd.R_below (Kd.pR HO_28.out) hb); have n1_ := Aside0.mk (Kd.R_below (Kd.pR HO_129000.out) hb); have n2_ := Aside0.mk (Kd.R_below (Kd.pR HO_129001.out) hb); have n3_ := Aside0.mk (blk_below (pk BK122.out) hb); have n4_ := Aside0.mk (blk_below (pk BK128.out) hb); have n5_ := Aside0.mk (below_step (by repeat (first | (with_reducible first | exact HB.out | apply below_alloc | apply pw_below_drewN | apply below_drew1 | refine below_set ?_ (Aside0.out (by assumption))) | exact HB.out)) hb); clear HO_28; clear HO_129000; clear HO_129001; clear BK122; clear BK128; clear HB; have HO_28 := n0_; have HO_129000 := n1_; have HO_129001 := n2_; have BK122 := n3_; have BK128 := n4_; have HB := n5_; clear n0_ n1_ n2_ n3_ n4_ n5_; (try clear hb); (try clear hb2); (try clear hk); (try clear hi); have hcz81_0 : w80.cell? ⟨gb122, 0, none⟩ = some (.slice none 0 0) := (blk_cell BK122.out 0).trans rfl; have hcz81_1 : w80.cell? ⟨gb122, 1, none⟩ = some (.slice none 0 0) := (blk_cell BK122.out 1).trans rfl; have hcz81_2 : w80.cell? ⟨gb122, 2, none⟩ = some (.int .i64 0) := (blk_cell BK122.out 2).trans rfl; have hfz81_0 := blk_frozen BK122.out 0; have hfz81_1 := blk_frozen BK122.out 1; have hfz81_2 := blk_frozen BK122.out 2))
          refine bodyPost_ret (results_ct rfl _ _ gb122 65 #[.slice none 0 0, .slice none 0 0, .int .i64 0] (0, 0) _ rfl (by (with_reducible repeat (first | refine blk_drewN ?_ _ | refine blk_drew ?_ | refine blk_alloc ?_ _)); refine blk_put (cs := #[.slice none 0 0, .slice none 0 0, .int .i64 0]) ?_ 2 _ rfl; (with_reducible repeat (first | refine blk_drewN ?_ _ | refine blk_drew ?_ | refine blk_alloc ?_ _)); refine blk_put (cs := #[.slice none 0 0, .slice none 0 0, .int .i64 0]) ?_ 1 _ rfl; (with_reducible repeat (first | refine blk_drewN ?_ _ | refine blk_drew ?_ | refine blk_alloc ?_ _)); refine blk_put (cs := #[.slice none 0 0, .slice none 0 0, .int .i64 0]) ?_ 0 _ rfl; (with_reducible repeat (first | refine blk_drewN ?_ _ | refine blk_drew ?_ | refine blk_alloc ?_ _)); exact BK122.out) Tryd.underlying65 rfl (by kernel_rfl)) rfl ?_
          exact ⟨_, _, by first | rfl | (simp [errW_none, errW_some] <;> rfl) | (simp [*, errW_none, errW_some] <;> rfl), by first | exact Kd.R_nil _ _ _ _ _ | exact Kd.N_nil _ _ _ _ _ | exact Kd.V_nil _ _ _ _ _ | exact Kd.Q_nil _ _ _ _ _ | exact Kd.S_nil _ _ _ _ _, by first | exact Kd.R_nil _ _ _ _ _ | exact Kd.N_nil _ _ _ _ _ | exact Kd.V_nil _ _ _ _ _ | exact Kd.Q_nil _ _ _ _ _ | exact Kd.S_nil _ _ _ _ _, by repeat (first | (with_reducible first | exact HB.out | apply below_alloc | apply pw_below_drewN | apply below_drew1 | refine below_set ?_ (Aside0.out (by assumption))) | exact HB.out)⟩
     ·
      rw [if_neg c12] at H
      exact absurd H (by simp)
    ·
     rw [if_neg c10] at H
     exact absurd H (by simp)

end Go.Proofs.YtpiidnmobofaeaaDoor.QFnExactParseCrew
