/- Contracts of functions of the given program, walked: each call returns what its Lean function says. Conditions: those that stand at each theorem. (Written by a program of this session.) -/
import Derived.Test.YtkgbahokhifojaaQHidx0
import Derived.Test.YtkgbahokhifojaaQHidx5
import Derived.Test.YtkgbahokhifojaaQHidx7
import Derived.Test.YtkgbahokhifojaaQHidx8
namespace Go.Proofs.Ytkgbahokhifojaa.QHid
open Go.RowKit Go.Proofs.YtkgbahokhifojaaW.PrintWords Go.Proofs.YtkgbahokhifojaaW.PrintLast Go.Proofs.YtkgbahokhifojaaW.PrintMore
attribute [local go_sem] max2_int min2_int max_two min_two max_three min_three max_four min_four   -- for this text's walks alone
set_option linter.unusedVariables false
set_option linter.unusedSimpArgs false

/-! ### impl_MakePuzzle: function 29, and its closure -/
/-- The number behind z. -/
def mkNext (z : Int) : Int := Int.tmod (wrap64 (wrap64 (z * 139) + 2971)) 10007
/-- What a call of the closure leaves behind: the number in block B, and all else as it was. -/
def NX (B : Nat) (W : World) (z r : Int) (e : Ending) (w' : World) : Prop :=
  e = .returned (.int .i64 r) ∧ w'.heap[B]? = some (.cells #[.int .i64 z] 3 (0, 0)) ∧ W.heap.size ≤ w'.heap.size ∧ (∀ k, k ≠ B → k < W.heap.size → w'.heap[k]? = W.heap[k]?) ∧ ∀ w : World, Below w.heap.size w W → w.heap.size ≤ B → Below w.heap.size w w'
set_option maxHeartbeats 1000000 in
set_option maxRecDepth 100000 in
theorem mkNext_calls (B : Nat) (z m : Int) (W : World) (hB : W.heap[B]? = some (.cells #[.int .i64 z] 3 (0, 0))) (hm : m ≠ 0) :
    Calls Try.prog 67 (#[.int .i64 m] ++ #[.pointer (some ⟨B, 0, none⟩)]) W fun e w' => NX B W (mkNext z) (Int.tmod (mkNext z) m) e w' := by
  have BK := Aside0.mk hB
  have hz := (blk_cell hB 0)
  have hf := (blk_frozen hB 0)
  simp at hz
  have hm0 : ¬ m = 0 := hm
  have hm1 : (m = 0) = False := eq_false hm
  clear hB hm
  go_enter Try.func67, Try.ntmps67
  go_wp2
  go_ret
  refine ⟨rfl, ?_, ?_, fun k hk _ => ?_, fun w hb hg => ?_⟩
  · (with_reducible repeat (first | refine blk_drewN ?_ _ | refine blk_drew ?_ | refine blk_alloc ?_ _)); refine blk_put (cs := #[.int .i64 z]) ?_ 0 _ rfl; (with_reducible repeat (first | refine blk_drewN ?_ _ | refine blk_drew ?_ | refine blk_alloc ?_ _)); exact BK.out
  · simp
  · exact Below.heap_setCell _ ⟨B, 0, none⟩ _ k hk
  · repeat (first | (with_reducible first | exact hb | apply pw_below_drewN | apply below_drew1 | refine below_set ?_ hg) | exact hb)
def mkStep (k : Nat) (t : List Int) (z : Int) (acc : List S45) : Option (Int × List S45) :=
  if Int.tmod (mkNext z) 6 = 0 ∨ Int.tmod (mkNext z) 6 = 4 then
    (if (t.length : Int) = 0 then none else (impl_told.f k (Int.tmod (mkNext z) 6) (Int.tmod (mkNext (mkNext z)) (t.length : Int)) t).bind fun c => if acc.length < 1000000 then some (mkNext (mkNext z), acc ++ [⟨c.1, c.2.1, c.2.2⟩]) else none)
  else (impl_told.f k (Int.tmod (mkNext z) 6) 0 t).bind fun c => if acc.length < 1000000 then some (mkNext z, acc ++ [⟨c.1, c.2.1, c.2.2⟩]) else none
def mkRun (k : Nat) (t : List Int) : Nat → Int → List S45 → Option (List S45)
  | 0, _, acc => some acc
  | n + 1, z, acc => (mkStep k t z acc).bind fun s => mkRun k t n s.1 s.2
def impl_MakePuzzle.f (k : Nat) (l0 : List Int) (a1 : Int) (a2 : Int) : Option (Int × (List (S45)) × Bool) :=
  (impl_IsHidden.f k l0).bind fun b1 => if b1 = true then ((impl_in.f a1 0 6).bind fun b2 => if b2 = true then ((impl_in.f a2 0 9999).bind fun b3 => if b3 = true then ((mkRun k l0 a1.toNat a2 []).bind fun r => some ((l0.length : Int), r, true)) else some (0, [], false)) else some (0, [], false)) else some (0, [], false)
theorem mkStep_mono (k : Nat) (t : List Int) (z : Int) (acc : List S45) : LeO (mkStep k t z acc) (mkStep (k + 1) t z acc) := by
  unfold mkStep
  exact LeO.ite (LeO.ite (LeO.refl _) (LeO.bind (impl_told.mono _ _ _ _) (fun _ => LeO.refl _))) (LeO.bind (impl_told.mono _ _ _ _) (fun _ => LeO.refl _))
theorem mkRun_mono (k : Nat) (t : List Int) : ∀ (n : Nat) (z : Int) (acc : List S45), LeO (mkRun k t n z acc) (mkRun (k + 1) t n z acc)
  | 0, _, _ => LeO.refl _
  | n + 1, z, acc => by
    unfold mkRun
    exact LeO.bind (mkStep_mono k t z acc) (fun s => mkRun_mono k t n s.1 s.2)
theorem impl_MakePuzzle.mono : ∀ a0 a1 a2 k, LeO (impl_MakePuzzle.f k a0 a1 a2) (impl_MakePuzzle.f (k + 1) a0 a1 a2) := by
  intro a0 a1 a2 k
  unfold impl_MakePuzzle.f
  exact LeO.bind (impl_IsHidden.mono _ _) (fun _ => LeO.ite (LeO.bind (LeO.refl _) (fun _ => LeO.ite (LeO.bind (LeO.refl _) (fun _ => LeO.ite (LeO.bind (mkRun_mono k a0 _ _ _) (fun _ => LeO.refl _)) (LeO.refl _))) (LeO.refl _))) (LeO.refl _))
theorem mkStep_some {k : Nat} {t : List Int} {z : Int} {acc : List S45} {s : Int × List S45} (h : mkStep k t z acc = some s) : ∃ (z' pe : Int) (c1 c2 c3 : Int), impl_told.f k (Int.tmod (mkNext z) 6) pe t = some (c1, c2, c3) ∧ acc.length < 1000000 ∧ s = (z', acc ++ [⟨c1, c2, c3⟩]) ∧
    ((Int.tmod (mkNext z) 6 = 0 ∨ Int.tmod (mkNext z) 6 = 4) ∧ (t.length : Int) ≠ 0 ∧ z' = mkNext (mkNext z) ∧ pe = Int.tmod (mkNext (mkNext z)) (t.length : Int) ∨ ¬ (Int.tmod (mkNext z) 6 = 0 ∨ Int.tmod (mkNext z) 6 = 4) ∧ z' = mkNext z ∧ pe = 0) := by
  unfold mkStep at h
  by_cases c : Int.tmod (mkNext z) 6 = 0 ∨ Int.tmod (mkNext z) 6 = 4
  · rw [if_pos c] at h
    by_cases c0 : (t.length : Int) = 0
    · rw [if_pos c0] at h; exact absurd h (by simp)
    · rw [if_neg c0] at h
      obtain ⟨⟨x, y, v⟩, h1, h2⟩ := Option.bind_eq_some_iff.mp h
      by_cases cl : acc.length < 1000000
      · rw [if_pos cl] at h2
        exact ⟨_, _, x, y, v, h1, cl, (Option.some.inj h2).symm, .inl ⟨c, c0, rfl, rfl⟩⟩
      · rw [if_neg cl] at h2; exact absurd h2 (by simp)
  · rw [if_neg c] at h
    obtain ⟨⟨x, y, v⟩, h1, h2⟩ := Option.bind_eq_some_iff.mp h
    by_cases cl : acc.length < 1000000
    · rw [if_pos cl] at h2
      exact ⟨_, _, x, y, v, h1, cl, (Option.some.inj h2).symm, .inr ⟨c, rfl, rfl⟩⟩
    · rw [if_neg cl] at h2; exact absurd h2 (by simp)
theorem stored2 {W : World} {g : Nat} {x0 x1 : Value} {t : TypeId} (h : W.heap[g]? = some (.cells #[x0, x1] t (0, 0))) (a b : Value) :
    ((W.setCell ⟨g, 0, none⟩ a).setCell ⟨g, 1, none⟩ b).heap[g]? = some (.cells #[a, b] t (0, 0)) ∧ (∀ k, k ≠ g → ((W.setCell ⟨g, 0, none⟩ a).setCell ⟨g, 1, none⟩ b).heap[k]? = W.heap[k]?) ∧ ∀ w : World, Below w.heap.size w W → w.heap.size ≤ g → Below w.heap.size w ((W.setCell ⟨g, 0, none⟩ a).setCell ⟨g, 1, none⟩ b) := by
  refine ⟨blk_put (cs := #[a, x1]) (blk_put h 0 a rfl) 1 b rfl, fun k hk => ?_, fun w hb hg => below_set (below_set hb hg) hg⟩
  rw [Below.heap_setCell _ ⟨g, 1, none⟩ b k hk, Below.heap_setCell _ ⟨g, 0, none⟩ a k hk]
def impl_MakePuzzle.TB : Bool × List (List Nat × List Nat) := (true, [([], []), ([0], [0]), ([], []), ([], []), ([], []), ([2, 3, 4], [2, 3, 4]), ([5], [5]), ([1, 6, 5], [1, 6]), ([0, 1, 2, 3, 4, 5, 6, 7], []), ([8, 7, 7, 0, 1, 2, 3, 4, 5, 6, 7], [7, 8])])
def impl_MakePuzzle.BB : List Nat := [0, 1, 0, 0, 0, 28, 60, 127, 255, 511]
theorem impl_MakePuzzle.tabB : rtab .any (opsOf Try.f29 11) = impl_MakePuzzle.TB := by kernel_rfl
theorem impl_MakePuzzle.bitsB : waitsOk impl_MakePuzzle.TB.2 impl_MakePuzzle.BB = true := by kernel_rfl
set_option maxHeartbeats 8000000 in
set_option maxRecDepth 100000 in
/-- Where the arguments are wrong. -/
theorem impl_MakePuzzle.fails (k : Nat) (A0 : Option Addr) (c0 : Nat) (l0 : List Int) (a1 : Int) (a2 : Int) (b1 b2 b3 : Bool) (w : World) (hr0 : Kd.C (Kd.int .i64) w A0 l0.length l0) (hc0 : l0.length ≤ c0)
    (h1 : impl_IsHidden.f k l0 = some b1) (h2 : impl_in.f a1 0 6 = some b2) (h3 : impl_in.f a2 0 9999 = some b3) (hb : (b1 && b2 && b3) = false) :
    Calls Try.prog 29 #[.slice A0 l0.length c0, .int .i64 a1, .int .i64 a2] w fun e w' => ∃ v1_ : Value, e = .returned (.tuple #[.agg #[.int .i64 0, v1_], .bool false]) ∧ Kd.R k45 45 w' w.heap.size (fun _ => True) v1_ ([] : List (S45)) ∧ Below w.heap.size w w' := by
  have hu := Try.underlying31
  have A1 := Aside0.mk fun (W : World) (hb : Below w.heap.size w W) => impl_IsHidden.calls k A0 c0 l0 b1 W (Kd.C_below hr0 hb) hc0 h1
  have A2 := Aside0.mk fun (W : World) => impl_in.calls a1 0 6 b2 W h2
  have A3 := Aside0.mk fun (W : World) => impl_in.calls a2 0 9999 b3 W h3
  have HB := Aside0.mk (Below.refl w.heap.size w)
  clear h1 h2 h3 hr0 hc0
  cases b1 <;> cases b2 <;> cases b3 <;> first | (exact absurd hb (by decide)) | skip
  all_goals clear hb
  all_goals go_enter Try.func29, Try.ntmps29
  all_goals go_wp2_with (first | ((with_reducible refine gate_dst (N := 6) rfl ?_); refine box_event ?hg (N := 6) ?hd (cs := #[.int .i64 0, .slice none 0 0]) (t := 31) ?hr ?_; (case hd => rfl); (case hg => rfl); (case hr => first | (go_simp; done) | (go_simp; rfl)); intro gb6 hg w6 hbox hb; have nb_ := Aside0.mk (below_step (by repeat (first | (with_reducible first | exact HB.out | apply below_alloc | apply pw_below_drewN | apply below_drew1) | exact HB.out)) hb); have nc_ := Aside0.mk hbox; have nd_ := Aside0.mk ((by rw [hg]; exact (below_size (by repeat (first | (with_reducible first | exact HB.out | apply below_alloc | apply pw_below_drewN | apply below_drew1) | exact HB.out))) : w.heap.size ≤ gb6)); clear HB hb hbox hg; have HB := nb_; have BK6 := nc_; have GE6 := nd_; clear nb_ nc_ nd_; have hz6_0 := (blk_cell BK6.out 0); have hf6_0 := (blk_frozen BK6.out 0); simp at hz6_0; have hz6_1 := (blk_cell BK6.out 1); have hf6_1 := (blk_frozen BK6.out 1); simp at hz6_1; skip) | (go_at_call 60; refine (A1.out _ (by repeat (first | (with_reducible first | exact HB.out | apply below_alloc | apply pw_below_drewN | apply below_drew1) | exact HB.out))).mono ?_; rintro e w9 ⟨rfl, hb9⟩; have n0_ := Aside0.mk (blk_below (pk BK6.out) hb9); have n1_ := Aside0.mk (below_step (by repeat (first | (with_reducible first | exact HB.out | apply below_alloc | apply pw_below_drewN | apply below_drew1) | exact HB.out)) hb9); clear BK6 HB hb9; have BK6 := n0_; have HB := n1_; clear n0_ n1_; have hy6_0 := (blk_cell BK6.out 0); have hy6_1 := (blk_cell BK6.out 1); have hx6_0 := (blk_frozen BK6.out 0); have hx6_1 := (blk_frozen BK6.out 1); simp at hy6_0; simp at hy6_1) | (go_at_call 66; with_reducible refine (A2.out _).mono ?_; rintro e w' ⟨rfl, ⟨nd, rfl⟩⟩) | (go_at_call 66; with_reducible refine (A3.out _).mono ?_; rintro e w' ⟨rfl, ⟨nd2, rfl⟩⟩))
  all_goals refine bodyPost_ret (results_ct rfl _ _ gb6 31 #[.int .i64 0, .slice none 0 0] (0, 0) _ rfl (by (with_reducible repeat (first | refine blk_drewN ?_ _ | refine blk_drew ?_ | refine blk_alloc ?_ _)); refine blk_put (cs := #[.int .i64 0, .slice none 0 0]) ?_ 1 _ rfl; (with_reducible repeat (first | refine blk_drewN ?_ _ | refine blk_drew ?_ | refine blk_alloc ?_ _)); refine blk_put (cs := #[.int .i64 0, .slice none 0 0]) ?_ 0 _ rfl; (with_reducible repeat (first | refine blk_drewN ?_ _ | refine blk_drew ?_ | refine blk_alloc ?_ _)); exact BK6.out) hu rfl (by kernel_rfl)) rfl ?_
  all_goals exact ⟨_, rfl, Kd.R_nil _ _ _ _ _, by repeat (first | (with_reducible first | exact HB.out | apply below_alloc | apply pw_below_drewN | apply below_drew1 | refine below_set ?_ GE6.out) | exact HB.out)⟩
set_option maxHeartbeats 8000000 in
set_option maxRecDepth 100000 in
/-- Where they are right. -/
theorem impl_MakePuzzle.goes (k : Nat) (A0 : Option Addr) (c0 : Nat) (l0 : List Int) (N : Nat) (a2 : Int) (r : List (S45)) (w : World) (hr0 : Kd.C (Kd.int .i64) w A0 l0.length l0) (hc0 : l0.length ≤ c0)
    (h1 : impl_IsHidden.f k l0 = some true) (h2 : impl_in.f (N : Int) 0 6 = some true) (h3 : impl_in.f a2 0 9999 = some true) (h4 : N ≤ 6) (h : mkRun k l0 N a2 [] = some r) :
    Calls Try.prog 29 #[.slice A0 l0.length c0, .int .i64 (N : Int), .int .i64 a2] w fun e w' => ∃ v1_ : Value, e = .returned (.tuple #[.agg #[.int .i64 (l0.length : Int), v1_], .bool true]) ∧ Kd.R k45 45 w' w.heap.size (fun _ => True) v1_ r ∧ Below w.heap.size w w' := by
  have hu := Try.underlying31
  have HR0 := Aside0.mk hr0
  have HC0 := Aside0.mk hc0
  have A1 := Aside0.mk fun (W : World) (hb : Below w.heap.size w W) => impl_IsHidden.calls k A0 c0 l0 true W (Kd.C_below hr0 hb) hc0 h1
  have A2 := Aside0.mk fun (W : World) => impl_in.calls (N : Int) 0 6 true W h2
  have A3 := Aside0.mk fun (W : World) => impl_in.calls a2 0 9999 true W h3
  have HB := Aside0.mk (Below.refl w.heap.size w)
  have H := Aside0.mk h
  have H4 := Aside0.mk h4
  clear h1 h2 h3 hr0 hc0 h h4
  go_enter Try.func29, Try.ntmps29
  go_upto_region 4 with (first | ((with_reducible refine gate_dst (N := 6) rfl ?_); refine box_event ?hg (N := 6) ?hd (cs := #[.int .i64 0, .slice none 0 0]) (t := 31) ?hr ?_; (case hd => rfl); (case hg => rfl); (case hr => first | (go_simp; done) | (go_simp; rfl)); intro gb6 hg w6 hbox hb; have nb_ := Aside0.mk (below_step (by repeat (first | (with_reducible first | exact HB.out | apply below_alloc | apply pw_below_drewN | apply below_drew1) | exact HB.out)) hb); have nc_ := Aside0.mk hbox; have nd_ := Aside0.mk ((by rw [hg]; exact (below_size (by repeat (first | (with_reducible first | exact HB.out | apply below_alloc | apply pw_below_drewN | apply below_drew1) | exact HB.out))) : w.heap.size ≤ gb6)); clear HB hb hbox hg; have HB := nb_; have BK6 := nc_; have GE6 := nd_; clear nb_ nc_ nd_; have hz6_0 := (blk_cell BK6.out 0); have hf6_0 := (blk_frozen BK6.out 0); simp at hz6_0; have hz6_1 := (blk_cell BK6.out 1); have hf6_1 := (blk_frozen BK6.out 1); simp at hz6_1; skip) | ((with_reducible refine gate_dst (N := 8) rfl ?_); refine box_event ?hg (N := 8) ?hd (cs := #[.int .i64 0]) (t := 3) ?hr ?_; (case hd => rfl); (case hg => rfl); (case hr => first | (go_simp; done) | (go_simp; rfl)); intro gb8 hg w8 hbox hb; have n0_ := Aside0.mk (blk_below (pk BK6.out) hb); have m0_ := Aside0.mk ((by rw [hg]; exact Nat.ne_of_lt (blk_lt (pk BK6.out)) : gb6 ≠ gb8)); have nb_ := Aside0.mk (below_step (by repeat (first | (with_reducible first | exact HB.out | apply below_alloc | apply pw_below_drewN | apply below_drew1) | exact HB.out)) hb); have nc_ := Aside0.mk hbox; have nd_ := Aside0.mk ((by rw [hg]; exact (below_size (by repeat (first | (with_reducible first | exact HB.out | apply below_alloc | apply pw_below_drewN | apply below_drew1) | exact HB.out))) : w.heap.size ≤ gb8)); clear HB hb hbox hg; clear BK6; have BK6 := n0_; have NE6_8 := m0_; have HB := nb_; have BK8 := nc_; have GE8 := nd_; clear nb_ nc_ nd_ n0_ m0_; have hz8_0 := (blk_cell BK8.out 0); have hf8_0 := (blk_frozen BK8.out 0); simp at hz8_0; skip) | (go_at_call 60; refine (A1.out _ (by repeat (first | (with_reducible first | exact HB.out | apply below_alloc | apply pw_below_drewN | apply below_drew1) | exact HB.out))).mono ?_; rintro e w9 ⟨rfl, hb9⟩; have n0_ := Aside0.mk (blk_below (pk BK6.out) hb9); have n1_ := Aside0.mk (below_step (by repeat (first | (with_reducible first | exact HB.out | apply below_alloc | apply pw_below_drewN | apply below_drew1) | exact HB.out)) hb9); clear BK6 HB hb9; have BK6 := n0_; have HB := n1_; clear n0_ n1_; have hy6_0 := (blk_cell BK6.out 0); have hy6_1 := (blk_cell BK6.out 1); have hx6_0 := (blk_frozen BK6.out 0); have hx6_1 := (blk_frozen BK6.out 1); simp at hy6_0; simp at hy6_1) | (go_at_call 66; with_reducible refine (A2.out _).mono ?_; rintro e w' ⟨rfl, ⟨nd, rfl⟩⟩) | (go_at_call 66; with_reducible refine (A3.out _).mono ?_; rintro e w' ⟨rfl, ⟨nd2, rfl⟩⟩))
  have n0_ := Aside0.mk (below_set (v := .int .i64 a2) (j := 0) HB.out GE8.out)
  have n1_ := Aside0.mk (blk_put (cs := #[.int .i64 0]) (cs' := #[.int .i64 a2]) BK8.out 0 (.int .i64 a2) rfl)
  have n2_ := Aside0.mk (blk_far (p := ⟨gb8, 0, none⟩) BK6.out NE6_8.out (.int .i64 a2))
  clear HB BK8 BK6
  have HB := n0_; have BK8 := n1_; have BK6 := n2_
  clear n0_ n1_ n2_ hz8_0 hf8_0
  generalize hW4 : w8.setCell ⟨gb8, 0, none⟩ (.int .i64 a2) = W4 at HB BK8 BK6 ⊢
  clear hW4
  go_upto_region 6 with (first | ((with_reducible refine gate_dst (N := 10) rfl ?_); refine box_event ?hg (N := 10) ?hd (cs := #[.int .i64 0, .slice none 0 0]) (t := 31) ?hr ?_; (case hd => rfl); (case hg => rfl); (case hr => first | (go_simp; done) | (go_simp; rfl)); intro gb10 hg w10 hbox hb; have n0_ := Aside0.mk (blk_below (pk BK6.out) hb); have m0_ := Aside0.mk ((by rw [hg]; exact Nat.ne_of_lt (blk_lt (pk BK6.out)) : gb6 ≠ gb10)); have n1_ := Aside0.mk (blk_below (pk BK8.out) hb); have m1_ := Aside0.mk ((by rw [hg]; exact Nat.ne_of_lt (blk_lt (pk BK8.out)) : gb8 ≠ gb10)); have nb_ := Aside0.mk (below_step (by repeat (first | (with_reducible first | exact HB.out | apply below_alloc | apply pw_below_drewN | apply below_drew1) | exact HB.out)) hb); have nc_ := Aside0.mk hbox; have nd_ := Aside0.mk ((by rw [hg]; exact (below_size (by repeat (first | (with_reducible first | exact HB.out | apply below_alloc | apply pw_below_drewN | apply below_drew1) | exact HB.out))) : w.heap.size ≤ gb10)); clear HB hb hbox hg; clear BK6 BK8; have BK6 := n0_; have NE6_10 := m0_; have BK8 := n1_; have NE8_10 := m1_; have HB := nb_; have BK10 := nc_; have GE10 := nd_; clear nb_ nc_ nd_ n0_ m0_ n1_ m1_; have hz10_0 := (blk_cell BK10.out 0); have hf10_0 := (blk_frozen BK10.out 0); simp at hz10_0; have hz10_1 := (blk_cell BK10.out 1); have hf10_1 := (blk_frozen BK10.out 1); simp at hz10_1; skip))
  have hs10 := stored2 BK10.out (.int .i64 (l0.length : Int)) (.slice none 0 0)
  have n0_ := Aside0.mk (hs10.2.2 w HB.out GE10.out)
  have BO := Aside0.mk hs10.1
  have BZ := Aside0.mk ((hs10.2.1 gb8 NE8_10.out).trans BK8.out)
  have BA := Aside0.mk ((hs10.2.1 gb6 NE6_10.out).trans BK6.out)
  clear HB
  have HB := n0_
  generalize hW5 : (w10.setCell ⟨gb10, 0, none⟩ (.int .i64 (l0.length : Int))).setCell ⟨gb10, 1, none⟩ (.slice none 0 0) = W5 at HB BO BZ BA ⊢
  clear hW5 hs10 n0_ BK10 BK8 BK6 hz10_0 hz10_1 hf10_0 hf10_1
  have NE10_8 := Aside0.mk NE8_10.out.symm
  go_wp2
  go_loopg [33] N (fun gg v33 wr => ∃ (i : Nat) (z : Int) (acc : List (S45)) (u : Value), i ≤ N ∧ N - i ≤ gg ∧ v33 = .int .i64 (i : Int) ∧ Aside0 (mkRun k l0 (N - i) z acc = some r) ∧ Aside0 (Kd.R k45 45 wr w.heap.size (fun _ => True) u acc) ∧ Aside0 (wr.heap[gb8]? = some (.cells #[.int .i64 z] 3 (0, 0))) ∧ Aside0 (wr.heap[gb6]? = some (.cells #[.int .i64 0, .slice none 0 0] 31 (0, 0))) ∧ Aside0 (wr.heap[gb10]? = some (.cells #[.int .i64 (l0.length : Int), u] 31 (0, 0))) ∧ Aside0 (Below w.heap.size w wr))
  case atStart => exact ⟨0, a2, [], .slice none 0 0, Nat.zero_le _, by omega, rfl, H, ⟨Kd.R_nil _ _ _ _ _⟩, ⟨pk BZ.out⟩, ⟨pk BA.out⟩, ⟨pk BO.out⟩, ⟨(by repeat (first | (with_reducible first | exact HB.out | apply below_alloc | apply pw_below_drewN | apply below_drew1) | exact HB.out))⟩⟩
  case round =>
    clear H HB BO BZ BA
    obtain ⟨i, z, acc, u, hi, hg, rfl, H, HO, BZ, BA, BO, HB⟩ := hrel
    obtain ⟨Au, cu, rfl⟩ := Kd.R_slice HO.out
    by_cases hlt : i < N
    · have c1 : decide ((i : Int) < (N : Int)) = true := decide_eq_true (by omega)
      have hw : IntKind.i64.wrap ((i : Int) + 1) = (i : Int) + 1 := IntWalk.i64_in _ ⟨by have := H4.out; omega, by have := H4.out; omega⟩
      have h := H.out
      rw [show N - i = (N - (i + 1)) + 1 by omega] at h
      simp only [mkRun] at h
      obtain ⟨s, hs, h'⟩ := Option.bind_eq_some_iff.mp h
      obtain ⟨z', pe, t1, t2, t3, ht, hal, rfl, hk⟩ := mkStep_some hs
      clear h hs H
      have H := Aside0.mk h'
      have HAL := Aside0.mk hal
      clear h' hal
      have hN1 := fun (W : World) (h : W.heap[gb8]? = some (.cells #[.int .i64 z] 3 (0, 0))) => mkNext_calls gb8 z 6 W h (by decide)
      generalize hz1 : mkNext z = z1 at hN1 hk ht
      have hN2 := fun (W : World) (h : W.heap[gb8]? = some (.cells #[.int .i64 z1] 3 (0, 0))) (hl : (l0.length : Int) ≠ 0) => mkNext_calls gb8 z1 (l0.length : Int) W h hl
      generalize hz2 : mkNext z1 = z2 at hN2 hk
      generalize hkd : Int.tmod z1 6 = kd at hN1 hk ht
      simp only [List.append_toArray, List.cons_append, List.nil_append] at hN1 hN2
      have N1 := Aside0.mk hN1
      have N2 := Aside0.mk hN2
      have HT := Aside0.mk fun (W : World) (hb : Below w.heap.size w W) => impl_told.calls k kd pe A0 c0 l0 t1 t2 t3 W (Kd.C_below HR0.out hb) HC0.out ht
      have HK := Aside0.mk hk
      clear hN1 hN2 hz1 hz2 hkd ht hk
      go_upto_region 9 with (first | (refine (N1.out _ (pk BZ.out)).mono ?_; rintro e w8 ⟨rfl, hbz, hsz, hfr, hbl⟩; have n0_ := Aside0.mk hbz; have n1_ := Aside0.mk ((hfr gb6 NE6_8.out (blk_lt (pk BA.out))).trans (pk BA.out)); have n2_ := Aside0.mk ((hfr gb10 NE10_8.out (blk_lt (pk BO.out))).trans (pk BO.out)); have n3_ := Aside0.mk (Kd.R_mono (Kd.R_step (Kd.R_types (Kd.pR HO.out) (pk BZ.out) (by decide)) (fun k_ hk_ hl_ => hfr k_ hk_.2 hl_)) (fun _ _ => trivial)); have n4_ := Aside0.mk (hbl w (by repeat (first | (with_reducible first | exact HB.out | apply below_alloc | apply pw_below_drewN | apply below_drew1) | exact HB.out)) GE8.out); clear BZ BA BO HO HB hbz hsz hfr hbl; have BZ := n0_; have BA := n1_; have BO := n2_; have HO := n3_; have HB := n4_; clear n0_ n1_ n2_ n3_ n4_))
      (try simp only [Act.put, List.setIfInBounds_toArray, List.set_cons_zero, List.set_cons_succ])
      obtain ⟨b04, hb04⟩ : ∃ b : Bool, b = decide (kd = 0 ∨ kd = 4) := ⟨_, rfl⟩
      have HBB := Aside0.mk hb04
      clear hb04
      go_cut [42] (fun v42 wc => v42 = .bool b04 ∧ Aside0 (Kd.R k45 45 wc w.heap.size (fun _ => True) (.slice Au acc.length cu) acc) ∧ Aside0 (wc.heap[gb8]? = some (.cells #[.int .i64 z1] 3 (0, 0))) ∧ Aside0 (wc.heap[gb6]? = some (.cells #[.int .i64 0, .slice none 0 0] 31 (0, 0))) ∧ Aside0 (wc.heap[gb10]? = some (.cells #[.int .i64 (l0.length : Int), .slice Au acc.length cu] 31 (0, 0))) ∧ Aside0 (Below w.heap.size w wc))
      case first =>
        have hb04 := HBB.out
        clear HT N1 N2 HK HBB
        by_cases h0 : kd = 0
        · have k0 : (kd == 0) = true := beq_iff_eq.mpr h0
          obtain rfl : b04 = true := by rw [hb04, decide_eq_true (Or.inl h0)]
          clear h0 hb04
          go_wp2
          go_meet
          case rel => exact ⟨by first | rfl | (simp; done) | (simp [*]; done), ⟨Kd.pR HO.out⟩, ⟨pk BZ.out⟩, ⟨pk BA.out⟩, ⟨pk BO.out⟩, ⟨(by repeat (first | (with_reducible first | exact HB.out | apply below_alloc | apply pw_below_drewN | apply below_drew1) | exact HB.out))⟩⟩
        · have k0 : (kd == 0) = false := beq_eq_false_iff_ne.mpr h0
          by_cases h4 : kd = 4
          · have k4 : (kd == 4) = true := beq_iff_eq.mpr h4
            obtain rfl : b04 = true := by rw [hb04, decide_eq_true (Or.inr h4)]
            clear h0 h4 hb04
            go_wp2
            go_meet
            case rel => exact ⟨by first | rfl | (simp; done) | (simp [*]; done), ⟨Kd.pR HO.out⟩, ⟨pk BZ.out⟩, ⟨pk BA.out⟩, ⟨pk BO.out⟩, ⟨(by repeat (first | (with_reducible first | exact HB.out | apply below_alloc | apply pw_below_drewN | apply below_drew1) | exact HB.out))⟩⟩
          · have k4 : (kd == 4) = false := beq_eq_false_iff_ne.mpr h4
            obtain rfl : b04 = false := by rw [hb04, decide_eq_false (fun e => e.elim h0 h4)]
            clear h0 h4 hb04
            go_wp2
            go_meet
            case rel => exact ⟨by first | rfl | (simp; done) | (simp [*]; done), ⟨Kd.pR HO.out⟩, ⟨pk BZ.out⟩, ⟨pk BA.out⟩, ⟨pk BO.out⟩, ⟨(by repeat (first | (with_reducible first | exact HB.out | apply below_alloc | apply pw_below_drewN | apply below_drew1) | exact HB.out))⟩⟩
      clear HO BZ BA BO HB
      obtain ⟨rfl, HO, BZ, BA, BO, HB⟩ := hcut
      go_upto_if 42 with (fail)
      go_cut [12] (fun v12 wc => v12 = .int .i64 pe ∧ Aside0 (Kd.R k45 45 wc w.heap.size (fun _ => True) (.slice Au acc.length cu) acc) ∧ Aside0 (wc.heap[gb8]? = some (.cells #[.int .i64 z'] 3 (0, 0))) ∧ Aside0 (wc.heap[gb6]? = some (.cells #[.int .i64 0, .slice none 0 0] 31 (0, 0))) ∧ Aside0 (wc.heap[gb10]? = some (.cells #[.int .i64 (l0.length : Int), .slice Au acc.length cu] 31 (0, 0))) ∧ Aside0 (Below w.heap.size w wc))
      case first =>
        obtain ⟨h04, hl, rfl, rfl⟩ | ⟨h04, rfl, rfl⟩ := HK.out
        · obtain rfl : b04 = true := by rw [HBB.out, decide_eq_true h04]
          clear h04 HK HT N1 HBB
          go_wp2_with (first | (refine (N2.out _ (pk BZ.out) hl).mono ?_; rintro e w12 ⟨rfl, hbz, hsz, hfr, hbl⟩; have n0_ := Aside0.mk hbz; have n1_ := Aside0.mk ((hfr gb6 NE6_8.out (blk_lt (pk BA.out))).trans (pk BA.out)); have n2_ := Aside0.mk ((hfr gb10 NE10_8.out (blk_lt (pk BO.out))).trans (pk BO.out)); have n3_ := Aside0.mk (Kd.R_mono (Kd.R_step (Kd.R_types (Kd.pR HO.out) (pk BZ.out) (by decide)) (fun k_ hk_ hl_ => hfr k_ hk_.2 hl_)) (fun _ _ => trivial)); have n4_ := Aside0.mk (hbl w (by repeat (first | (with_reducible first | exact HB.out | apply below_alloc | apply pw_below_drewN | apply below_drew1) | exact HB.out)) GE8.out); clear BZ BA BO HO HB hbz hsz hfr hbl; have BZ := n0_; have BA := n1_; have BO := n2_; have HO := n3_; have HB := n4_; clear n0_ n1_ n2_ n3_ n4_))
          go_meet
          case rel => exact ⟨by first | rfl | (simp; done) | (simp [*]; done), ⟨Kd.pR HO.out⟩, ⟨pk BZ.out⟩, ⟨pk BA.out⟩, ⟨pk BO.out⟩, ⟨(by repeat (first | (with_reducible first | exact HB.out | apply below_alloc | apply pw_below_drewN | apply below_drew1) | exact HB.out))⟩⟩
        · obtain rfl : b04 = false := by rw [HBB.out, decide_eq_false h04]
          clear h04 HK HT N1 HBB
          go_wp2
          go_meet
          case rel => exact ⟨by first | rfl | (simp; done) | (simp [*]; done), ⟨Kd.pR HO.out⟩, ⟨pk BZ.out⟩, ⟨pk BA.out⟩, ⟨pk BO.out⟩, ⟨(by repeat (first | (with_reducible first | exact HB.out | apply below_alloc | apply pw_below_drewN | apply below_drew1) | exact HB.out))⟩⟩
      clear HO BZ BA BO HB HK N1 N2 HBB
      obtain ⟨rfl, HO, BZ, BA, BO, HB⟩ := hcut
      try go_wp2
      have n0_ := Aside0.mk (Kd.R_drew HO.out)
      have n1_ := Aside0.mk (blk_drew BA.out)
      have n2_ := Aside0.mk (blk_drew BO.out)
      have n3_ := Aside0.mk (below_drew1 HB.out)
      have n4_ := Aside0.mk (blk_drew BZ.out)
      clear HO BA BO HB BZ
      have HO := n0_; have BA := n1_; have BO := n2_; have HB := n3_; have BZ := n4_
      clear n0_ n1_ n2_ n3_ n4_
      refine start_ (n := 10) (S := fun w' => w'.cell? ⟨gb10, 0, none⟩ = some (.int .i64 (l0.length : Int)) ∧ w'.cell? ⟨gb10, 1, none⟩ = some (.slice Au acc.length cu)) (ds := [9]) #[false, false, false, false, false, false, false, false, false, false] (by kernel_rfl) rfl rfl ⟨(blk_cell BO.out 0).trans rfl, (blk_cell BO.out 1).trans rfl⟩ (fun hHeld => ?_); refine with_tabW impl_MakePuzzle.tabB impl_MakePuzzle.bitsB (fun HT_ HW_ => ?_)
      generalize wc.drew = w32 at HO BA BO HB BZ hHeld ⊢
      refine pure_ (i := 0) (N := some 47) (v := ?_) (a' := ?_) #[true, false, false, false, false, false, false, false, false, false] rfl rfl (any_of HT_.out (by kernel_rfl)) (fun _ _ _ h => h) (Or.inl ⟨by rfl, ?_⟩) ?_ ?_
      rotate_left
      · intro w'
        go_simp
        with_reducible rfl
      rotate_left
      · simp only [Act.put, List.setIfInBounds_toArray, List.set_cons_zero, List.set_cons_succ, i64_w, i32_w]
        rfl
      refine pure_ (i := 2) (N := some 49) (v := ?_) (a' := ?_) #[true, false, true, false, false, false, false, false, false, false] rfl rfl (any_of HT_.out (by kernel_rfl)) (fun _ _ _ h => h) (Or.inl ⟨by rfl, ?_⟩) ?_ ?_
      rotate_left
      · intro w'
        go_simp
        with_reducible rfl
      rotate_left
      · simp only [Act.put, List.setIfInBounds_toArray, List.set_cons_zero, List.set_cons_succ, i64_w, i32_w]
        rfl
      refine pure_ (i := 3) (N := some 50) (v := ?_) (a' := ?_) #[true, false, true, true, false, false, false, false, false, false] rfl rfl (any_of HT_.out (by kernel_rfl)) (fun _ _ _ h => h) (Or.inl ⟨by rfl, ?_⟩) ?_ ?_
      rotate_left
      · intro w'
        go_simp
        with_reducible rfl
      rotate_left
      · simp only [Act.put, List.setIfInBounds_toArray, List.set_cons_zero, List.set_cons_succ, i64_w, i32_w]
        rfl
      refine pure_ (i := 4) (N := some 51) (v := ?_) (a' := ?_) #[true, false, true, true, true, false, false, false, false, false] rfl rfl (any_of HT_.out (by kernel_rfl)) (fun _ _ _ h => h) (Or.inl ⟨by rfl, ?_⟩) ?_ ?_
      rotate_left
      · intro w'
        go_simp
        with_reducible rfl
      rotate_left
      · simp only [Act.put, List.setIfInBounds_toArray, List.set_cons_zero, List.set_cons_succ, i64_w, i32_w]
        rfl
      refine take_ (i := 1) (N := some 48) (v := ?_) (a' := ?_) #[true, true, true, true, true, false, false, false, false, false] rfl rfl (take_ofW HT_.out HW_.out (by kernel_rfl)) (fun _ _ _ h => h) (Or.inl ⟨by rfl, ?_⟩) hHeld ?_ ?_
      rotate_left
      · rintro w' ⟨s0, s1⟩
        go_simp
        with_reducible rfl
      rotate_left
      · simp only [Act.put, List.setIfInBounds_toArray, List.set_cons_zero, List.set_cons_succ, i64_w, i32_w]
        rfl
      refine one_ (i := 5) (N := some 52) #[true, true, true, true, true, true, false, false, false, false] rfl rfl (one_of HT_.out (by kernel_rfl)) (by decide) (fun K hK => ?_)
      refine goes_ Try.func68 (by kernel_rfl) rfl #[.int .i64 kd, .int .i64 pe, .slice A0 l0.length c0] (by rfl) rfl rfl (by (try simp only [List.map_toArray, List.map_cons, List.map_nil]); first | done | rfl | (simp only [List.length_drop, List.length_take]; rfl)) ?_
      refine (HT.out _ HB.out).mono ?_
      rintro e w33 ⟨rfl, hb⟩
      refine ⟨_, rfl, ?_⟩
      have n0_ := Aside0.mk (Kd.R_below HO.out hb)
      have n1_ := Aside0.mk (blk_below BA.out hb)
      have n2_ := Aside0.mk (blk_below BO.out hb)
      have n3_ := Aside0.mk (below_step HB.out hb)
      have n4_ := Aside0.mk (blk_below BZ.out hb)
      clear HO BA BO HB BZ hb
      have HO := n0_; have BA := n1_; have BO := n2_; have HB := n3_; have BZ := n4_
      clear n0_ n1_ n2_ n3_ n4_
      refine hK.out _ _ ⟨(blk_cell BO.out 0).trans rfl, (blk_cell BO.out 1).trans rfl⟩ (fun hHeld => ?_)
      clear hK K
      refine norm_ (a' := ?_) ?_ ?_
      rotate_left
      · show Act.put _ (some 52) _ = _
        simp only [Act.put, List.setIfInBounds_toArray, List.set_cons_zero, List.set_cons_succ, i64_w, i32_w]
        rfl
      refine one_ (i := 6) (N := some 53) #[true, true, true, true, true, true, true, false, false, false] rfl rfl (one_of HT_.out (by kernel_rfl)) (by decide) (fun K hK => ?_)
      refine value_ (w1 := ?_) (v := ?_) (by rfl) rfl ?_ ?_
      rotate_left 2
      · go_simp
        constructor
        · rfl
        · rfl
      refine hK.out _ _ ⟨(blk_cell (blk_alloc BO.out _) 0).trans rfl, (blk_cell (blk_alloc BO.out _) 1).trans rfl⟩ (fun hHeld => ?_)
      clear hK K
      refine norm_ (a' := ?_) ?_ ?_
      rotate_left
      · show Act.put _ (some 53) _ = _
        simp only [Act.put, List.setIfInBounds_toArray, List.set_cons_zero, List.set_cons_succ, i64_w, i32_w]
        rfl
      refine one_ (i := 7) (N := some 54) #[true, true, true, true, true, true, true, true, false, false] rfl rfl (one_of HT_.out (by kernel_rfl)) (by decide) (fun K hK => ?_)
      refine Kd.R_append_step k45 (w0 := w) w.heap.size (by rfl) (.tmp 48) (.tmp 53) 29 45 (.agg #[(.int .i64 0), (.int .i64 0), (.int .i64 0)]) 24 rfl Try.underlying29 info45 rfl (by decide) (by omega) (.slice Au acc.length cu) acc (⟨t1, t2, t3⟩ : S45) [.int .i64 t1, .int .i64 t2, .int .i64 t3] (fun _ => True) (fun _ => False) rfl rfl ?aP (fun _ hk => hk.elim) ?aF ?aO ?aB ?aS ?aL ?_
      (case aP => exact k45_mkM _ _ _ (⟨t1, t2, t3⟩ : S45))
      (case aB => exact HB.out)
      (case aF => exact (fun _ _ => trivial))
      (case aO => exact HO.out)
      (case aS => exact (below_size HB.out))
      (case aL => have := HAL.out; omega)
      intro v345 w27 ho hb hg hat
      have n0_ := Aside0.mk (blk_grown (pk BA.out) hg (Kd.R_ne HO.out BA.out (by decide)))
      have n1_ := Aside0.mk (blk_grown (pk BO.out) hg (Kd.R_ne HO.out BO.out (by decide)))
      have n2_ := Aside0.mk hb
      have n3_ := Aside0.mk ho
      have n4_ := Aside0.mk (blk_grown (pk BZ.out) hg (Kd.R_ne HO.out BZ.out (by decide)))
      clear BA BO HB HO BZ ho hb hg hat
      have BA := n0_; have BO := n1_; have HB := n2_; have HO := n3_; have BZ := n4_
      clear n0_ n1_ n2_ n3_ n4_
      obtain ⟨Ao, co, eo⟩ := Kd.R_slice HO.out
      subst eo
      refine hK.out _ _ ⟨(blk_cell BO.out 0).trans rfl, (blk_cell BO.out 1).trans rfl⟩ (fun hHeld => ?_)
      clear hK K
      refine norm_ (a' := ?_) ?_ ?_
      rotate_left
      · show Act.put _ (some 54) _ = _
        simp only [Act.put, List.setIfInBounds_toArray, List.set_cons_zero, List.set_cons_succ, i64_w, i32_w]
        rfl
      refine pure_ (i := 8) (N := some 55) (v := ?_) (a' := ?_) #[true, true, true, true, true, true, true, true, true, false] rfl rfl (any_of HT_.out (by kernel_rfl)) (fun _ _ _ h => h) (Or.inl ⟨by rfl, ?_⟩) ?_ ?_
      rotate_left
      · intro w'
        go_simp
        with_reducible rfl
      rotate_left
      · simp only [Act.put, List.setIfInBounds_toArray, List.set_cons_zero, List.set_cons_succ, i64_w, i32_w]
        rfl
      refine last_ (i := 9) (N := none) #[true, true, true, true, true, true, true, true, true, true] rfl rfl (one_of HT_.out (by kernel_rfl)) (by decide) (fun K hK => ?_)
      have hs29 : w27.cell? ⟨gb10, 1, none⟩ = some (.slice Au acc.length cu) := (blk_cell BO.out 1).trans rfl
      have hfs29 := blk_frozen BO.out 1
      refine skip_ (w1 := ?_) (by rfl) rfl ?_ ?_
      rotate_left
      · go_simp
        rfl
      refine hK.out _ _ ?_
      clear hK K
      refine done_ (done_of HT_.out (by kernel_rfl)) ?_
      try go_wp2
      go_roundg (N - (i + 1))
      case measure => omega
      case rel => exact ⟨i + 1, z', acc ++ [⟨t1, t2, t3⟩], .slice Ao (acc.length + 1) co, by omega, by omega, (by first | rfl | (simp; done) | (simp [*]; done)), H, ⟨by (with_reducible repeat (first | apply Kd.R_alloc | apply Kd.R_drewN | apply Kd.R_drew)); have h_ : Kd.R k45 45 _ w.heap.size (fun _ => True) (.slice Ao (acc ++ [(⟨t1, t2, t3⟩ : S45)]).length co) (acc ++ [(⟨t1, t2, t3⟩ : S45)]) := Kd.R_mono (Kd.R_far (p := ⟨gb10, 1, none⟩) (Kd.R_types HO.out BO.out (by decide)) (fun _ hk => hk.2) (.slice Ao (acc.length + 1) co)) (fun _ _ => trivial); rw [List.length_append, List.length_singleton] at h_; exact h_⟩, ⟨by (with_reducible repeat (first | refine blk_drewN ?_ _ | refine blk_drew ?_ | refine blk_alloc ?_ _)); refine blk_far ?_ NE8_10.out _; (with_reducible repeat (first | refine blk_drewN ?_ _ | refine blk_drew ?_ | refine blk_alloc ?_ _)); exact BZ.out⟩, ⟨by (with_reducible repeat (first | refine blk_drewN ?_ _ | refine blk_drew ?_ | refine blk_alloc ?_ _)); refine blk_far ?_ NE6_10.out _; (with_reducible repeat (first | refine blk_drewN ?_ _ | refine blk_drew ?_ | refine blk_alloc ?_ _)); exact BA.out⟩, ⟨by (with_reducible repeat (first | refine blk_drewN ?_ _ | refine blk_drew ?_ | refine blk_alloc ?_ _)); refine blk_put (cs := #[.int .i64 (l0.length : Int), .slice Au acc.length cu]) ?_ 1 _ rfl; (with_reducible repeat (first | refine blk_drewN ?_ _ | refine blk_drew ?_ | refine blk_alloc ?_ _)); exact BO.out⟩, ⟨by repeat (first | (with_reducible first | exact HB.out | apply below_alloc | apply pw_below_drewN | apply below_drew1 | refine below_set ?_ GE10.out) | exact HB.out)⟩⟩
    · obtain rfl : i = N := by omega
      have c1 : decide ((i : Int) < (i : Int)) = false := decide_eq_false (by omega)
      have h := H.out
      rw [Nat.sub_self] at h
      obtain rfl := Option.some.inj h
      clear h
      have hz6_0 := (blk_cell BA.out 0)
      have hz6_1 := (blk_cell BA.out 1)
      have hf6_0 := (blk_frozen BA.out 0)
      have hf6_1 := (blk_frozen BA.out 1)
      have hz10_0 := (blk_cell BO.out 0)
      have hz10_1 := (blk_cell BO.out 1)
      simp at hz6_0
      simp at hz6_1
      simp at hz10_0
      simp at hz10_1
      go_wp2
      refine bodyPost_ret (results_ct rfl _ _ gb6 31 #[.int .i64 (l0.length : Int), .slice Au acc.length cu] (0, 0) _ rfl (by (with_reducible repeat (first | refine blk_drewN ?_ _ | refine blk_drew ?_ | refine blk_alloc ?_ _)); refine blk_put (cs := #[.int .i64 (l0.length : Int), .slice none 0 0]) ?_ 1 _ rfl; (with_reducible repeat (first | refine blk_drewN ?_ _ | refine blk_drew ?_ | refine blk_alloc ?_ _)); refine blk_put (cs := #[.int .i64 0, .slice none 0 0]) ?_ 0 _ rfl; (with_reducible repeat (first | refine blk_drewN ?_ _ | refine blk_drew ?_ | refine blk_alloc ?_ _)); exact BA.out) hu rfl (by kernel_rfl)) rfl ?_
      exact ⟨_, rfl, (by (with_reducible repeat (first | apply Kd.R_alloc | apply Kd.R_drewN | apply Kd.R_drew)); exact Kd.R_set (Kd.R_set HO.out BA.out (by decide) 0 _) (blk_put (cs := #[.int .i64 0, .slice none 0 0]) BA.out 0 _ rfl) (by decide) 1 _), by repeat (first | (with_reducible first | exact HB.out | apply below_alloc | apply pw_below_drewN | apply below_drew1 | refine below_set ?_ GE6.out) | exact HB.out)⟩
theorem impl_MakePuzzle.calls (k : Nat) (A0 : Option Addr) (c0 : Nat) (l0 : List Int) (a1 : Int) (a2 : Int) (r1 : Int) (r2 : List (S45)) (r3 : Bool) (w : World) (hr0 : Kd.C (Kd.int .i64) w A0 l0.length l0) (hc0 : l0.length ≤ c0) (h : impl_MakePuzzle.f k l0 a1 a2 = some (r1, r2, r3)) :
    Calls Try.prog 29 #[.slice A0 l0.length c0, .int .i64 a1, .int .i64 a2] w fun e w' => ∃ v1_ : Value, e = .returned (.tuple #[.agg #[.int .i64 r1, v1_], .bool r3]) ∧ Kd.R k45 45 w' w.heap.size (fun _ => True) v1_ r2 ∧ Below w.heap.size w w' := by
  obtain ⟨b2, h2⟩ : ∃ b, impl_in.f a1 0 6 = some b := by rw [impl_in.f_eq]; exact ⟨_, rfl⟩
  obtain ⟨b3, h3⟩ : ∃ b, impl_in.f a2 0 9999 = some b := by rw [impl_in.f_eq]; exact ⟨_, rfl⟩
  obtain ⟨b1, h1, g⟩ := Option.bind_eq_some_iff.mp h
  clear h
  rw [h2, h3, Option.bind_some, Option.bind_some] at g
  by_cases hb : (b1 && b2 && b3) = true
  · simp only [Bool.and_eq_true] at hb
    obtain ⟨⟨rfl, rfl⟩, rfl⟩ := hb
    rw [if_pos rfl, if_pos rfl, if_pos rfl] at g
    obtain ⟨r, g1, g2⟩ := Option.bind_eq_some_iff.mp g
    obtain ⟨rfl, rfl, rfl⟩ : (l0.length : Int) = r1 ∧ r = r2 ∧ true = r3 := by simpa using g2
    have e2 := h2
    rw [impl_in.f_eq] at e2
    have e3 := Option.some.inj e2
    simp only [Bool.and_eq_true, decide_eq_true_eq] at e3
    obtain ⟨N, rfl⟩ : ∃ N : Nat, a1 = (N : Int) := ⟨a1.toNat, by omega⟩
    exact impl_MakePuzzle.goes k A0 c0 l0 N a2 r w hr0 hc0 h1 h2 h3 (by omega) (by simpa using g1)
  · have hb' : (b1 && b2 && b3) = false := by simpa using hb
    have g' : (0, ([] : List (S45)), false) = (r1, r2, r3) := by
      cases b1 <;> cases b2 <;> cases b3 <;> first | exact absurd rfl hb | exact Option.some.inj (by simpa using g)
    obtain ⟨rfl, rfl, rfl⟩ : (0 : Int) = r1 ∧ ([] : List (S45)) = r2 ∧ false = r3 := by simpa using g'
    exact impl_MakePuzzle.fails k A0 c0 l0 a1 a2 b1 b2 b3 w hr0 hc0 h1 h2 h3 hb'

/-! ### laws_heldClueS: function 69 -/
def laws_heldClueS.l0 : Nat → List (S45) → Int → Int → Option (Int)
  | 0, _, _, _ => none
  | k + 1, x0, x1, x5 => if x5 < (x0.length : Int) then (if 0 ≤ x5 then (if ((rd_T45 x0 x5).f0) = x1 then (if ((rd_T45 x0 x5).f1) = (wrap64 (x1 + 1)) then (if ((rd_T45 x0 x5).f2) = (wrap64 ((wrap64 (x1 + 1)) + 1)) then (laws_heldClueS.l0 k x0 (wrap64 ((wrap64 ((wrap64 (x1 + 1)) + 1)) + 1)) (wrap64 (x5 + 1))) else (some (-1))) else (some (-1))) else (some (-1))) else (none)) else (some x1)
def laws_heldClueS.f (k : Nat) (l0 : List (S45)) (a1 : Int) : Option (Int) := laws_heldClueS.l0 k l0 a1 0
theorem laws_heldClueS.mono_l : ∀ k, (∀ y0 y1 y2, LeO (laws_heldClueS.l0 k y0 y1 y2) (laws_heldClueS.l0 (k + 1) y0 y1 y2))
  | 0 => fun _ _ _ r h => by simp [laws_heldClueS.l0] at h
  | k + 1 => by
    have ih0 := laws_heldClueS.mono_l k
    · intro y0 y1 y2
      unfold laws_heldClueS.l0
      repeat' first
      | (with_reducible exact ih0 _ _ _)
      | (with_reducible exact LeO.refl _)
      | (with_reducible exact LeO.none _)
      | (with_reducible refine LeO.ite ?_ ?_)
      | (with_reducible refine LeO.bind ?_ (fun _ => ?_))
      | exact ih0 _ _ _
      | exact LeO.none _
      | refine LeO.ite ?_ ?_
      | refine LeO.bind ?_ (fun _ => ?_)
theorem laws_heldClueS.mono : ∀ a0 a1 k, LeO (laws_heldClueS.f k a0 a1) (laws_heldClueS.f (k + 1) a0 a1) := by
  intro a0 a1 k
  have ih0 := laws_heldClueS.mono_l k
  unfold laws_heldClueS.f
  repeat' first
      | (with_reducible exact ih0 _ _ _)
      | (with_reducible exact LeO.refl _)
      | (with_reducible exact LeO.none _)
      | (with_reducible refine LeO.ite ?_ ?_)
      | (with_reducible refine LeO.bind ?_ (fun _ => ?_))
      | exact ih0 _ _ _
      | exact LeO.none _
      | refine LeO.ite ?_ ?_
      | refine LeO.bind ?_ (fun _ => ?_)
set_option maxHeartbeats 8000000 in
set_option maxRecDepth 100000 in
theorem laws_heldClueS.calls (k : Nat) (A0 : Option Addr) (c0 : Nat) (l0 : List (S45)) (a1 : Int) (r : Int) (w : World) (hr0 : Kd.C k45 w A0 l0.length l0) (hc0 : l0.length ≤ c0) (h : laws_heldClueS.f k l0 a1 = some r) :
    Calls Try.prog 69 #[.slice A0 l0.length c0, .int .i64 a1] w fun e w' => e = .returned (.int .i64 r) ∧ Drawn0 w w' := by
  have HR0 := Aside0.mk hr0
  have HC0 := Aside0.mk hc0
  clear hr0 hc0
  have H : (laws_heldClueS.l0 k l0 a1 0) = some r := h
  clear h
  have H' := Aside0.mk H
  clear H
  go_enter Try.func69, Try.ntmps69
  go_wp2
  go_loopg [1, 5] k (fun kq v1 v5 w' => ∃ (x1_1 : Int) (x5_1 : Int), v1 = .int .i64 x1_1 ∧ v5 = .int .i64 x5_1 ∧ Aside0 (laws_heldClueS.l0 kq l0 x1_1 x5_1 = some r) ∧ Aside0 (kq ≤ k) ∧ Drawn0 w w')
  case atStart => exact ⟨(a1), (0), (by first | rfl | (simp; done) | (simp [*]; done)), (by first | rfl | (simp; done) | (simp [*]; done)), H', ⟨Nat.le_refl _⟩, by repeat (first | exact Drawn0.refl _ | apply Drawn0.step)⟩
  case round =>
    clear H'
    try clear p2
    obtain ⟨x1_1, x5_1, rfl, rfl, HA, HK1, ⟨m1, rfl⟩⟩ := hrel
    cases gk with
    | zero => exact absurd HA.out (by simp [laws_heldClueS.l0])
    | succ k1 =>
      have H := HA.out
      clear HA
      simp only [laws_heldClueS.l0] at H
      by_cases c3 : x5_1 < (l0.length : Int)
      · rw [if_pos c3] at H
        have c3b0 : decide (x5_1 < (l0.length : Int)) = true := decide_eq_true c3
        clear c3
        by_cases c4 : 0 ≤ x5_1
        · rw [if_pos c4] at H
          have c4b0 : decide (0 ≤ x5_1) = true := decide_eq_true c4
          clear c4
          by_cases c5 : ((rd_T45 l0 x5_1).f0) = x1_1
          · rw [if_pos c5] at H
            have c5b0 : (((rd_T45 l0 x5_1).f0) == x1_1) = true := beq_iff_eq.mpr c5
            have c5b1 : (((rd_T45 l0 x5_1).f0) != x1_1) = false := bne_eq_false_iff_eq.mpr c5
            clear c5
            by_cases c6 : ((rd_T45 l0 x5_1).f1) = (wrap64 (x1_1 + 1))
            · rw [if_pos c6] at H
              have c6b0 : (((rd_T45 l0 x5_1).f1) == (wrap64 (x1_1 + 1))) = true := beq_iff_eq.mpr c6
              have c6b1 : (((rd_T45 l0 x5_1).f1) != (wrap64 (x1_1 + 1))) = false := bne_eq_false_iff_eq.mpr c6
              clear c6
              by_cases c7 : ((rd_T45 l0 x5_1).f2) = (wrap64 ((wrap64 (x1_1 + 1)) + 1))
              · rw [if_pos c7] at H
                have c7b0 : (((rd_T45 l0 x5_1).f2) == (wrap64 ((wrap64 (x1_1 + 1)) + 1))) = true := beq_iff_eq.mpr c7
                have c7b1 : (((rd_T45 l0 x5_1).f2) != (wrap64 ((wrap64 (x1_1 + 1)) + 1))) = false := bne_eq_false_iff_eq.mpr c7
                clear c7
                have H' := Aside0.mk H
                clear H
                have p480 : 0 ≤ (x5_1 : Int) := of_decide_eq_true (by first | (with_reducible assumption) | assumption)
                have q480 : x5_1 < (l0.length : Int) := of_decide_eq_true (by first | (with_reducible assumption) | assumption)
                obtain ⟨ad480, e480, hx480_0, hx480_1, hx480_2⟩ := at_T45 HR0.out x5_1 p480 q480
                cases e480
                replace p480 := eq_true p480
                replace q480 := eq_true q480
                have p481 : 0 ≤ (x5_1 : Int) := of_decide_eq_true (by first | (with_reducible assumption) | assumption)
                have q481 : x5_1 < (l0.length : Int) := of_decide_eq_true (by first | (with_reducible assumption) | assumption)
                obtain ⟨ad481, e481, hx481_0, hx481_1, hx481_2⟩ := at_T45 HR0.out x5_1 p481 q481
                obtain rfl : ad480 = ad481 := (by injection e481)
                replace p481 := eq_true p481
                replace q481 := eq_true q481
                have p482 : 0 ≤ (x5_1 : Int) := of_decide_eq_true (by first | (with_reducible assumption) | assumption)
                have q482 : x5_1 < (l0.length : Int) := of_decide_eq_true (by first | (with_reducible assumption) | assumption)
                obtain ⟨ad482, e482, hx482_0, hx482_1, hx482_2⟩ := at_T45 HR0.out x5_1 p482 q482
                obtain rfl : ad480 = ad482 := (by injection e482)
                replace p482 := eq_true p482
                replace q482 := eq_true q482
                go_wp2
                go_roundg k1
                case measure => have := HK1.out; omega
                case rel => exact ⟨(wrap64 ((wrap64 ((wrap64 (x1_1 + 1)) + 1)) + 1)), (wrap64 (x5_1 + 1)), (by first | rfl | (simp; done) | (simp [*]; done)), (by first | rfl | (simp; done) | (simp [*]; done)), H', ⟨by have := HK1.out; omega⟩, by repeat (first | exact Drawn0.refl _ | apply Drawn0.step)⟩
              · rw [if_neg c7] at H
                have c7b0 : (((rd_T45 l0 x5_1).f2) == (wrap64 ((wrap64 (x1_1 + 1)) + 1))) = false := beq_eq_false_iff_ne.mpr c7
                have c7b1 : (((rd_T45 l0 x5_1).f2) != (wrap64 ((wrap64 (x1_1 + 1)) + 1))) = true := bne_iff_ne.mpr c7
                obtain rfl := Option.some.inj H
                have p480 : 0 ≤ (x5_1 : Int) := of_decide_eq_true (by first | (with_reducible assumption) | assumption)
                have q480 : x5_1 < (l0.length : Int) := of_decide_eq_true (by first | (with_reducible assumption) | assumption)
                obtain ⟨ad480, e480, hx480_0, hx480_1, hx480_2⟩ := at_T45 HR0.out x5_1 p480 q480
                cases e480
                replace p480 := eq_true p480
                replace q480 := eq_true q480
                have p481 : 0 ≤ (x5_1 : Int) := of_decide_eq_true (by first | (with_reducible assumption) | assumption)
                have q481 : x5_1 < (l0.length : Int) := of_decide_eq_true (by first | (with_reducible assumption) | assumption)
                obtain ⟨ad481, e481, hx481_0, hx481_1, hx481_2⟩ := at_T45 HR0.out x5_1 p481 q481
                obtain rfl : ad480 = ad481 := (by injection e481)
                replace p481 := eq_true p481
                replace q481 := eq_true q481
                have p482 : 0 ≤ (x5_1 : Int) := of_decide_eq_true (by first | (with_reducible assumption) | assumption)
                have q482 : x5_1 < (l0.length : Int) := of_decide_eq_true (by first | (with_reducible assumption) | assumption)
                obtain ⟨ad482, e482, hx482_0, hx482_1, hx482_2⟩ := at_T45 HR0.out x5_1 p482 q482
                obtain rfl : ad480 = ad482 := (by injection e482)
                replace p482 := eq_true p482
                replace q482 := eq_true q482
                go_wp2
                go_ret
                exact ⟨by first | rfl | (simp; done) | (simp [*]; done), by repeat (first | exact Drawn0.refl _ | apply Drawn0.step)⟩
            · rw [if_neg c6] at H
              have c6b0 : (((rd_T45 l0 x5_1).f1) == (wrap64 (x1_1 + 1))) = false := beq_eq_false_iff_ne.mpr c6
              have c6b1 : (((rd_T45 l0 x5_1).f1) != (wrap64 (x1_1 + 1))) = true := bne_iff_ne.mpr c6
              obtain rfl := Option.some.inj H
              have p480 : 0 ≤ (x5_1 : Int) := of_decide_eq_true (by first | (with_reducible assumption) | assumption)
              have q480 : x5_1 < (l0.length : Int) := of_decide_eq_true (by first | (with_reducible assumption) | assumption)
              obtain ⟨ad480, e480, hx480_0, hx480_1, hx480_2⟩ := at_T45 HR0.out x5_1 p480 q480
              cases e480
              replace p480 := eq_true p480
              replace q480 := eq_true q480
              have p481 : 0 ≤ (x5_1 : Int) := of_decide_eq_true (by first | (with_reducible assumption) | assumption)
              have q481 : x5_1 < (l0.length : Int) := of_decide_eq_true (by first | (with_reducible assumption) | assumption)
              obtain ⟨ad481, e481, hx481_0, hx481_1, hx481_2⟩ := at_T45 HR0.out x5_1 p481 q481
              obtain rfl : ad480 = ad481 := (by injection e481)
              replace p481 := eq_true p481
              replace q481 := eq_true q481
              go_wp2
              go_ret
              exact ⟨by first | rfl | (simp; done) | (simp [*]; done), by repeat (first | exact Drawn0.refl _ | apply Drawn0.step)⟩
          · rw [if_neg c5] at H
            have c5b0 : (((rd_T45 l0 x5_1).f0) == x1_1) = false := beq_eq_false_iff_ne.mpr c5
            have c5b1 : (((rd_T45 l0 x5_1).f0) != x1_1) = true := bne_iff_ne.mpr c5
            obtain rfl := Option.some.inj H
            have p480 : 0 ≤ (x5_1 : Int) := of_decide_eq_true (by first | (with_reducible assumption) | assumption)
            have q480 : x5_1 < (l0.length : Int) := of_decide_eq_true (by first | (with_reducible assumption) | assumption)
            obtain ⟨ad480, e480, hx480_0, hx480_1, hx480_2⟩ := at_T45 HR0.out x5_1 p480 q480
            cases e480
            replace p480 := eq_true p480
            replace q480 := eq_true q480
            go_wp2
            go_ret
            exact ⟨by first | rfl | (simp; done) | (simp [*]; done), by repeat (first | exact Drawn0.refl _ | apply Drawn0.step)⟩
        · rw [if_neg c4] at H
          exact absurd H (by simp)
      · rw [if_neg c3] at H
        have c3b0 : decide (x5_1 < (l0.length : Int)) = false := decide_eq_false c3
        clear c3
        obtain rfl := Option.some.inj H
        go_wp2
        go_ret
        exact ⟨by first | rfl | (simp; done) | (simp [*]; done), by repeat (first | exact Drawn0.refl _ | apply Drawn0.step)⟩

/-! ### laws_heldPuzzle: function 30 -/
def laws_heldPuzzle.f (k : Nat) (a0_0 : Int) (l0_1 : List (S45)) (a1 : Int) : Option (Int) := (laws_heldClueS.f k l0_1 a1).bind fun t484 => (if t484 < 0 then (some (-1)) else (some t484))
theorem laws_heldPuzzle.mono : ∀ a0 a1 a2 k, LeO (laws_heldPuzzle.f k a0 a1 a2) (laws_heldPuzzle.f (k + 1) a0 a1 a2) := by
  intro a0 a1 a2 k
  unfold laws_heldPuzzle.f
  repeat' first
      | (with_reducible exact laws_heldClueS.mono _ _ _)
      | (with_reducible exact LeO.refl _)
      | (with_reducible exact LeO.none _)
      | (with_reducible refine LeO.ite ?_ ?_)
      | (with_reducible refine LeO.bind ?_ (fun _ => ?_))
      | exact laws_heldClueS.mono _ _ _
      | exact LeO.none _
      | refine LeO.ite ?_ ?_
      | refine LeO.bind ?_ (fun _ => ?_)
set_option maxHeartbeats 8000000 in
set_option maxRecDepth 100000 in
theorem laws_heldPuzzle.calls (k : Nat) (a0_0 : Int) (A0_1 : Option Addr) (c0_1 : Nat) (l0_1 : List (S45)) (a1 : Int) (r : Int) (w : World) (hr0_1 : Kd.C k45 w A0_1 l0_1.length l0_1) (hc0_1 : l0_1.length ≤ c0_1) (h : laws_heldPuzzle.f k a0_0 l0_1 a1 = some r) :
    Calls Try.prog 30 #[.agg #[.int .i64 a0_0, .slice A0_1 l0_1.length c0_1], .int .i64 a1] w fun e w' => e = .returned (.int .i64 r) ∧ Below w.heap.size w w' := by
  have hu31 := Try.underlying31
  have HR0_1 := Aside0.mk hr0_1
  have HC0_1 := Aside0.mk hc0_1
  clear hr0_1 hc0_1
  have HB := Aside0.mk (Below.refl w.heap.size w)
  have H : ((laws_heldClueS.f k l0_1 a1).bind fun t484 => (if t484 < 0 then (some (-1)) else (some t484))) = some r := h
  clear h
  replace H := Option.bind_eq_some_iff.mp H
  obtain ⟨t484, A30, H⟩ := H
  replace H : (if t484 < 0 then (some (-1)) else (some t484)) = some r := H
  have A3 := Aside0.mk A30
  clear A30
  by_cases c4 : t484 < 0
  · rw [if_pos c4] at H
    have c4b0 : decide (t484 < 0) = true := decide_eq_true c4
    clear c4
    obtain rfl := Option.some.inj H
    go_enter Try.func30, Try.ntmps30
    go_wp2_with (first | ((with_reducible refine gate_dst (N := 2) rfl ?_); refine box_event ?hg (N := 2) ?hd (cs := #[.int .i64 a0_0, .slice A0_1 l0_1.length c0_1]) (t := 31) ?hr ?_; (case hd => rfl); (case hg => rfl); (case hr => first | (go_simp; done) | (go_simp; rfl)); intro gb483 hg w5 hbox hb; have n0_ := Aside0.mk (below_step (by repeat (first | (with_reducible first | exact HB.out | apply below_alloc | apply pw_below_drewN | apply below_drew1) | exact HB.out)) hb); have n1_ := Aside0.mk (hbox); have n2_ := Aside0.mk ((by rw [hg]; exact (below_size (by repeat (first | (with_reducible first | exact HB.out | apply below_alloc | apply pw_below_drewN | apply below_drew1) | exact HB.out))) : w.heap.size ≤ gb483)); have n3_ := Aside0.mk ((by rw [hg]; exact (below_size (by repeat (first | (with_reducible first | exact HB.out | apply below_alloc | apply pw_below_drewN | apply below_drew1) | exact HB.out))) : w.heap.size ≤ gb483)); clear HB; have HB := n0_; have BK483 := n1_; have GW483 := n2_; have GE483 := n3_; clear n0_ n1_ n2_ n3_; clear hb hbox hg; have hcz6_0 : w5.cell? ⟨gb483, 0, none⟩ = some (.int .i64 a0_0) := (blk_cell BK483.out 0).trans rfl; have hcz6_1 : w5.cell? ⟨gb483, 1, none⟩ = some (.slice A0_1 l0_1.length c0_1) := (blk_cell BK483.out 1).trans rfl; have hfz6_0 := blk_frozen BK483.out 0; have hfz6_1 := blk_frozen BK483.out 1) | ((with_reducible refine gate_callee (f := 69) rfl ?_); refine goesL_ (some 8) rfl rfl Try.func69 (by kernel_rfl) rfl #[.slice A0_1 l0_1.length c0_1, .int .i64 a1] rfl (by (try simp only [List.map_toArray, List.map_cons, List.map_nil]); first | done | rfl | (simp only [List.length_drop, List.length_take]; rfl)) ?_; (with_reducible refine (laws_heldClueS.calls k _ _ l0_1 a1 t484 _ ?side1 ?side2 A3.out).mono ?_); (case side1 => repeat (first | exact (Kd.C_below HR0_1.out HB.out) | (with_reducible refine Kd.C_alloc ?_ _) | (with_reducible refine Kd.C_drewN ?_ _) | (with_reducible refine Kd.C_drew ?_))); (case side2 => exact HC0_1.out); rintro e w' ⟨rfl, ⟨nd, rfl⟩⟩; refine ⟨_, rfl, ?_⟩))
    go_ret
    exact ⟨by first | rfl | (simp [errW_none, errW_some] <;> rfl) | (simp [*, errW_none, errW_some] <;> rfl), by repeat (first | (with_reducible first | exact HB.out | apply below_alloc | apply pw_below_drewN | apply below_drew1 | refine below_set ?_ GE483.out) | exact HB.out)⟩
  · rw [if_neg c4] at H
    have c4b0 : decide (t484 < 0) = false := decide_eq_false c4
    clear c4
    obtain rfl := Option.some.inj H
    go_enter Try.func30, Try.ntmps30
    go_wp2_with (first | ((with_reducible refine gate_dst (N := 2) rfl ?_); refine box_event ?hg (N := 2) ?hd (cs := #[.int .i64 a0_0, .slice A0_1 l0_1.length c0_1]) (t := 31) ?hr ?_; (case hd => rfl); (case hg => rfl); (case hr => first | (go_simp; done) | (go_simp; rfl)); intro gb483 hg w7 hbox hb; have n0_ := Aside0.mk (below_step (by repeat (first | (with_reducible first | exact HB.out | apply below_alloc | apply pw_below_drewN | apply below_drew1) | exact HB.out)) hb); have n1_ := Aside0.mk (hbox); have n2_ := Aside0.mk ((by rw [hg]; exact (below_size (by repeat (first | (with_reducible first | exact HB.out | apply below_alloc | apply pw_below_drewN | apply below_drew1) | exact HB.out))) : w.heap.size ≤ gb483)); have n3_ := Aside0.mk ((by rw [hg]; exact (below_size (by repeat (first | (with_reducible first | exact HB.out | apply below_alloc | apply pw_below_drewN | apply below_drew1) | exact HB.out))) : w.heap.size ≤ gb483)); clear HB; have HB := n0_; have BK483 := n1_; have GW483 := n2_; have GE483 := n3_; clear n0_ n1_ n2_ n3_; clear hb hbox hg; have hcz8_0 : w7.cell? ⟨gb483, 0, none⟩ = some (.int .i64 a0_0) := (blk_cell BK483.out 0).trans rfl; have hcz8_1 : w7.cell? ⟨gb483, 1, none⟩ = some (.slice A0_1 l0_1.length c0_1) := (blk_cell BK483.out 1).trans rfl; have hfz8_0 := blk_frozen BK483.out 0; have hfz8_1 := blk_frozen BK483.out 1) | ((with_reducible refine gate_callee (f := 69) rfl ?_); refine goesL_ (some 8) rfl rfl Try.func69 (by kernel_rfl) rfl #[.slice A0_1 l0_1.length c0_1, .int .i64 a1] rfl (by (try simp only [List.map_toArray, List.map_cons, List.map_nil]); first | done | rfl | (simp only [List.length_drop, List.length_take]; rfl)) ?_; (with_reducible refine (laws_heldClueS.calls k _ _ l0_1 a1 t484 _ ?side1 ?side2 A3.out).mono ?_); (case side1 => repeat (first | exact (Kd.C_below HR0_1.out HB.out) | (with_reducible refine Kd.C_alloc ?_ _) | (with_reducible refine Kd.C_drewN ?_ _) | (with_reducible refine Kd.C_drew ?_))); (case side2 => exact HC0_1.out); rintro e w' ⟨rfl, ⟨nd, rfl⟩⟩; refine ⟨_, rfl, ?_⟩))
    go_ret
    exact ⟨by first | rfl | (simp [errW_none, errW_some] <;> rfl) | (simp [*, errW_none, errW_some] <;> rfl), by repeat (first | (with_reducible first | exact HB.out | apply below_alloc | apply pw_below_drewN | apply below_drew1 | refine below_set ?_ GE483.out) | exact HB.out)⟩

end Go.Proofs.Ytkgbahokhifojaa.QHid
