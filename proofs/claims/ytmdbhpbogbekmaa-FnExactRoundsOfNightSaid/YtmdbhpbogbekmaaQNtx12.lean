/- Contracts of functions of the given program, walked: each call returns what its Lean function says. Conditions: those that stand at each theorem. (Written by a program of this session.) -/
import Derived.Test.YtmdbhpbogbekmaaQNtx0
import Derived.Test.YtmdbhpbogbekmaaQNtx1
import Derived.Test.YtmdbhpbogbekmaaQNtx5
import Derived.Test.YtmdbhpbogbekmaaQNtx6
import Derived.Test.YtmdbhpbogbekmaaQNtx10
import Derived.Test.YtmdbhpbogbekmaaQNtx11
namespace Go.Proofs.Ytmdbhpbogbekmaa.QNt
open Go.RowKit Go.Proofs.YtmdbhpbogbekmaaW.PrintWords Go.Proofs.YtmdbhpbogbekmaaW.PrintLast Go.Proofs.YtmdbhpbogbekmaaW.PrintMore
open List (setIfInBounds_toArray set_cons_zero set_cons_succ map_toArray map_cons map_nil)
attribute [local go_sem] max2_int min2_int max_two min_two max_three min_three max_four min_four
set_option linter.unusedVariables false
set_option maxHeartbeats 8000000
set_option maxRecDepth 100000
set_option linter.unusedSimpArgs false
def laws_heldIntSS.l0 : Nat → List (List Int) → Int → Int → Option (Int)
 | 0, _, _, _ => none
 | k + 1, x0, x1, x5 => if x5 < (x0.length : Int) then (if 0 ≤ x5 then ((laws_heldIntS.f k (rd_L2 x0 x5) x1).bind fun t376 => (if t376 < 0 then (some (-1)) else (laws_heldIntSS.l0 k x0 t376 (wrap64 (x5 + 1))))) else (none)) else (some x1)
def laws_heldIntSS.f (k : Nat) (l0 : List (List Int)) (a1 : Int) : Option (Int) := laws_heldIntSS.l0 k l0 a1 0
theorem laws_heldIntSS.calls (k : Nat) (A0 : Option Addr) (c0 : Nat) (l0 : List (List Int)) (a1 : Int) (r : Int) (w : World) (hr0 : Kd.C (Kd.slice 3 (Kd.int .i64)) w A0 l0.length l0) (hc0 : l0.length ≤ c0) (h : laws_heldIntSS.f k l0 a1 = some r) :
  Calls Try.prog 49 #[.slice A0 l0.length c0, .int .i64 a1] w fun e w' => e = .returned (.int .i64 r) ∧ Drawn0 w w' := by
 have HR0 := ak_ hr0
 have HC0 := ak_ hc0
 clear hr0 hc0
 have H : (laws_heldIntSS.l0 k l0 a1 0) = some r := h
 clear h
 have H' := ak_ H
 clear H
 go_enter Try.func49, Try.ntmps49
 go_wp2
 go_loopg [1, 5] k (fun kq v1 v5 w' => ∃ (x1_1 : Int) (x5_1 : Int), v1 = .int .i64 x1_1 ∧ v5 = .int .i64 x5_1 ∧ Aside0 (laws_heldIntSS.l0 kq l0 x1_1 x5_1 = some r) ∧ Aside0 (kq ≤ k) ∧ Drawn0 w w')
 case atStart => exact ⟨(a1), (0), (ry_), (ry_), H', ⟨Nat.le_refl _⟩, by repeat (first | exact Drawn0.refl _ | apply Drawn0.step)⟩
 case round =>
  clear H'
  try clear p2
  obtain ⟨x1_1, x5_1, rfl, rfl, HA, HK1, ⟨m1, rfl⟩⟩ := hrel
  cases gk with
  | zero => exact absurd HA.out (by simp [laws_heldIntSS.l0])
  | succ k1 =>
   have H := HA.out
   clear HA
   simp only [laws_heldIntSS.l0] at H
   by_cases c3 : x5_1 < (l0.length : Int)
   ·
    rw [if_pos c3] at H
    have c3b0 : decide (x5_1 < (l0.length : Int)) = true := decide_eq_true c3
    clear c3
    by_cases c4 : 0 ≤ x5_1
    ·
     rw [if_pos c4] at H
     have c4b0 : decide (0 ≤ x5_1) = true := decide_eq_true c4
     clear c4
     replace H := Option.bind_eq_some_iff.mp H
     obtain ⟨t376, A50, H⟩ := H
     replace H : (if t376 < 0 then (some (-1)) else (laws_heldIntSS.l0 k1 l0 t376 (wrap64 (x5_1 + 1)))) = some r := H
     have A5 := ak_ A50
     clear A50
     by_cases c6 : t376 < 0
     ·
      rw [if_pos c6] at H
      have c6b0 : decide (t376 < 0) = true := decide_eq_true c6
      clear c6
      obtain rfl := Option.some.inj H
      have p375 : 0 ≤ (x5_1 : Int) := odt_ (by assumption)
      have q375 : x5_1 < (l0.length : Int) := odt_ (by assumption)
      obtain ⟨ad375, A375_0, c375_0, e375, hx375_0, hl375_0, hi375_0⟩ := at_L2 HR0.out x5_1 p375 q375
      cases e375
      have HR375_0 := ak_ hi375_0
      have HC375_0 := ak_ hl375_0
      clear hi375_0 hl375_0
      replace p375 := eq_true p375
      replace q375 := eq_true q375
      go_wp2_with (first | ((with_reducible refine gate_callee (f := 72) rfl ?_); refine goesL_ (some 17) rfl rfl Try.func72 (by kernel_rfl) rfl #[.slice A375_0 (rd_L2 l0 x5_1).length c375_0, .int .i64 x1_1] rfl (by first | rfl | (simp only [map_toArray, map_cons, map_nil]; try rfl)) ?_; (with_reducible refine (laws_heldIntS.calls k1 _ _ (rd_L2 l0 x5_1) x1_1 t376 _ ?side1 ?side2 A5.out).mono ?_); (case side1 => repeat (first | exact HR375_0.out | (with_reducible refine Kd.C_alloc ?_ _) | (with_reducible refine Kd.C_drewN ?_ _) | (with_reducible refine Kd.C_drew ?_))); (case side2 => exact HC375_0.out); rintro e w' ⟨rfl, ⟨nd, rfl⟩⟩; refine ⟨_, rfl, ?_⟩))
      go_ret
      exact ⟨ry_, by repeat (first | exact Drawn0.refl _ | apply Drawn0.step)⟩
     ·
      rw [if_neg c6] at H
      have c6b0 : decide (t376 < 0) = false := decide_eq_false c6
      clear c6
      have H' := ak_ H
      clear H
      have p375 : 0 ≤ (x5_1 : Int) := odt_ (by assumption)
      have q375 : x5_1 < (l0.length : Int) := odt_ (by assumption)
      obtain ⟨ad375, A375_0, c375_0, e375, hx375_0, hl375_0, hi375_0⟩ := at_L2 HR0.out x5_1 p375 q375
      cases e375
      have HR375_0 := ak_ hi375_0
      have HC375_0 := ak_ hl375_0
      clear hi375_0 hl375_0
      replace p375 := eq_true p375
      replace q375 := eq_true q375
      go_wp2_with (first | ((with_reducible refine gate_callee (f := 72) rfl ?_); refine goesL_ (some 17) rfl rfl Try.func72 (by kernel_rfl) rfl #[.slice A375_0 (rd_L2 l0 x5_1).length c375_0, .int .i64 x1_1] rfl (by first | rfl | (simp only [map_toArray, map_cons, map_nil]; try rfl)) ?_; (with_reducible refine (laws_heldIntS.calls k1 _ _ (rd_L2 l0 x5_1) x1_1 t376 _ ?side1 ?side2 A5.out).mono ?_); (case side1 => repeat (first | exact HR375_0.out | (with_reducible refine Kd.C_alloc ?_ _) | (with_reducible refine Kd.C_drewN ?_ _) | (with_reducible refine Kd.C_drew ?_))); (case side2 => exact HC375_0.out); rintro e w' ⟨rfl, ⟨nd, rfl⟩⟩; refine ⟨_, rfl, ?_⟩))
      go_roundg k1
      case measure => have := HK1.out; omega
      case rel => exact ⟨(t376), (wrap64 (x5_1 + 1)), (ry_), (ry_), H', ⟨by have := HK1.out; omega⟩, by repeat (first | exact Drawn0.refl _ | apply Drawn0.step)⟩
    ·
     rw [if_neg c4] at H
     exact absurd H (by simp)
   ·
    rw [if_neg c3] at H
    have c3b0 : decide (x5_1 < (l0.length : Int)) = false := decide_eq_false c3
    clear c3
    obtain rfl := Option.some.inj H
    go_wp2
    go_ret
    exact ⟨ry_, by repeat (first | exact Drawn0.refl _ | apply Drawn0.step)⟩
def laws_heldIntSSS.l0 : Nat → List (List (List Int)) → Int → Int → Option (Int)
 | 0, _, _, _ => none
 | k + 1, x0, x1, x5 => if x5 < (x0.length : Int) then (if 0 ≤ x5 then ((laws_heldIntSS.f k (rd_L3 x0 x5) x1).bind fun t378 => (if t378 < 0 then (some (-1)) else (laws_heldIntSSS.l0 k x0 t378 (wrap64 (x5 + 1))))) else (none)) else (some x1)
def laws_heldIntSSS.f (k : Nat) (l0 : List (List (List Int))) (a1 : Int) : Option (Int) := laws_heldIntSSS.l0 k l0 a1 0
theorem laws_heldIntSSS.calls (k : Nat) (A0 : Option Addr) (c0 : Nat) (l0 : List (List (List Int))) (a1 : Int) (r : Int) (w : World) (hr0 : Kd.C (Kd.slice 22 (Kd.slice 3 (Kd.int .i64))) w A0 l0.length l0) (hc0 : l0.length ≤ c0) (h : laws_heldIntSSS.f k l0 a1 = some r) :
  Calls Try.prog 22 #[.slice A0 l0.length c0, .int .i64 a1] w fun e w' => e = .returned (.int .i64 r) ∧ Drawn0 w w' := by
 have HR0 := ak_ hr0
 have HC0 := ak_ hc0
 clear hr0 hc0
 have H : (laws_heldIntSSS.l0 k l0 a1 0) = some r := h
 clear h
 have H' := ak_ H
 clear H
 go_enter Try.func22, Try.ntmps22
 go_wp2
 go_loopg [1, 5] k (fun kq v1 v5 w' => ∃ (x1_1 : Int) (x5_1 : Int), v1 = .int .i64 x1_1 ∧ v5 = .int .i64 x5_1 ∧ Aside0 (laws_heldIntSSS.l0 kq l0 x1_1 x5_1 = some r) ∧ Aside0 (kq ≤ k) ∧ Drawn0 w w')
 case atStart => exact ⟨(a1), (0), (ry_), (ry_), H', ⟨Nat.le_refl _⟩, by repeat (first | exact Drawn0.refl _ | apply Drawn0.step)⟩
 case round =>
  clear H'
  try clear c2
  try clear p2
  obtain ⟨x1_1, x5_1, rfl, rfl, HA, HK1, ⟨m1, rfl⟩⟩ := hrel
  cases gk with
  | zero => exact absurd HA.out (by simp [laws_heldIntSSS.l0])
  | succ k1 =>
   have H := HA.out
   clear HA
   simp only [laws_heldIntSSS.l0] at H
   by_cases c3 : x5_1 < (l0.length : Int)
   ·
    rw [if_pos c3] at H
    have c3b0 : decide (x5_1 < (l0.length : Int)) = true := decide_eq_true c3
    clear c3
    by_cases c4 : 0 ≤ x5_1
    ·
     rw [if_pos c4] at H
     have c4b0 : decide (0 ≤ x5_1) = true := decide_eq_true c4
     clear c4
     replace H := Option.bind_eq_some_iff.mp H
     obtain ⟨t378, A50, H⟩ := H
     replace H : (if t378 < 0 then (some (-1)) else (laws_heldIntSSS.l0 k1 l0 t378 (wrap64 (x5_1 + 1)))) = some r := H
     have A5 := ak_ A50
     clear A50
     by_cases c6 : t378 < 0
     ·
      rw [if_pos c6] at H
      have c6b0 : decide (t378 < 0) = true := decide_eq_true c6
      clear c6
      obtain rfl := Option.some.inj H
      have p377 : 0 ≤ (x5_1 : Int) := odt_ (by assumption)
      have q377 : x5_1 < (l0.length : Int) := odt_ (by assumption)
      obtain ⟨ad377, A377_0, c377_0, e377, hx377_0, hl377_0, hi377_0⟩ := at_L3 HR0.out x5_1 p377 q377
      cases e377
      have HR377_0 := ak_ hi377_0
      have HC377_0 := ak_ hl377_0
      clear hi377_0 hl377_0
      replace p377 := eq_true p377
      replace q377 := eq_true q377
      go_wp2_with (first | ((with_reducible refine gate_callee (f := 49) rfl ?_); refine goesL_ (some 17) rfl rfl Try.func49 (by kernel_rfl) rfl #[.slice A377_0 (rd_L3 l0 x5_1).length c377_0, .int .i64 x1_1] rfl (by first | rfl | (simp only [map_toArray, map_cons, map_nil]; try rfl)) ?_; (with_reducible refine (laws_heldIntSS.calls k1 _ _ (rd_L3 l0 x5_1) x1_1 t378 _ ?side1 ?side2 A5.out).mono ?_); (case side1 => repeat (first | exact HR377_0.out | (with_reducible refine Kd.C_alloc ?_ _) | (with_reducible refine Kd.C_drewN ?_ _) | (with_reducible refine Kd.C_drew ?_))); (case side2 => exact HC377_0.out); rintro e w' ⟨rfl, ⟨nd, rfl⟩⟩; refine ⟨_, rfl, ?_⟩))
      go_ret
      exact ⟨ry_, by repeat (first | exact Drawn0.refl _ | apply Drawn0.step)⟩
     ·
      rw [if_neg c6] at H
      have c6b0 : decide (t378 < 0) = false := decide_eq_false c6
      clear c6
      have H' := ak_ H
      clear H
      have p377 : 0 ≤ (x5_1 : Int) := odt_ (by assumption)
      have q377 : x5_1 < (l0.length : Int) := odt_ (by assumption)
      obtain ⟨ad377, A377_0, c377_0, e377, hx377_0, hl377_0, hi377_0⟩ := at_L3 HR0.out x5_1 p377 q377
      cases e377
      have HR377_0 := ak_ hi377_0
      have HC377_0 := ak_ hl377_0
      clear hi377_0 hl377_0
      replace p377 := eq_true p377
      replace q377 := eq_true q377
      go_wp2_with (first | ((with_reducible refine gate_callee (f := 49) rfl ?_); refine goesL_ (some 17) rfl rfl Try.func49 (by kernel_rfl) rfl #[.slice A377_0 (rd_L3 l0 x5_1).length c377_0, .int .i64 x1_1] rfl (by first | rfl | (simp only [map_toArray, map_cons, map_nil]; try rfl)) ?_; (with_reducible refine (laws_heldIntSS.calls k1 _ _ (rd_L3 l0 x5_1) x1_1 t378 _ ?side1 ?side2 A5.out).mono ?_); (case side1 => repeat (first | exact HR377_0.out | (with_reducible refine Kd.C_alloc ?_ _) | (with_reducible refine Kd.C_drewN ?_ _) | (with_reducible refine Kd.C_drew ?_))); (case side2 => exact HC377_0.out); rintro e w' ⟨rfl, ⟨nd, rfl⟩⟩; refine ⟨_, rfl, ?_⟩))
      go_roundg k1
      case measure => have := HK1.out; omega
      case rel => exact ⟨(t378), (wrap64 (x5_1 + 1)), (ry_), (ry_), H', ⟨by have := HK1.out; omega⟩, by repeat (first | exact Drawn0.refl _ | apply Drawn0.step)⟩
    ·
     rw [if_neg c4] at H
     exact absurd H (by simp)
   ·
    rw [if_neg c3] at H
    have c3b0 : decide (x5_1 < (l0.length : Int)) = false := decide_eq_false c3
    clear c3
    obtain rfl := Option.some.inj H
    go_wp2
    go_ret
    exact ⟨ry_, by repeat (first | exact Drawn0.refl _ | apply Drawn0.step)⟩
def laws_FnExactRoundsOfNight.f (k : Nat) (ts : List Int) (se tq : Int) (ov : List Bool) (t : Int) : Option Bool := (laws_szNight.f ts se tq 1048576).bind fun t1 => if t1 < 0 then some true else (laws_szCamp.f ov t t1).bind fun t2 => if t2 < 0 then some true else
 ((laws_toNight.f k ts se tq).bind fun x => (laws_toCamp.f k ov t).bind fun y => (spec_RoundsOfNight.f k x.1 x.2.1 x.2.2 y.1 y.2).bind fun s => (impl_RoundsOfNight.f k x.1 x.2.1 x.2.2 y.1 y.2).bind fun g => if g = s then ((laws_eqIntSSS.f k s.1 s.1).bind fun e1 => if e1 = true then ((laws_eqNight.f k x.1 x.2.1 x.2.2 x.1 x.2.1 x.2.2).bind fun e2 => if e2 = true then ((laws_eqCamp.f k y.1 y.2 y.1 y.2).bind fun e3 => if e3 = true then
  ((laws_markNight.f k x.1 x.2.1 x.2.2 1).bind fun mx => (laws_markCamp.f k y.1 y.2 mx.1).bind fun my => if my.1 < 0 then none else ((laws_markIntSSS.f k s.1 1).bind fun m => (laws_heldIntSSS.f k m.2 1).bind fun q => if q < 0 then none else if q = m.1 then some true else none)) else none) else none) else none) else none)
def laws_FnExactRoundsOfNight.T8 : Bool × List (List Nat × List Nat) := (true, [([], []), ([0], [0]), ([], []), ([2, 1], [2]), ([1, 3, 3], [1, 3]), ([4], [4]), ([5], [5]), ([5], [5]), ([6, 4, 0, 1, 2, 3, 4, 5, 6], [6]), ([7, 8, 0, 1, 2, 3, 4, 5, 6, 7, 8], [7])])
def laws_FnExactRoundsOfNight.B8 : List Nat := [0, 1, 0, 7, 15, 31, 63, 63, 127, 511]
theorem laws_FnExactRoundsOfNight.T8_ : rtab .any (opsOf Try.f3 8) = laws_FnExactRoundsOfNight.T8 := by kernel_rfl
theorem laws_FnExactRoundsOfNight.B8_ : waitsOk laws_FnExactRoundsOfNight.T8.2 laws_FnExactRoundsOfNight.B8 = true := by kernel_rfl
def laws_FnExactRoundsOfNight.T14 : Bool × List (List Nat × List Nat) := (true, [([], []), ([], []), ([1], [1]), ([0, 2, 2], [0, 2]), ([3], [3])])
def laws_FnExactRoundsOfNight.B14 : List Nat := [0, 0, 2, 7, 15]
theorem laws_FnExactRoundsOfNight.T14_ : rtab .any (opsOf Try.f3 14) = laws_FnExactRoundsOfNight.T14 := by kernel_rfl
theorem laws_FnExactRoundsOfNight.B14_ : waitsOk laws_FnExactRoundsOfNight.T14.2 laws_FnExactRoundsOfNight.B14 = true := by kernel_rfl
def laws_FnExactRoundsOfNight.T16 : Bool × List (List Nat × List Nat) := (true, [([], []), ([], []), ([1], [1]), ([0, 2, 2], [0, 2]), ([3], [3])])
def laws_FnExactRoundsOfNight.B16 : List Nat := [0, 0, 2, 7, 15]
theorem laws_FnExactRoundsOfNight.T16_ : rtab .any (opsOf Try.f3 16) = laws_FnExactRoundsOfNight.T16 := by kernel_rfl
theorem laws_FnExactRoundsOfNight.B16_ : waitsOk laws_FnExactRoundsOfNight.T16.2 laws_FnExactRoundsOfNight.B16 = true := by kernel_rfl
def laws_FnExactRoundsOfNight.T31 : Bool × List (List Nat × List Nat) := (true, [([], []), ([0], [0]), ([], []), ([2, 1], [2]), ([1, 3, 3], [1, 3]), ([4], [4]), ([5], [5]), ([5], [5]), ([6, 4, 0, 1, 2, 3, 4, 5, 6], [6]), ([7, 8, 0, 1, 2, 3, 4, 5, 6, 7, 8], [7])])
def laws_FnExactRoundsOfNight.B31 : List Nat := [0, 1, 0, 7, 15, 31, 63, 63, 127, 511]
theorem laws_FnExactRoundsOfNight.T31_ : rtab .any (opsOf Try.f3 31) = laws_FnExactRoundsOfNight.T31 := by kernel_rfl
theorem laws_FnExactRoundsOfNight.B31_ : waitsOk laws_FnExactRoundsOfNight.T31.2 laws_FnExactRoundsOfNight.B31 = true := by kernel_rfl
theorem laws_FnExactRoundsOfNight.calls (k : Nat) (At : Option Addr) (ct : Nat) (ts : List Int) (se tq : Int) (Ao : Option Addr) (co : Nat) (ov : List Bool) (t : Int) (r : Bool) (w : World) (ht : Kd.C (Kd.int .i64) w At ts.length ts) (hct : ts.length ≤ ct) (ho : Kd.C Kd.bool w Ao ov.length ov) (hco : ov.length ≤ co) (h : laws_FnExactRoundsOfNight.f k ts se tq ov t = some r) :
  Calls Try.prog 3 #[.agg #[.slice At ts.length ct, .int .i64 se, .int .i64 tq], .agg #[.slice Ao ov.length co, .int .i64 t]] w fun e w' => e = .returned (.bool r) ∧ Below w.heap.size w w' := by
 have hu1 := Try.underlying24
 have hu2 := Try.underlying27
 have hu3 := Try.underlying33
 have hu4 := Try.underlying35
 unfold laws_FnExactRoundsOfNight.f at h
 obtain ⟨t1, A20, h⟩ := Option.bind_eq_some_iff.mp h
 have A2 := ak_ fun (W : World) (hb : Below w.heap.size w W) => laws_szNight.calls At ct ts se tq 1048576 t1 W (Kd.C_below ht hb) hct A20
 have HB := ak_ (Below.refl w.heap.size w)
 by_cases c3 : t1 < 0
 ·rw [if_pos c3] at h
  have c3b0 : decide (t1 < 0) = true := decide_eq_true c3
  obtain rfl := Option.some.inj h
  clear c3 h ht hct ho hco A20
  go_enter Try.func3, Try.ntmps3
  go_wp2_with (first | ((with_reducible refine gate_dst (N := 2) rfl ?_); refine bx_ 2 #[.slice At ts.length ct, .int .i64 se, .int .i64 tq] 24 ?_; intro gb2 hg w2 hbox hb; have nb_ := ak_ (bs_ (bb_ HB.out) hb); have nc_ := ak_ hbox; have nd_ := ak_ ((by rw [hg]; exact (bz_ (bb_ HB.out)) : w.heap.size ≤ gb2)); clear HB hb hbox hg; have HB := nb_; have BK2 := nc_; have GE2 := nd_; clear nb_ nc_ nd_; have hz2_0 := (blk_cell BK2.out 0); have hf2_0 := (blk_frozen BK2.out 0); simp at hz2_0; have hz2_1 := (blk_cell BK2.out 1); have hf2_1 := (blk_frozen BK2.out 1); simp at hz2_1; have hz2_2 := (blk_cell BK2.out 2); have hf2_2 := (blk_frozen BK2.out 2); simp at hz2_2; skip) | ((with_reducible refine gate_dst (N := 3) rfl ?_); refine bx_ 3 #[.slice Ao ov.length co, .int .i64 t] 27 ?_; intro gb3 hg w3 hbox hb; have n0_ := ak_ (blk_below (pk BK2.out) hb); have m0_ := ak_ ((by rw [hg]; exact Nat.ne_of_lt (blk_lt (pk BK2.out)) : gb2 ≠ gb3)); have nb_ := ak_ (bs_ (bb_ HB.out) hb); have nc_ := ak_ hbox; have nd_ := ak_ ((by rw [hg]; exact (bz_ (bb_ HB.out)) : w.heap.size ≤ gb3)); clear HB hb hbox hg; clear BK2; have BK2 := n0_; have NE2_3 := m0_; have HB := nb_; have BK3 := nc_; have GE3 := nd_; clear nb_ nc_ nd_ n0_ m0_; have hz3_0 := (blk_cell BK3.out 0); have hf3_0 := (blk_frozen BK3.out 0); simp at hz3_0; have hz3_1 := (blk_cell BK3.out 1); have hf3_1 := (blk_frozen BK3.out 1); simp at hz3_1; have hq2_0 := (blk_cell BK2.out 0); simp at hq2_0; have hq2_1 := (blk_cell BK2.out 1); simp at hq2_1; have hq2_2 := (blk_cell BK2.out 2); simp at hq2_2; have hq3_0 := (blk_cell BK3.out 0); simp at hq3_0; have hq3_1 := (blk_cell BK3.out 1); simp at hq3_1; skip) | (go_at_call 10; (refine (A2.out _ (bb_ HB.out)).mono ?_); rintro e w20 ⟨rfl, hb⟩; have n0_ := ak_ (blk_below (pk BK2.out) hb); have n1_ := ak_ (blk_below (pk BK3.out) hb); have nb_ := ak_ (bs_ (bb_ HB.out) hb); clear BK2 BK3 HB hb; have BK2 := n0_; have BK3 := n1_; have HB := nb_; clear nb_ n0_ n1_; have hq2_0 := (blk_cell BK2.out 0); simp at hq2_0; have hq2_1 := (blk_cell BK2.out 1); simp at hq2_1; have hq2_2 := (blk_cell BK2.out 2); simp at hq2_2; have hq3_0 := (blk_cell BK3.out 0); simp at hq3_0; have hq3_1 := (blk_cell BK3.out 1); simp at hq3_1))
  go_ret
  exact ⟨rfl, (bb_ HB.out)⟩
 rw [if_neg c3] at h
 have c3b0 : decide (t1 < 0) = false := decide_eq_false c3
 clear c3
 obtain ⟨t2, A30, h⟩ := Option.bind_eq_some_iff.mp h
 have A3 := ak_ fun (W : World) (hb : Below w.heap.size w W) => laws_szCamp.calls Ao co ov t t1 t2 W (Kd.C_below ho hb) hco A30
 by_cases c4 : t2 < 0
 ·rw [if_pos c4] at h
  have c4b0 : decide (t2 < 0) = true := decide_eq_true c4
  obtain rfl := Option.some.inj h
  clear c4 h ht hct ho hco A20 A30
  go_enter Try.func3, Try.ntmps3
  go_wp2_with (first | ((with_reducible refine gate_dst (N := 2) rfl ?_); refine bx_ 2 #[.slice At ts.length ct, .int .i64 se, .int .i64 tq] 24 ?_; intro gb2 hg w2 hbox hb; have nb_ := ak_ (bs_ (bb_ HB.out) hb); have nc_ := ak_ hbox; have nd_ := ak_ ((by rw [hg]; exact (bz_ (bb_ HB.out)) : w.heap.size ≤ gb2)); clear HB hb hbox hg; have HB := nb_; have BK2 := nc_; have GE2 := nd_; clear nb_ nc_ nd_; have hz2_0 := (blk_cell BK2.out 0); have hf2_0 := (blk_frozen BK2.out 0); simp at hz2_0; have hz2_1 := (blk_cell BK2.out 1); have hf2_1 := (blk_frozen BK2.out 1); simp at hz2_1; have hz2_2 := (blk_cell BK2.out 2); have hf2_2 := (blk_frozen BK2.out 2); simp at hz2_2; skip) | ((with_reducible refine gate_dst (N := 3) rfl ?_); refine bx_ 3 #[.slice Ao ov.length co, .int .i64 t] 27 ?_; intro gb3 hg w3 hbox hb; have n0_ := ak_ (blk_below (pk BK2.out) hb); have m0_ := ak_ ((by rw [hg]; exact Nat.ne_of_lt (blk_lt (pk BK2.out)) : gb2 ≠ gb3)); have nb_ := ak_ (bs_ (bb_ HB.out) hb); have nc_ := ak_ hbox; have nd_ := ak_ ((by rw [hg]; exact (bz_ (bb_ HB.out)) : w.heap.size ≤ gb3)); clear HB hb hbox hg; clear BK2; have BK2 := n0_; have NE2_3 := m0_; have HB := nb_; have BK3 := nc_; have GE3 := nd_; clear nb_ nc_ nd_ n0_ m0_; have hz3_0 := (blk_cell BK3.out 0); have hf3_0 := (blk_frozen BK3.out 0); simp at hz3_0; have hz3_1 := (blk_cell BK3.out 1); have hf3_1 := (blk_frozen BK3.out 1); simp at hz3_1; have hq2_0 := (blk_cell BK2.out 0); simp at hq2_0; have hq2_1 := (blk_cell BK2.out 1); simp at hq2_1; have hq2_2 := (blk_cell BK2.out 2); simp at hq2_2; have hq3_0 := (blk_cell BK3.out 0); simp at hq3_0; have hq3_1 := (blk_cell BK3.out 1); simp at hq3_1; skip) | (go_at_call 10; (refine (A2.out _ (bb_ HB.out)).mono ?_); rintro e w20 ⟨rfl, hb⟩; have n0_ := ak_ (blk_below (pk BK2.out) hb); have n1_ := ak_ (blk_below (pk BK3.out) hb); have nb_ := ak_ (bs_ (bb_ HB.out) hb); clear BK2 BK3 HB hb; have BK2 := n0_; have BK3 := n1_; have HB := nb_; clear nb_ n0_ n1_; have hq2_0 := (blk_cell BK2.out 0); simp at hq2_0; have hq2_1 := (blk_cell BK2.out 1); simp at hq2_1; have hq2_2 := (blk_cell BK2.out 2); simp at hq2_2; have hq3_0 := (blk_cell BK3.out 0); simp at hq3_0; have hq3_1 := (blk_cell BK3.out 1); simp at hq3_1) | (go_at_call 11; (refine (A3.out _ (bb_ HB.out)).mono ?_); rintro e w21 ⟨rfl, hb⟩; have n0_ := ak_ (blk_below (pk BK2.out) hb); have n1_ := ak_ (blk_below (pk BK3.out) hb); have nb_ := ak_ (bs_ (bb_ HB.out) hb); clear BK2 BK3 HB hb; have BK2 := n0_; have BK3 := n1_; have HB := nb_; clear nb_ n0_ n1_; have hq2_0 := (blk_cell BK2.out 0); simp at hq2_0; have hq2_1 := (blk_cell BK2.out 1); simp at hq2_1; have hq2_2 := (blk_cell BK2.out 2); simp at hq2_2; have hq3_0 := (blk_cell BK3.out 0); simp at hq3_0; have hq3_1 := (blk_cell BK3.out 1); simp at hq3_1))
  go_ret
  exact ⟨rfl, (bb_ HB.out)⟩
 rw [if_neg c4] at h
 have c4b0 : decide (t2 < 0) = false := decide_eq_false c4
 clear c4
 obtain ⟨⟨x0, x1, x2⟩, A70, h⟩ := Option.bind_eq_some_iff.mp h
 obtain ⟨⟨y0, y1⟩, B70, h⟩ := Option.bind_eq_some_iff.mp h
 obtain ⟨⟨s1, s2⟩, A80, h⟩ := Option.bind_eq_some_iff.mp h
 obtain ⟨g, A100, h⟩ := Option.bind_eq_some_iff.mp h
 dsimp only at A80 A100 h
 by_cases hg : g = (s1, s2)
 rotate_left
 ·rw [if_neg hg] at h; exact absurd h (by simp)
 rw [if_pos hg] at h
 subst hg
 obtain ⟨e1, A260, h⟩ := Option.bind_eq_some_iff.mp h
 by_cases ht1 : e1 = true
 rotate_left
 ·rw [if_neg ht1] at h; exact absurd h (by simp)
 rw [if_pos ht1] at h
 subst ht1
 obtain ⟨e2, A340, h⟩ := Option.bind_eq_some_iff.mp h
 by_cases ht1 : e2 = true
 rotate_left
 ·rw [if_neg ht1] at h; exact absurd h (by simp)
 rw [if_pos ht1] at h
 subst ht1
 obtain ⟨e3, B340, h⟩ := Option.bind_eq_some_iff.mp h
 by_cases ht1 : e3 = true
 rotate_left
 ·rw [if_neg ht1] at h; exact absurd h (by simp)
 rw [if_pos ht1] at h
 subst ht1
 obtain ⟨⟨m1, m2⟩, A360, h⟩ := Option.bind_eq_some_iff.mp h
 obtain ⟨⟨m3, m4⟩, B360, h⟩ := Option.bind_eq_some_iff.mp h
 dsimp only at h B360
 by_cases c5 : m3 < 0
 ·rw [if_pos c5] at h; exact absurd h (by simp)
 rw [if_neg c5] at h
 have c5b0 : decide (m3 < 0) = false := decide_eq_false c5
 clear c5
 obtain ⟨⟨m, l'⟩, A60, h⟩ := Option.bind_eq_some_iff.mp h
 obtain ⟨q, A90, h⟩ := Option.bind_eq_some_iff.mp h
 dsimp only at A90 h
 by_cases c6 : q < 0
 ·rw [if_pos c6] at h; exact absurd h (by simp)
 rw [if_neg c6] at h
 have c6b0 : decide (q < 0) = false := decide_eq_false c6
 clear c6
 by_cases hm : q = m
 rotate_left
 ·rw [if_neg hm] at h; exact absurd h (by simp)
 rw [if_pos hm] at h
 obtain rfl := Option.some.inj h
 have hm0 : (q == m) = true := beq_iff_eq.mpr hm
 have hm1 : (q != m) = false := bne_eq_false_iff_eq.mpr hm
 clear hm h
 have hok1 : (s2 != s2) = false := by simp
 have hok0 : (s2 == s2) = true := by simp
 have A7 := ak_ fun (W : World) (hb : Below w.heap.size w W) => laws_toNight.calls k At ct ts se tq x0 x1 x2 W (Kd.C_below ht hb) hct A70
 have B7 := ak_ fun (W : World) (hb : Below w.heap.size w W) => laws_toCamp.calls k Ao co ov t y0 y1 W (Kd.C_below ho hb) hco B70
 have A8 := ak_ fun (W : World) A c A' c' h1 h2 h3 h4 => spec_RoundsOfNight.calls k A c x0 x1 x2 A' c' y0 y1 s1 s2 W h1 h2 h3 h4 A80
 have A10 := ak_ fun (W : World) A c A' c' h1 h2 h3 h4 => impl_RoundsOfNight.calls k A c x0 x1 x2 A' c' y0 y1 s1 s2 W h1 h2 h3 h4 A100
 have A26 := ak_ fun W A c A' c' h1 h2 h3 h4 => laws_eqIntSSS.calls k A c s1 A' c' s1 true W h1 h2 h3 h4 A260
 have A34 := ak_ fun W A c A' c' h1 h2 h3 h4 => laws_eqNight.calls k A c x0 x1 x2 A' c' x0 x1 x2 true W h1 h2 h3 h4 A340
 have B34 := ak_ fun W A c A' c' h1 h2 h3 h4 => laws_eqCamp.calls k A c y0 y1 A' c' y0 y1 true W h1 h2 h3 h4 B340
 have A36 := ak_ fun P_ u w0 W h1 h2 => laws_markNight.calls k P_ u x0 x1 x2 1 m1 m2 w0 W h1 h2 A360
 have B36 := ak_ fun P_ u w0 W h1 h2 => laws_markCamp.calls k P_ u y0 y1 m1 m3 m4 w0 W h1 h2 B360
 have A6 := ak_ fun P_ u w0 W h1 h2 => laws_markIntSSS.calls k P_ u s1 1 m l' w0 W h1 h2 A60
 have A9 := ak_ fun W A c h1 h2 => laws_heldIntSSS.calls k A c l' 1 q W h1 h2 A90
 clear A20 A30 A70 B70 A80 A100 A260 A340 B340 A360 B360 A60 A90 ht hct ho hco
 go_enter Try.func3, Try.ntmps3
 go_upto_region 8 with (first | ((with_reducible refine gate_dst (N := 2) rfl ?_); refine bx_ 2 #[.slice At ts.length ct, .int .i64 se, .int .i64 tq] 24 ?_; intro gb2 hg w2 hbox hb; have nb_ := ak_ (bs_ (bb_ HB.out) hb); have nc_ := ak_ hbox; have nd_ := ak_ ((by rw [hg]; exact (bz_ (bb_ HB.out)) : w.heap.size ≤ gb2)); clear HB hb hbox hg; have HB := nb_; have BK2 := nc_; have GE2 := nd_; clear nb_ nc_ nd_; have hz2_0 := (blk_cell BK2.out 0); have hf2_0 := (blk_frozen BK2.out 0); simp at hz2_0; have hz2_1 := (blk_cell BK2.out 1); have hf2_1 := (blk_frozen BK2.out 1); simp at hz2_1; have hz2_2 := (blk_cell BK2.out 2); have hf2_2 := (blk_frozen BK2.out 2); simp at hz2_2; skip) | ((with_reducible refine gate_dst (N := 3) rfl ?_); refine bx_ 3 #[.slice Ao ov.length co, .int .i64 t] 27 ?_; intro gb3 hg w3 hbox hb; have n0_ := ak_ (blk_below (pk BK2.out) hb); have m0_ := ak_ ((by rw [hg]; exact Nat.ne_of_lt (blk_lt (pk BK2.out)) : gb2 ≠ gb3)); have nb_ := ak_ (bs_ (bb_ HB.out) hb); have nc_ := ak_ hbox; have nd_ := ak_ ((by rw [hg]; exact (bz_ (bb_ HB.out)) : w.heap.size ≤ gb3)); clear HB hb hbox hg; clear BK2; have BK2 := n0_; have NE2_3 := m0_; have HB := nb_; have BK3 := nc_; have GE3 := nd_; clear nb_ nc_ nd_ n0_ m0_; have hz3_0 := (blk_cell BK3.out 0); have hf3_0 := (blk_frozen BK3.out 0); simp at hz3_0; have hz3_1 := (blk_cell BK3.out 1); have hf3_1 := (blk_frozen BK3.out 1); simp at hz3_1; have hq2_0 := (blk_cell BK2.out 0); simp at hq2_0; have hq2_1 := (blk_cell BK2.out 1); simp at hq2_1; have hq2_2 := (blk_cell BK2.out 2); simp at hq2_2; have hq3_0 := (blk_cell BK3.out 0); simp at hq3_0; have hq3_1 := (blk_cell BK3.out 1); simp at hq3_1; skip) | (go_at_call 10; (refine (A2.out _ (bb_ HB.out)).mono ?_); rintro e w20 ⟨rfl, hb⟩; have n0_ := ak_ (blk_below (pk BK2.out) hb); have n1_ := ak_ (blk_below (pk BK3.out) hb); have nb_ := ak_ (bs_ (bb_ HB.out) hb); clear BK2 BK3 HB hb; have BK2 := n0_; have BK3 := n1_; have HB := nb_; clear nb_ n0_ n1_; have hq2_0 := (blk_cell BK2.out 0); simp at hq2_0; have hq2_1 := (blk_cell BK2.out 1); simp at hq2_1; have hq2_2 := (blk_cell BK2.out 2); simp at hq2_2; have hq3_0 := (blk_cell BK3.out 0); simp at hq3_0; have hq3_1 := (blk_cell BK3.out 1); simp at hq3_1) | (go_at_call 11; (refine (A3.out _ (bb_ HB.out)).mono ?_); rintro e w21 ⟨rfl, hb⟩; have n0_ := ak_ (blk_below (pk BK2.out) hb); have n1_ := ak_ (blk_below (pk BK3.out) hb); have nb_ := ak_ (bs_ (bb_ HB.out) hb); clear BK2 BK3 HB hb; have BK2 := n0_; have BK3 := n1_; have HB := nb_; clear nb_ n0_ n1_; have hq2_0 := (blk_cell BK2.out 0); simp at hq2_0; have hq2_1 := (blk_cell BK2.out 1); simp at hq2_1; have hq2_2 := (blk_cell BK2.out 2); simp at hq2_2; have hq3_0 := (blk_cell BK3.out 0); simp at hq3_0; have hq3_1 := (blk_cell BK3.out 1); simp at hq3_1))
 try go_wp2
 have n0_ := ak_ (k1_ BK2.out); have n1_ := ak_ (k1_ BK3.out); have n2_ := ak_ (b1_ HB.out); clear BK2 BK3 HB hq2_0 hq2_1 hq2_2 hq3_0 hq3_1; have BK2 := n0_; have BK3 := n1_; have HB := n2_; clear n0_ n1_ n2_
 refine start_ (n := 10) (S := fun w' => w'.cell? ⟨gb2, 0, none⟩ = some (.slice At ts.length ct) ∧ w'.cell? ⟨gb2, 1, none⟩ = some (.int .i64 se) ∧ w'.cell? ⟨gb2, 2, none⟩ = some (.int .i64 tq) ∧ w'.cell? ⟨gb3, 0, none⟩ = some (.slice Ao ov.length co) ∧ w'.cell? ⟨gb3, 1, none⟩ = some (.int .i64 t)) (ds := []) (mb_ 10 0) (by kernel_rfl) rfl rfl ⟨(blk_cell BK2.out 0).trans rfl, (blk_cell BK2.out 1).trans rfl, (blk_cell BK2.out 2).trans rfl, (blk_cell BK3.out 0).trans rfl, (blk_cell BK3.out 1).trans rfl⟩ (fun hHeld => ?_); refine with_tabW laws_FnExactRoundsOfNight.T8_ laws_FnExactRoundsOfNight.B8_ (fun HT_ HW_ => ?_)
 generalize w21.drew = w9 at BK2 BK3 HB hHeld ⊢
 refine tk_ 0 28 10 1 ?_ (hy := by rintro w' ⟨s0, s1, s2, s3, s4⟩; go_simp; with_reducible rfl)
 refine tk_ 2 30 10 5 ?_ (hy := by rintro w' ⟨s0, s1, s2, s3, s4⟩; go_simp; with_reducible rfl)
 refine on_ 1 29 10 7 (fun K hK => ?_)
 refine goes_ Try.func13 (by kernel_rfl) rfl #[.agg #[.slice At ts.length ct, .int .i64 se, .int .i64 tq]] (by rfl) rfl rfl (by (try simp only [List.map_toArray, List.map_cons, List.map_nil]); first | done | rfl) ?_
 refine (A7.out _ (bb_ HB.out)).mono ?_
 rintro e_ w22 ⟨v0_, rfl, ho, hb⟩
 refine ⟨_, rfl, ?_⟩
 obtain ⟨AT, cT, rfl⟩ := Kd.R_slice ho
 have HT := ak_ ho; clear ho
 have n0_ := ak_ (blk_below (pk BK2.out) hb); have n1_ := ak_ (blk_below (pk BK3.out) hb); have nb_ := ak_ (bs_ (bb_ HB.out) hb); clear BK2 BK3 HB hb; have BK2 := n0_; have BK3 := n1_; have HB := nb_; clear nb_ n0_ n1_
 refine hK.out _ _ ⟨(blk_cell BK2.out 0).trans rfl, (blk_cell BK2.out 1).trans rfl, (blk_cell BK2.out 2).trans rfl, (blk_cell BK3.out 0).trans rfl, (blk_cell BK3.out 1).trans rfl⟩ (fun hHeld => ?_)
 clear hK K
 refine nm_ ?_
 refine on_ 3 31 10 15 (fun K hK => ?_)
 refine goes_ Try.func14 (by kernel_rfl) rfl #[.agg #[.slice Ao ov.length co, .int .i64 t]] (by rfl) rfl rfl (by (try simp only [List.map_toArray, List.map_cons, List.map_nil]); first | done | rfl) ?_
 refine (B7.out _ (bb_ HB.out)).mono ?_
 rintro e_ w23 ⟨v1_, rfl, ho, hb⟩
 refine ⟨_, rfl, ?_⟩
 obtain ⟨AU, cU, rfl⟩ := Kd.R_slice ho
 have HU := ak_ ho; clear ho
 have n0_ := ak_ (blk_below (pk BK2.out) hb); have n1_ := ak_ (blk_below (pk BK3.out) hb); have n2_ := ak_ (Kd.R_below (Kd.pR HT.out) hb); have nb_ := ak_ (bs_ (bb_ HB.out) hb); clear BK2 BK3 HT HB hb; have BK2 := n0_; have BK3 := n1_; have HT := n2_; have HB := nb_; clear nb_ n0_ n1_ n2_
 refine hK.out _ _ ⟨(blk_cell BK2.out 0).trans rfl, (blk_cell BK2.out 1).trans rfl, (blk_cell BK2.out 2).trans rfl, (blk_cell BK3.out 0).trans rfl, (blk_cell BK3.out 1).trans rfl⟩ (fun hHeld => ?_)
 clear hK K
 refine nm_ ?_
 refine on_ 4 32 10 31 (fun K hK => ?_)
 refine goes_ Try.func12 (by kernel_rfl) rfl #[.agg #[.slice AT x0.length cT, .int .i64 x1, .int .i64 x2], .agg #[.slice AU y0.length cU, .int .i64 y1]] (by rfl) rfl rfl (by (try simp only [List.map_toArray, List.map_cons, List.map_nil]); first | done | rfl) ?_
 refine (A8.out _ AT cT AU cU (Kd.R_reads' (Kd.pR HT.out)).2.2 (Kd.R_reads' HT.out).2.1 (Kd.R_reads' (Kd.pR HU.out)).2.2 (Kd.R_reads' HU.out).2.1).mono ?_
 rintro e_ w24 ⟨v2, rfl, ho, hb⟩
 refine ⟨_, rfl, ?_⟩
 have hv_ : Kd.V (Kd.slice 22 (Kd.slice 3 (Kd.int .i64))) 57 w24 w23.heap.size _ v2 s1 := Kd.N_V ho
 obtain ⟨As, cs, rfl⟩ := Kd.V_slice hv_
 have HS := ak_ (Kd.V_mono (ok' := fun k => k < w24.heap.size) (Kd.V_bound hv_) (fun k hk => hk.2))
 clear ho hv_ HT HU
 have n0_ := ak_ (blk_below (pk BK2.out) hb); have n1_ := ak_ (blk_below (pk BK3.out) hb); have nb_ := ak_ (bs_ (bb_ HB.out) hb); clear BK2 BK3 HB hb; have BK2 := n0_; have BK3 := n1_; have HB := nb_; clear nb_ n0_ n1_
 refine hK.out _ _ ⟨(blk_cell BK2.out 0).trans rfl, (blk_cell BK2.out 1).trans rfl, (blk_cell BK2.out 2).trans rfl, (blk_cell BK3.out 0).trans rfl, (blk_cell BK3.out 1).trans rfl⟩ (fun hHeld => ?_)
 clear hK K
 refine nm_ ?_
 refine pu_ 5 27 10 63 ?_
 refine pu_ 6 33 10 127 ?_
 refine pu_ 7 34 10 255 ?_
 refine pu_ 8 6 10 511 ?_
 refine pu_ 9 7 10 1023 ?_
 refine done_ (done_of HT_.out (by kernel_rfl)) ?_
 have hq2_0 := (blk_cell BK2.out 0)
 simp at hq2_0
 have hq2_1 := (blk_cell BK2.out 1)
 simp at hq2_1
 have hq2_2 := (blk_cell BK2.out 2)
 simp at hq2_2
 have hq3_0 := (blk_cell BK3.out 0)
 simp at hq3_0
 have hq3_1 := (blk_cell BK3.out 1)
 simp at hq3_1
 have LT2 := ak_ (blk_lt BK2.out)
 have LT3 := ak_ (blk_lt BK3.out)
 go_upto_region 10 with ((go_at_call 13; (refine (A7.out _ (bb_ HB.out)).mono ?_); rintro e w25 ⟨v0_, rfl, ho, hb⟩; obtain ⟨Ax, cx, rfl⟩ := Kd.R_slice ho; have HX := ak_ (Kd.R_mono (ok' := fun k => w24.heap.size ≤ k ∧ k < w25.heap.size) (Kd.R_lower (Kd.R_bound ho) (bz_ (bb_ HB.out))) (fun k hk => ⟨Nat.le_trans (bz_ be_) hk.2.1, hk.2.2.1⟩)); have SZw25 := ak_ (Nat.le_trans (bz_ be_) hb.size : w24.heap.size ≤ w25.heap.size); clear ho; have n0_ := ak_ (blk_below (pk BK2.out) hb); have n1_ := ak_ (blk_below (pk BK3.out) hb); have n2_ := ak_ (Kd.V_below (Kd.pV HS.out) hb); have nb_ := ak_ (bs_ (bb_ HB.out) hb); clear BK2 BK3 HS HB hb; have BK2 := n0_; have BK3 := n1_; have HS := n2_; have HB := nb_; clear nb_ n0_ n1_ n2_; have hq2_0 := (blk_cell BK2.out 0); simp at hq2_0; have hq2_1 := (blk_cell BK2.out 1); simp at hq2_1; have hq2_2 := (blk_cell BK2.out 2); simp at hq2_2; have hq3_0 := (blk_cell BK3.out 0); simp at hq3_0; have hq3_1 := (blk_cell BK3.out 1); simp at hq3_1))
 obtain ⟨w26, hw_⟩ : ∃ W, W = w25.alloc (.cells #[.slice Ax x0.length cx, .int .i64 x1, .int .i64 x2] 33) := ⟨_, rfl⟩
 have hb : Below w25.heap.size w25 w26 := (by rw [hw_]; exact ba_ (Below.refl _ _) _)
 have hbk : w26.heap[w25.heap.size]? = some (.cells #[.slice Ax x0.length cx, .int .i64 x1, .int .i64 x2] 33 (0, 0)) := (by rw [hw_]; exact blk_new w25 _)
 rw [← hw_]
 clear hw_
 have SZw26 := ak_ (blk_lt hbk : w25.heap.size < w26.heap.size)
 have n0_ := ak_ (blk_below (pk BK2.out) hb); have n1_ := ak_ (blk_below (pk BK3.out) hb); have n2_ := ak_ (Kd.V_below (Kd.pV HS.out) hb); have n3_ := ak_ (Kd.R_below (Kd.pR HX.out) hb); have nb_ := ak_ (bs_ (bb_ HB.out) hb); clear BK2 BK3 HS HX HB hb; have BK2 := n0_; have BK3 := n1_; have HS := n2_; have HX := n3_; have HB := nb_; clear nb_ n0_ n1_ n2_ n3_; have hq2_0 := (blk_cell BK2.out 0); simp at hq2_0; have hq2_1 := (blk_cell BK2.out 1); simp at hq2_1; have hq2_2 := (blk_cell BK2.out 2); simp at hq2_2; have hq3_0 := (blk_cell BK3.out 0); simp at hq3_0; have hq3_1 := (blk_cell BK3.out 1); simp at hq3_1
 obtain ⟨gb8, hg_⟩ : ∃ g, g = w25.heap.size := ⟨_, rfl⟩
 have G_gb8 := ak_ hg_
 rw [← hg_] at hbk ⊢
 have BK8 := ak_ hbk
 clear hbk hg_
 have hq8_0 := (blk_cell BK8.out 0)
 simp at hq8_0
 have hq8_1 := (blk_cell BK8.out 1)
 simp at hq8_1
 have hq8_2 := (blk_cell BK8.out 2)
 simp at hq8_2
 go_upto_region 11 with ((go_at_call 14; (refine (B7.out _ (bb_ HB.out)).mono ?_); rintro e w27 ⟨v1_, rfl, ho, hb⟩; obtain ⟨Ay, cy, rfl⟩ := Kd.R_slice ho; have HY := ak_ (Kd.R_mono (ok' := fun k => w26.heap.size ≤ k ∧ k < w27.heap.size) (Kd.R_lower (Kd.R_bound ho) (bz_ (bb_ HB.out))) (fun k hk => ⟨Nat.le_trans (bz_ be_) hk.2.1, hk.2.2.1⟩)); have SZw27 := ak_ (Nat.le_trans (bz_ be_) hb.size : w26.heap.size ≤ w27.heap.size); clear ho; have n0_ := ak_ (blk_below (pk BK2.out) hb); have n1_ := ak_ (blk_below (pk BK3.out) hb); have n2_ := ak_ (blk_below (pk BK8.out) hb); have n3_ := ak_ (Kd.V_below (Kd.pV HS.out) hb); have n4_ := ak_ (Kd.R_below (Kd.pR HX.out) hb); have nb_ := ak_ (bs_ (bb_ HB.out) hb); clear BK2 BK3 BK8 HS HX HB hb; have BK2 := n0_; have BK3 := n1_; have BK8 := n2_; have HS := n3_; have HX := n4_; have HB := nb_; clear nb_ n0_ n1_ n2_ n3_ n4_; have hq2_0 := (blk_cell BK2.out 0); simp at hq2_0; have hq2_1 := (blk_cell BK2.out 1); simp at hq2_1; have hq2_2 := (blk_cell BK2.out 2); simp at hq2_2; have hq3_0 := (blk_cell BK3.out 0); simp at hq3_0; have hq3_1 := (blk_cell BK3.out 1); simp at hq3_1; have hq8_0 := (blk_cell BK8.out 0); simp at hq8_0; have hq8_1 := (blk_cell BK8.out 1); simp at hq8_1; have hq8_2 := (blk_cell BK8.out 2); simp at hq8_2))
 obtain ⟨w28, hw_⟩ : ∃ W, W = w27.alloc (.cells #[.slice Ay y0.length cy, .int .i64 y1] 35) := ⟨_, rfl⟩
 have hb : Below w27.heap.size w27 w28 := (by rw [hw_]; exact ba_ (Below.refl _ _) _)
 have hbk : w28.heap[w27.heap.size]? = some (.cells #[.slice Ay y0.length cy, .int .i64 y1] 35 (0, 0)) := (by rw [hw_]; exact blk_new w27 _)
 rw [← hw_]
 clear hw_
 have SZw28 := ak_ (blk_lt hbk : w27.heap.size < w28.heap.size)
 have n0_ := ak_ (blk_below (pk BK2.out) hb); have n1_ := ak_ (blk_below (pk BK3.out) hb); have n2_ := ak_ (blk_below (pk BK8.out) hb); have n3_ := ak_ (Kd.V_below (Kd.pV HS.out) hb); have n4_ := ak_ (Kd.R_below (Kd.pR HX.out) hb); have n5_ := ak_ (Kd.R_below (Kd.pR HY.out) hb); have nb_ := ak_ (bs_ (bb_ HB.out) hb); clear BK2 BK3 BK8 HS HX HY HB hb; have BK2 := n0_; have BK3 := n1_; have BK8 := n2_; have HS := n3_; have HX := n4_; have HY := n5_; have HB := nb_; clear nb_ n0_ n1_ n2_ n3_ n4_ n5_; have hq2_0 := (blk_cell BK2.out 0); simp at hq2_0; have hq2_1 := (blk_cell BK2.out 1); simp at hq2_1; have hq2_2 := (blk_cell BK2.out 2); simp at hq2_2; have hq3_0 := (blk_cell BK3.out 0); simp at hq3_0; have hq3_1 := (blk_cell BK3.out 1); simp at hq3_1; have hq8_0 := (blk_cell BK8.out 0); simp at hq8_0; have hq8_1 := (blk_cell BK8.out 1); simp at hq8_1; have hq8_2 := (blk_cell BK8.out 2); simp at hq8_2
 obtain ⟨gb9, hg_⟩ : ∃ g, g = w27.heap.size := ⟨_, rfl⟩
 have G_gb9 := ak_ hg_
 rw [← hg_] at hbk ⊢
 have BK9 := ak_ hbk
 clear hbk hg_
 have hq9_0 := (blk_cell BK9.out 0)
 simp at hq9_0
 have hq9_1 := (blk_cell BK9.out 1)
 simp at hq9_1
 go_upto_region 12 with ((go_at_call 15; (refine (A10.out _ Ax cx Ay cy (Kd.R_reads' (Kd.pR HX.out)).2.2 (Kd.R_reads' HX.out).2.1 (Kd.R_reads' (Kd.pR HY.out)).2.2 (Kd.R_reads' HY.out).2.1).mono ?_); rintro e w29 ⟨v5, rfl, ho, hb⟩; obtain ⟨Ag, cg, rfl⟩ := Kd.S_slice ho; have HG := ak_ (Kd.S_mono (ok' := fun k => w28.heap.size ≤ k ∧ k < w29.heap.size) (Kd.S_lower (Kd.S_bound ho) (bz_ (bb_ HB.out))) (fun k hk => ⟨Nat.le_trans (bz_ be_) hk.2.1, hk.2.2.1⟩)); have SZw29 := ak_ (Nat.le_trans (bz_ be_) hb.size : w28.heap.size ≤ w29.heap.size); clear ho; have n0_ := ak_ (blk_below (pk BK2.out) hb); have n1_ := ak_ (blk_below (pk BK3.out) hb); have n2_ := ak_ (blk_below (pk BK8.out) hb); have n3_ := ak_ (blk_below (pk BK9.out) hb); have n4_ := ak_ (Kd.V_below (Kd.pV HS.out) hb); have n5_ := ak_ (Kd.R_below (Kd.pR HX.out) hb); have n6_ := ak_ (Kd.R_below (Kd.pR HY.out) hb); have nb_ := ak_ (bs_ (bb_ HB.out) hb); clear BK2 BK3 BK8 BK9 HS HX HY HB hb; have BK2 := n0_; have BK3 := n1_; have BK8 := n2_; have BK9 := n3_; have HS := n4_; have HX := n5_; have HY := n6_; have HB := nb_; clear nb_ n0_ n1_ n2_ n3_ n4_ n5_ n6_; have hq2_0 := (blk_cell BK2.out 0); simp at hq2_0; have hq2_1 := (blk_cell BK2.out 1); simp at hq2_1; have hq2_2 := (blk_cell BK2.out 2); simp at hq2_2; have hq3_0 := (blk_cell BK3.out 0); simp at hq3_0; have hq3_1 := (blk_cell BK3.out 1); simp at hq3_1; have hq8_0 := (blk_cell BK8.out 0); simp at hq8_0; have hq8_1 := (blk_cell BK8.out 1); simp at hq8_1; have hq8_2 := (blk_cell BK8.out 2); simp at hq8_2; have hq9_0 := (blk_cell BK9.out 0); simp at hq9_0; have hq9_1 := (blk_cell BK9.out 1); simp at hq9_1))
 go_upto_region 14 with ((go_at_call 16; (refine (A26.out _ Ag cg As cs (Kd.S_reads' (Kd.pS HG.out)).2.2 (Kd.S_reads' HG.out).2.1 (Kd.V_reads' (Kd.pV HS.out)).2.2 (Kd.V_reads' HS.out).2.1).mono ?_); rintro e w30 ⟨rfl, hd⟩; have hb := hd.below; clear hd; have n0_ := ak_ (blk_below (pk BK2.out) hb); have n1_ := ak_ (blk_below (pk BK3.out) hb); have n2_ := ak_ (blk_below (pk BK8.out) hb); have n3_ := ak_ (blk_below (pk BK9.out) hb); have n4_ := ak_ (Kd.V_below (Kd.pV HS.out) hb); have n5_ := ak_ (Kd.R_below (Kd.pR HX.out) hb); have n6_ := ak_ (Kd.R_below (Kd.pR HY.out) hb); have n7_ := ak_ (Kd.S_below (Kd.pS HG.out) hb); have nb_ := ak_ (bs_ (bb_ HB.out) hb); clear BK2 BK3 BK8 BK9 HS HX HY HG HB hb; have BK2 := n0_; have BK3 := n1_; have BK8 := n2_; have BK9 := n3_; have HS := n4_; have HX := n5_; have HY := n6_; have HG := n7_; have HB := nb_; clear nb_ n0_ n1_ n2_ n3_ n4_ n5_ n6_ n7_; have hq2_0 := (blk_cell BK2.out 0); simp at hq2_0; have hq2_1 := (blk_cell BK2.out 1); simp at hq2_1; have hq2_2 := (blk_cell BK2.out 2); simp at hq2_2; have hq3_0 := (blk_cell BK3.out 0); simp at hq3_0; have hq3_1 := (blk_cell BK3.out 1); simp at hq3_1; have hq8_0 := (blk_cell BK8.out 0); simp at hq8_0; have hq8_1 := (blk_cell BK8.out 1); simp at hq8_1; have hq8_2 := (blk_cell BK8.out 2); simp at hq8_2; have hq9_0 := (blk_cell BK9.out 0); simp at hq9_0; have hq9_1 := (blk_cell BK9.out 1); simp at hq9_1))
 try go_wp2
 have n0_ := ak_ (k1_ BK2.out); have n1_ := ak_ (k1_ BK3.out); have n2_ := ak_ (k1_ BK8.out); have n3_ := ak_ (k1_ BK9.out); have n4_ := ak_ (Kd.V_drew HS.out); have n5_ := ak_ (Kd.R_drew HX.out); have n6_ := ak_ (Kd.R_drew HY.out); have n7_ := ak_ (Kd.S_drew HG.out); have n8_ := ak_ (b1_ HB.out); clear BK2 BK3 BK8 BK9 HS HX HY HG HB hq2_0 hq2_1 hq2_2 hq3_0 hq3_1 hq8_0 hq8_1 hq8_2 hq9_0 hq9_1; have BK2 := n0_; have BK3 := n1_; have BK8 := n2_; have BK9 := n3_; have HS := n4_; have HX := n5_; have HY := n6_; have HG := n7_; have HB := n8_; clear n0_ n1_ n2_ n3_ n4_ n5_ n6_ n7_ n8_
 refine start_ (n := 5) (S := fun w' => w'.cell? ⟨gb8, 0, none⟩ = some (.slice Ax x0.length cx) ∧ w'.cell? ⟨gb8, 1, none⟩ = some (.int .i64 x1) ∧ w'.cell? ⟨gb8, 2, none⟩ = some (.int .i64 x2) ∧ w'.cell? ⟨gb2, 0, none⟩ = some (.slice At ts.length ct) ∧ w'.cell? ⟨gb2, 1, none⟩ = some (.int .i64 se) ∧ w'.cell? ⟨gb2, 2, none⟩ = some (.int .i64 tq)) (ds := []) #[false, false, false, false, false] (by kernel_rfl) rfl rfl ⟨(blk_cell BK8.out 0).trans rfl, (blk_cell BK8.out 1).trans rfl, (blk_cell BK8.out 2).trans rfl, (blk_cell BK2.out 0).trans rfl, (blk_cell BK2.out 1).trans rfl, (blk_cell BK2.out 2).trans rfl⟩ (fun hHeld => ?_); refine with_tabW laws_FnExactRoundsOfNight.T14_ laws_FnExactRoundsOfNight.B14_ (fun HT_ HW_ => ?_)
 generalize w30.drew = w31 at BK2 BK3 BK8 BK9 HS HX HY HG HB hHeld ⊢
 refine tk_ 0 54 5 1 ?_ (hy := by rintro w' ⟨s0, s1, s2, s3, s4, s5⟩; go_simp; with_reducible rfl)
 refine tk_ 1 55 5 3 ?_ (hy := by rintro w' ⟨s0, s1, s2, s3, s4, s5⟩; go_simp; with_reducible rfl)
 refine on_ 2 56 5 7 (fun K hK => ?_)
 refine goes_ Try.func13 (by kernel_rfl) rfl #[.agg #[.slice At ts.length ct, .int .i64 se, .int .i64 tq]] (by rfl) rfl rfl (by (try simp only [List.map_toArray, List.map_cons, List.map_nil]); first | done | rfl) ?_
 refine (A7.out _ (bb_ HB.out)).mono ?_
 rintro e_ w32 ⟨v0_, rfl, ho, hb⟩
 refine ⟨_, rfl, ?_⟩
 obtain ⟨AZ, cZ, rfl⟩ := Kd.R_slice ho
 have HZ := ak_ ho; clear ho
 have n0_ := ak_ (blk_below (pk BK2.out) hb); have n1_ := ak_ (blk_below (pk BK3.out) hb); have n2_ := ak_ (blk_below (pk BK8.out) hb); have n3_ := ak_ (blk_below (pk BK9.out) hb); have n4_ := ak_ (Kd.V_below (Kd.pV HS.out) hb); have n5_ := ak_ (Kd.R_below (Kd.pR HX.out) hb); have n6_ := ak_ (Kd.R_below (Kd.pR HY.out) hb); have n7_ := ak_ (Kd.S_below (Kd.pS HG.out) hb); have nb_ := ak_ (bs_ (bb_ HB.out) hb); clear BK2 BK3 BK8 BK9 HS HX HY HG HB hb; have BK2 := n0_; have BK3 := n1_; have BK8 := n2_; have BK9 := n3_; have HS := n4_; have HX := n5_; have HY := n6_; have HG := n7_; have HB := nb_; clear nb_ n0_ n1_ n2_ n3_ n4_ n5_ n6_ n7_
 refine hK.out _ _ ⟨(blk_cell BK8.out 0).trans rfl, (blk_cell BK8.out 1).trans rfl, (blk_cell BK8.out 2).trans rfl, (blk_cell BK2.out 0).trans rfl, (blk_cell BK2.out 1).trans rfl, (blk_cell BK2.out 2).trans rfl⟩ (fun hHeld => ?_)
 clear hK K
 refine nm_ ?_
 refine on_ 3 57 5 15 (fun K hK => ?_)
 refine goes_ Try.func17 (by kernel_rfl) rfl #[.agg #[.slice Ax x0.length cx, .int .i64 x1, .int .i64 x2], .agg #[.slice AZ x0.length cZ, .int .i64 x1, .int .i64 x2]] (by rfl) rfl rfl (by (try simp only [List.map_toArray, List.map_cons, List.map_nil]); first | done | rfl) ?_
 refine (A34.out _ Ax cx AZ cZ (Kd.R_reads' (Kd.pR HX.out)).2.2 (Kd.R_reads' HX.out).2.1 (Kd.R_reads' (Kd.pR HZ.out)).2.2 (Kd.R_reads' HZ.out).2.1).mono ?_
 rintro e_ w33 ⟨rfl, hb⟩
 refine ⟨_, rfl, ?_⟩
 clear HZ
 have n0_ := ak_ (blk_below (pk BK2.out) hb); have n1_ := ak_ (blk_below (pk BK3.out) hb); have n2_ := ak_ (blk_below (pk BK8.out) hb); have n3_ := ak_ (blk_below (pk BK9.out) hb); have n4_ := ak_ (Kd.V_below (Kd.pV HS.out) hb); have n5_ := ak_ (Kd.R_below (Kd.pR HX.out) hb); have n6_ := ak_ (Kd.R_below (Kd.pR HY.out) hb); have n7_ := ak_ (Kd.S_below (Kd.pS HG.out) hb); have nb_ := ak_ (bs_ (bb_ HB.out) hb); clear BK2 BK3 BK8 BK9 HS HX HY HG HB hb; have BK2 := n0_; have BK3 := n1_; have BK8 := n2_; have BK9 := n3_; have HS := n4_; have HX := n5_; have HY := n6_; have HG := n7_; have HB := nb_; clear nb_ n0_ n1_ n2_ n3_ n4_ n5_ n6_ n7_
 refine hK.out _ _ ⟨(blk_cell BK8.out 0).trans rfl, (blk_cell BK8.out 1).trans rfl, (blk_cell BK8.out 2).trans rfl, (blk_cell BK2.out 0).trans rfl, (blk_cell BK2.out 1).trans rfl, (blk_cell BK2.out 2).trans rfl⟩ (fun hHeld => ?_)
 clear hK K
 refine nm_ ?_
 refine pu_ 4 58 5 31 ?_
 refine done_ (done_of HT_.out (by kernel_rfl)) ?_
 have hq2_0 := (blk_cell BK2.out 0)
 simp at hq2_0
 have hq2_1 := (blk_cell BK2.out 1)
 simp at hq2_1
 have hq2_2 := (blk_cell BK2.out 2)
 simp at hq2_2
 have hq3_0 := (blk_cell BK3.out 0)
 simp at hq3_0
 have hq3_1 := (blk_cell BK3.out 1)
 simp at hq3_1
 have hq8_0 := (blk_cell BK8.out 0)
 simp at hq8_0
 have hq8_1 := (blk_cell BK8.out 1)
 simp at hq8_1
 have hq8_2 := (blk_cell BK8.out 2)
 simp at hq8_2
 have hq9_0 := (blk_cell BK9.out 0)
 simp at hq9_0
 have hq9_1 := (blk_cell BK9.out 1)
 simp at hq9_1
 go_upto_region 16 with (fail)
 try go_wp2
 have n0_ := ak_ (k1_ BK2.out); have n1_ := ak_ (k1_ BK3.out); have n2_ := ak_ (k1_ BK8.out); have n3_ := ak_ (k1_ BK9.out); have n4_ := ak_ (Kd.V_drew HS.out); have n5_ := ak_ (Kd.R_drew HX.out); have n6_ := ak_ (Kd.R_drew HY.out); have n7_ := ak_ (Kd.S_drew HG.out); have n8_ := ak_ (b1_ HB.out); clear BK2 BK3 BK8 BK9 HS HX HY HG HB hq2_0 hq2_1 hq2_2 hq3_0 hq3_1 hq8_0 hq8_1 hq8_2 hq9_0 hq9_1; have BK2 := n0_; have BK3 := n1_; have BK8 := n2_; have BK9 := n3_; have HS := n4_; have HX := n5_; have HY := n6_; have HG := n7_; have HB := n8_; clear n0_ n1_ n2_ n3_ n4_ n5_ n6_ n7_ n8_
 refine start_ (n := 5) (S := fun w' => w'.cell? ⟨gb9, 0, none⟩ = some (.slice Ay y0.length cy) ∧ w'.cell? ⟨gb9, 1, none⟩ = some (.int .i64 y1) ∧ w'.cell? ⟨gb3, 0, none⟩ = some (.slice Ao ov.length co) ∧ w'.cell? ⟨gb3, 1, none⟩ = some (.int .i64 t)) (ds := []) #[false, false, false, false, false] (by kernel_rfl) rfl rfl ⟨(blk_cell BK9.out 0).trans rfl, (blk_cell BK9.out 1).trans rfl, (blk_cell BK3.out 0).trans rfl, (blk_cell BK3.out 1).trans rfl⟩ (fun hHeld => ?_); refine with_tabW laws_FnExactRoundsOfNight.T16_ laws_FnExactRoundsOfNight.B16_ (fun HT_ HW_ => ?_)
 generalize w33.drew = w34 at BK2 BK3 BK8 BK9 HS HX HY HG HB hHeld ⊢
 refine tk_ 0 59 5 1 ?_ (hy := by rintro w' ⟨s0, s1, s2, s3⟩; go_simp; with_reducible rfl)
 refine tk_ 1 60 5 3 ?_ (hy := by rintro w' ⟨s0, s1, s2, s3⟩; go_simp; with_reducible rfl)
 refine on_ 2 61 5 7 (fun K hK => ?_)
 refine goes_ Try.func14 (by kernel_rfl) rfl #[.agg #[.slice Ao ov.length co, .int .i64 t]] (by rfl) rfl rfl (by (try simp only [List.map_toArray, List.map_cons, List.map_nil]); first | done | rfl) ?_
 refine (B7.out _ (bb_ HB.out)).mono ?_
 rintro e_ w35 ⟨v1_, rfl, ho, hb⟩
 refine ⟨_, rfl, ?_⟩
 obtain ⟨AZ, cZ, rfl⟩ := Kd.R_slice ho
 have HZ := ak_ ho; clear ho
 have n0_ := ak_ (blk_below (pk BK2.out) hb); have n1_ := ak_ (blk_below (pk BK3.out) hb); have n2_ := ak_ (blk_below (pk BK8.out) hb); have n3_ := ak_ (blk_below (pk BK9.out) hb); have n4_ := ak_ (Kd.V_below (Kd.pV HS.out) hb); have n5_ := ak_ (Kd.R_below (Kd.pR HX.out) hb); have n6_ := ak_ (Kd.R_below (Kd.pR HY.out) hb); have n7_ := ak_ (Kd.S_below (Kd.pS HG.out) hb); have nb_ := ak_ (bs_ (bb_ HB.out) hb); clear BK2 BK3 BK8 BK9 HS HX HY HG HB hb; have BK2 := n0_; have BK3 := n1_; have BK8 := n2_; have BK9 := n3_; have HS := n4_; have HX := n5_; have HY := n6_; have HG := n7_; have HB := nb_; clear nb_ n0_ n1_ n2_ n3_ n4_ n5_ n6_ n7_
 refine hK.out _ _ ⟨(blk_cell BK9.out 0).trans rfl, (blk_cell BK9.out 1).trans rfl, (blk_cell BK3.out 0).trans rfl, (blk_cell BK3.out 1).trans rfl⟩ (fun hHeld => ?_)
 clear hK K
 refine nm_ ?_
 refine on_ 3 62 5 15 (fun K hK => ?_)
 refine goes_ Try.func18 (by kernel_rfl) rfl #[.agg #[.slice Ay y0.length cy, .int .i64 y1], .agg #[.slice AZ y0.length cZ, .int .i64 y1]] (by rfl) rfl rfl (by (try simp only [List.map_toArray, List.map_cons, List.map_nil]); first | done | rfl) ?_
 refine (B34.out _ Ay cy AZ cZ (Kd.R_reads' (Kd.pR HY.out)).2.2 (Kd.R_reads' HY.out).2.1 (Kd.R_reads' (Kd.pR HZ.out)).2.2 (Kd.R_reads' HZ.out).2.1).mono ?_
 rintro e_ w36 ⟨rfl, hb⟩
 refine ⟨_, rfl, ?_⟩
 clear HZ
 have n0_ := ak_ (blk_below (pk BK2.out) hb); have n1_ := ak_ (blk_below (pk BK3.out) hb); have n2_ := ak_ (blk_below (pk BK8.out) hb); have n3_ := ak_ (blk_below (pk BK9.out) hb); have n4_ := ak_ (Kd.V_below (Kd.pV HS.out) hb); have n5_ := ak_ (Kd.R_below (Kd.pR HX.out) hb); have n6_ := ak_ (Kd.R_below (Kd.pR HY.out) hb); have n7_ := ak_ (Kd.S_below (Kd.pS HG.out) hb); have nb_ := ak_ (bs_ (bb_ HB.out) hb); clear BK2 BK3 BK8 BK9 HS HX HY HG HB hb; have BK2 := n0_; have BK3 := n1_; have BK8 := n2_; have BK9 := n3_; have HS := n4_; have HX := n5_; have HY := n6_; have HG := n7_; have HB := nb_; clear nb_ n0_ n1_ n2_ n3_ n4_ n5_ n6_ n7_
 refine hK.out _ _ ⟨(blk_cell BK9.out 0).trans rfl, (blk_cell BK9.out 1).trans rfl, (blk_cell BK3.out 0).trans rfl, (blk_cell BK3.out 1).trans rfl⟩ (fun hHeld => ?_)
 clear hK K
 refine nm_ ?_
 refine pu_ 4 63 5 31 ?_
 refine done_ (done_of HT_.out (by kernel_rfl)) ?_
 have hq2_0 := (blk_cell BK2.out 0)
 simp at hq2_0
 have hq2_1 := (blk_cell BK2.out 1)
 simp at hq2_1
 have hq2_2 := (blk_cell BK2.out 2)
 simp at hq2_2
 have hq3_0 := (blk_cell BK3.out 0)
 simp at hq3_0
 have hq3_1 := (blk_cell BK3.out 1)
 simp at hq3_1
 have hq8_0 := (blk_cell BK8.out 0)
 simp at hq8_0
 have hq8_1 := (blk_cell BK8.out 1)
 simp at hq8_1
 have hq8_2 := (blk_cell BK8.out 2)
 simp at hq8_2
 have hq9_0 := (blk_cell BK9.out 0)
 simp at hq9_0
 have hq9_1 := (blk_cell BK9.out 1)
 simp at hq9_1
 go_upto_region 20 with (go_at_call 19; (with_reducible refine (A36.out (fun k => w24.heap.size ≤ k ∧ k < w25.heap.size) (.slice Ax x0.length cx) w _ (bb_ HB.out) (Kd.pR HX.out)).mono ?_); rintro e w37 ⟨rfl, hS, hb, hkp⟩; have n0_ := ak_ ((hkp.2 gb2 (blk_lt (pk BK2.out)) (fun h => by have := LT2.out; have := LT3.out; have := SZw25.out; have := SZw26.out; have := SZw27.out; have := SZw28.out; have := SZw29.out; have := G_gb8.out; have := G_gb9.out; omega)).trans (pk BK2.out)); have n1_ := ak_ ((hkp.2 gb3 (blk_lt (pk BK3.out)) (fun h => by have := LT2.out; have := LT3.out; have := SZw25.out; have := SZw26.out; have := SZw27.out; have := SZw28.out; have := SZw29.out; have := G_gb8.out; have := G_gb9.out; omega)).trans (pk BK3.out)); have n2_ := ak_ ((hkp.2 gb9 (blk_lt (pk BK9.out)) (fun h => by have := LT2.out; have := LT3.out; have := SZw25.out; have := SZw26.out; have := SZw27.out; have := SZw28.out; have := SZw29.out; have := G_gb8.out; have := G_gb9.out; omega)).trans (pk BK9.out)); have n3_ := ak_ (Kd.V_kept (Kd.pV HS.out) hkp (fun k (hk : k < w24.heap.size) h => by have := LT2.out; have := LT3.out; have := SZw25.out; have := SZw26.out; have := SZw27.out; have := SZw28.out; have := SZw29.out; have := G_gb8.out; have := G_gb9.out; omega)); have n4_ := ak_ (Kd.R_kept (Kd.pR HY.out) hkp (fun k (hk : w26.heap.size ≤ k ∧ k < w27.heap.size) h => by have := LT2.out; have := LT3.out; have := SZw25.out; have := SZw26.out; have := SZw27.out; have := SZw28.out; have := SZw29.out; have := G_gb8.out; have := G_gb9.out; omega)); have n5_ := ak_ (Kd.S_kept (Kd.pS HG.out) hkp (fun k (hk : w28.heap.size ≤ k ∧ k < w29.heap.size) h => by have := LT2.out; have := LT3.out; have := SZw25.out; have := SZw26.out; have := SZw27.out; have := SZw28.out; have := SZw29.out; have := G_gb8.out; have := G_gb9.out; omega)); have nb_ := ak_ hb; clear BK2 BK3 BK9 HS HY HG HX BK8 hS HB hb hkp; have BK2 := n0_; have BK3 := n1_; have BK9 := n2_; have HS := n3_; have HY := n4_; have HG := n5_; have HB := nb_; clear nb_ n0_ n1_ n2_ n3_ n4_ n5_; have hq2_0 := (blk_cell BK2.out 0); simp at hq2_0; have hq2_1 := (blk_cell BK2.out 1); simp at hq2_1; have hq2_2 := (blk_cell BK2.out 2); simp at hq2_2; have hq3_0 := (blk_cell BK3.out 0); simp at hq3_0; have hq3_1 := (blk_cell BK3.out 1); simp at hq3_1; have hq9_0 := (blk_cell BK9.out 0); simp at hq9_0; have hq9_1 := (blk_cell BK9.out 1); simp at hq9_1)
 go_upto_region 21 with (go_at_call 20; (with_reducible refine (B36.out (fun k => w26.heap.size ≤ k ∧ k < w27.heap.size) (.slice Ay y0.length cy) w _ (bb_ HB.out) (Kd.pR HY.out)).mono ?_); rintro e w38 ⟨rfl, hS, hb, hkp⟩; have n0_ := ak_ ((hkp.2 gb2 (blk_lt (pk BK2.out)) (fun h => by have := LT2.out; have := LT3.out; have := SZw25.out; have := SZw26.out; have := SZw27.out; have := SZw28.out; have := SZw29.out; have := G_gb8.out; have := G_gb9.out; omega)).trans (pk BK2.out)); have n1_ := ak_ ((hkp.2 gb3 (blk_lt (pk BK3.out)) (fun h => by have := LT2.out; have := LT3.out; have := SZw25.out; have := SZw26.out; have := SZw27.out; have := SZw28.out; have := SZw29.out; have := G_gb8.out; have := G_gb9.out; omega)).trans (pk BK3.out)); have n2_ := ak_ (Kd.V_kept (Kd.pV HS.out) hkp (fun k (hk : k < w24.heap.size) h => by have := LT2.out; have := LT3.out; have := SZw25.out; have := SZw26.out; have := SZw27.out; have := SZw28.out; have := SZw29.out; have := G_gb8.out; have := G_gb9.out; omega)); have n3_ := ak_ (Kd.S_kept (Kd.pS HG.out) hkp (fun k (hk : w28.heap.size ≤ k ∧ k < w29.heap.size) h => by have := LT2.out; have := LT3.out; have := SZw25.out; have := SZw26.out; have := SZw27.out; have := SZw28.out; have := SZw29.out; have := G_gb8.out; have := G_gb9.out; omega)); have nb_ := ak_ hb; clear BK2 BK3 HS HG HY BK9 hS HB hb hkp; have BK2 := n0_; have BK3 := n1_; have HS := n2_; have HG := n3_; have HB := nb_; clear nb_ n0_ n1_ n2_ n3_; have hq2_0 := (blk_cell BK2.out 0); simp at hq2_0; have hq2_1 := (blk_cell BK2.out 1); simp at hq2_1; have hq2_2 := (blk_cell BK2.out 2); simp at hq2_2; have hq3_0 := (blk_cell BK3.out 0); simp at hq3_0; have hq3_1 := (blk_cell BK3.out 1); simp at hq3_1)
 go_upto_region 23 with ((go_at_call 16; (refine (A26.out _ Ag cg As cs (Kd.S_reads' (Kd.pS HG.out)).2.2 (Kd.S_reads' HG.out).2.1 (Kd.V_reads' (Kd.pV HS.out)).2.2 (Kd.V_reads' HS.out).2.1).mono ?_); rintro e w39 ⟨rfl, hd⟩; have hb := hd.below; clear hd; have n0_ := ak_ (blk_below (pk BK2.out) hb); have n1_ := ak_ (blk_below (pk BK3.out) hb); have n2_ := ak_ (Kd.V_below (Kd.pV HS.out) hb); have n3_ := ak_ (Kd.S_below (Kd.pS HG.out) hb); have nb_ := ak_ (bs_ (bb_ HB.out) hb); clear BK2 BK3 HS HG HB hb; have BK2 := n0_; have BK3 := n1_; have HS := n2_; have HG := n3_; have HB := nb_; clear nb_ n0_ n1_ n2_ n3_; have hq2_0 := (blk_cell BK2.out 0); simp at hq2_0; have hq2_1 := (blk_cell BK2.out 1); simp at hq2_1; have hq2_2 := (blk_cell BK2.out 2); simp at hq2_2; have hq3_0 := (blk_cell BK3.out 0); simp at hq3_0; have hq3_1 := (blk_cell BK3.out 1); simp at hq3_1))
 go_upto_region 25 with (go_at_call 21; (with_reducible refine (A6.out (fun k => w28.heap.size ≤ k ∧ k < w29.heap.size) (.slice Ag s1.length cg) w _ (bb_ HB.out) (Kd.pS HG.out)).mono ?_); rintro e w40 ⟨rfl, hS, hb, hkp⟩; have n0_ := ak_ ((hkp.2 gb2 (blk_lt (pk BK2.out)) (fun h => by have := LT2.out; have := LT3.out; have := SZw25.out; have := SZw26.out; have := SZw27.out; have := SZw28.out; have := SZw29.out; have := G_gb8.out; have := G_gb9.out; omega)).trans (pk BK2.out)); have n1_ := ak_ ((hkp.2 gb3 (blk_lt (pk BK3.out)) (fun h => by have := LT2.out; have := LT3.out; have := SZw25.out; have := SZw26.out; have := SZw27.out; have := SZw28.out; have := SZw29.out; have := G_gb8.out; have := G_gb9.out; omega)).trans (pk BK3.out)); have n2_ := ak_ (Kd.V_kept (Kd.pV HS.out) hkp (fun k (hk : k < w24.heap.size) h => by have := LT2.out; have := LT3.out; have := SZw25.out; have := SZw26.out; have := SZw27.out; have := SZw28.out; have := SZw29.out; have := G_gb8.out; have := G_gb9.out; omega)); clear HG; have HG := ak_ hS; have nb_ := ak_ hb; clear BK2 BK3 HS hS HB hb hkp; have BK2 := n0_; have BK3 := n1_; have HS := n2_; have HB := nb_; clear nb_ n0_ n1_ n2_; have hq2_0 := (blk_cell BK2.out 0); simp at hq2_0; have hq2_1 := (blk_cell BK2.out 1); simp at hq2_1; have hq2_2 := (blk_cell BK2.out 2); simp at hq2_2; have hq3_0 := (blk_cell BK3.out 0); simp at hq3_0; have hq3_1 := (blk_cell BK3.out 1); simp at hq3_1)
 have hlen := (Kd.S_reads' HG.out).1
 have HH := ak_ fun (W : World) (hS : Kd.S (sepK 22 (Kd.slice 3 (Kd.int .i64))) 57 W w.heap.size (fun k => w28.heap.size ≤ k ∧ k < w29.heap.size) (.slice Ag s1.length cg) l') => (show Calls Try.prog 22 #[.slice Ag s1.length cg, .int .i64 1] W fun e w' => e = .returned (.int .i64 q) ∧ Drawn0 W w' by rw [hlen]; exact A9.out W Ag cg (Kd.S_reads' hS).2.2 (by rw [← hlen]; exact (Kd.S_reads' hS).2.1))
 clear hlen
 go_upto_region 31 with ((go_at_call 22; (refine (HH.out _ (Kd.pS HG.out)).mono ?_); rintro e w41 ⟨rfl, hd⟩; have hb := hd.below; clear hd; have n0_ := ak_ (blk_below (pk BK2.out) hb); have n1_ := ak_ (blk_below (pk BK3.out) hb); have n2_ := ak_ (Kd.V_below (Kd.pV HS.out) hb); have n3_ := ak_ (Kd.S_below (Kd.pS HG.out) hb); have nb_ := ak_ (bs_ (bb_ HB.out) hb); clear BK2 BK3 HS HG HB hb; have BK2 := n0_; have BK3 := n1_; have HS := n2_; have HG := n3_; have HB := nb_; clear nb_ n0_ n1_ n2_ n3_; have hq2_0 := (blk_cell BK2.out 0); simp at hq2_0; have hq2_1 := (blk_cell BK2.out 1); simp at hq2_1; have hq2_2 := (blk_cell BK2.out 2); simp at hq2_2; have hq3_0 := (blk_cell BK3.out 0); simp at hq3_0; have hq3_1 := (blk_cell BK3.out 1); simp at hq3_1))
 try go_wp2
 have n0_ := ak_ (k1_ BK2.out); have n1_ := ak_ (k1_ BK3.out); have n2_ := ak_ (Kd.V_drew HS.out); have n3_ := ak_ (Kd.S_drew HG.out); have n4_ := ak_ (b1_ HB.out); clear BK2 BK3 HS HG HB hq2_0 hq2_1 hq2_2 hq3_0 hq3_1; have BK2 := n0_; have BK3 := n1_; have HS := n2_; have HG := n3_; have HB := n4_; clear n0_ n1_ n2_ n3_ n4_
 refine start_ (n := 10) (S := fun w' => w'.cell? ⟨gb2, 0, none⟩ = some (.slice At ts.length ct) ∧ w'.cell? ⟨gb2, 1, none⟩ = some (.int .i64 se) ∧ w'.cell? ⟨gb2, 2, none⟩ = some (.int .i64 tq) ∧ w'.cell? ⟨gb3, 0, none⟩ = some (.slice Ao ov.length co) ∧ w'.cell? ⟨gb3, 1, none⟩ = some (.int .i64 t)) (ds := []) (mb_ 10 0) (by kernel_rfl) rfl rfl ⟨(blk_cell BK2.out 0).trans rfl, (blk_cell BK2.out 1).trans rfl, (blk_cell BK2.out 2).trans rfl, (blk_cell BK3.out 0).trans rfl, (blk_cell BK3.out 1).trans rfl⟩ (fun hHeld => ?_); refine with_tabW laws_FnExactRoundsOfNight.T31_ laws_FnExactRoundsOfNight.B31_ (fun HT_ HW_ => ?_)
 generalize w41.drew = w42 at BK2 BK3 HS HG HB hHeld ⊢
 refine tk_ 0 95 10 1 ?_ (hy := by rintro w' ⟨s0, s1, s2, s3, s4⟩; go_simp; with_reducible rfl)
 refine tk_ 2 97 10 5 ?_ (hy := by rintro w' ⟨s0, s1, s2, s3, s4⟩; go_simp; with_reducible rfl)
 refine on_ 1 96 10 7 (fun K hK => ?_)
 refine goes_ Try.func13 (by kernel_rfl) rfl #[.agg #[.slice At ts.length ct, .int .i64 se, .int .i64 tq]] (by rfl) rfl rfl (by (try simp only [List.map_toArray, List.map_cons, List.map_nil]); first | done | rfl) ?_
 refine (A7.out _ (bb_ HB.out)).mono ?_
 rintro e_ w43 ⟨v0_, rfl, ho, hb⟩
 refine ⟨_, rfl, ?_⟩
 obtain ⟨AZ, cZ, rfl⟩ := Kd.R_slice ho
 have HZ := ak_ ho; clear ho
 have n0_ := ak_ (blk_below (pk BK2.out) hb); have n1_ := ak_ (blk_below (pk BK3.out) hb); have n2_ := ak_ (Kd.V_below (Kd.pV HS.out) hb); have n3_ := ak_ (Kd.S_below (Kd.pS HG.out) hb); have nb_ := ak_ (bs_ (bb_ HB.out) hb); clear BK2 BK3 HS HG HB hb; have BK2 := n0_; have BK3 := n1_; have HS := n2_; have HG := n3_; have HB := nb_; clear nb_ n0_ n1_ n2_ n3_
 refine hK.out _ _ ⟨(blk_cell BK2.out 0).trans rfl, (blk_cell BK2.out 1).trans rfl, (blk_cell BK2.out 2).trans rfl, (blk_cell BK3.out 0).trans rfl, (blk_cell BK3.out 1).trans rfl⟩ (fun hHeld => ?_)
 clear hK K
 refine nm_ ?_
 refine on_ 3 98 10 15 (fun K hK => ?_)
 refine goes_ Try.func14 (by kernel_rfl) rfl #[.agg #[.slice Ao ov.length co, .int .i64 t]] (by rfl) rfl rfl (by (try simp only [List.map_toArray, List.map_cons, List.map_nil]); first | done | rfl) ?_
 refine (B7.out _ (bb_ HB.out)).mono ?_
 rintro e_ w44 ⟨v1_, rfl, ho, hb⟩
 refine ⟨_, rfl, ?_⟩
 obtain ⟨AW, cW, rfl⟩ := Kd.R_slice ho
 have HW := ak_ ho; clear ho
 have n0_ := ak_ (blk_below (pk BK2.out) hb); have n1_ := ak_ (blk_below (pk BK3.out) hb); have n2_ := ak_ (Kd.V_below (Kd.pV HS.out) hb); have n3_ := ak_ (Kd.S_below (Kd.pS HG.out) hb); have n4_ := ak_ (Kd.R_below (Kd.pR HZ.out) hb); have nb_ := ak_ (bs_ (bb_ HB.out) hb); clear BK2 BK3 HS HG HZ HB hb; have BK2 := n0_; have BK3 := n1_; have HS := n2_; have HG := n3_; have HZ := n4_; have HB := nb_; clear nb_ n0_ n1_ n2_ n3_ n4_
 refine hK.out _ _ ⟨(blk_cell BK2.out 0).trans rfl, (blk_cell BK2.out 1).trans rfl, (blk_cell BK2.out 2).trans rfl, (blk_cell BK3.out 0).trans rfl, (blk_cell BK3.out 1).trans rfl⟩ (fun hHeld => ?_)
 clear hK K
 refine nm_ ?_
 refine on_ 4 99 10 31 (fun K hK => ?_)
 refine goes_ Try.func15 (by kernel_rfl) rfl #[.agg #[.slice AZ x0.length cZ, .int .i64 x1, .int .i64 x2], .agg #[.slice AW y0.length cW, .int .i64 y1]] (by rfl) rfl rfl (by (try simp only [List.map_toArray, List.map_cons, List.map_nil]); first | done | rfl) ?_
 refine (A10.out _ AZ cZ AW cW (Kd.R_reads' (Kd.pR HZ.out)).2.2 (Kd.R_reads' HZ.out).2.1 (Kd.R_reads' (Kd.pR HW.out)).2.2 (Kd.R_reads' HW.out).2.1).mono ?_
 rintro e_ w45 ⟨v8, rfl, ho, hb⟩
 refine ⟨_, rfl, ?_⟩
 obtain ⟨Ah, ch, rfl⟩ := Kd.S_slice ho
 have HI := ak_ ho; clear ho HZ HW
 have n0_ := ak_ (blk_below (pk BK2.out) hb); have n1_ := ak_ (blk_below (pk BK3.out) hb); have n2_ := ak_ (Kd.V_below (Kd.pV HS.out) hb); have n3_ := ak_ (Kd.S_below (Kd.pS HG.out) hb); have nb_ := ak_ (bs_ (bb_ HB.out) hb); clear BK2 BK3 HS HG HB hb; have BK2 := n0_; have BK3 := n1_; have HS := n2_; have HG := n3_; have HB := nb_; clear nb_ n0_ n1_ n2_ n3_
 refine hK.out _ _ ⟨(blk_cell BK2.out 0).trans rfl, (blk_cell BK2.out 1).trans rfl, (blk_cell BK2.out 2).trans rfl, (blk_cell BK3.out 0).trans rfl, (blk_cell BK3.out 1).trans rfl⟩ (fun hHeld => ?_)
 clear hK K
 refine nm_ ?_
 refine pu_ 5 94 10 63 ?_
 refine pu_ 6 100 10 127 ?_
 refine pu_ 7 101 10 255 ?_
 refine pu_ 8 15 10 511 ?_
 refine pu_ 9 16 10 1023 ?_
 refine done_ (done_of HT_.out (by kernel_rfl)) ?_
 go_upto_region 34 with ((go_at_call 16; (refine (A26.out _ Ah ch As cs (Kd.S_reads' (Kd.pS HI.out)).2.2 (Kd.S_reads' HI.out).2.1 (Kd.V_reads' (Kd.pV HS.out)).2.2 (Kd.V_reads' HS.out).2.1).mono ?_); rintro e w46 ⟨rfl, hd⟩; have hb := hd.below; clear hd; have n0_ := ak_ (Kd.V_below (Kd.pV HS.out) hb); have n1_ := ak_ (Kd.S_below (Kd.pS HG.out) hb); have nb_ := ak_ (bs_ (bb_ HB.out) hb); clear HS HG HB hb; have HS := n0_; have HG := n1_; have HB := nb_; clear nb_ n0_ n1_))
 go_wp2_with ((go_at_call 22; (refine (HH.out _ (Kd.pS HG.out)).mono ?_); rintro e w47 ⟨rfl, hd⟩; have hb := hd.below; clear hd; have n0_ := ak_ (Kd.S_below (Kd.pS HG.out) hb); have nb_ := ak_ (bs_ (bb_ HB.out) hb); clear HG HB hb; have HG := n0_; have HB := nb_; clear nb_ n0_))
 go_ret
 exact ⟨rfl, (bb_ HB.out)⟩
end Go.Proofs.Ytmdbhpbogbekmaa.QNt
