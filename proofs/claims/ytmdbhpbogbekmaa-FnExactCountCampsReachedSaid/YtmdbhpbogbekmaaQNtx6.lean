/- Contracts of functions of the given program, walked. Conditions: those at each theorem. -/
import Derived.Test.YtmdbhpbogbekmaaQNtx0
import Derived.Test.YtmdbhpbogbekmaaQNtx1
namespace Go.Proofs.Ytmdbhpbogbekmaa.QNt
open Go.RowKit Go.Proofs.YtmdbhpbogbekmaaW.PrintWords Go.Proofs.YtmdbhpbogbekmaaW.PrintLast Go.Proofs.YtmdbhpbogbekmaaW.PrintMore
open List (setIfInBounds_toArray set_cons_zero set_cons_succ map_toArray map_cons map_nil)
attribute [local go_sem] max2_int min2_int max_two min_two max_three min_three max_four min_four
set_option linter.unusedVariables false
set_option maxHeartbeats 8000000
set_option maxRecDepth 100000
set_option linter.unusedSimpArgs false
def spec_l1All.l0 : Nat → Int → Int → List Int → Int → Int → Option (Bool)
 | 0, _, _, _, _, _ => none
 | k + 1, x1, x2, x9, x10, x11 => if x11 < x10 then (if 0 ≤ x11 then (if x11 < (x9.length : Int) then ((spec_l1In.f (rd x9 x11) x1 x2).bind fun t276 => (if t276 = true then (spec_l1All.l0 k x1 x2 x9 x10 (wrap64 (x11 + 1))) else (some false))) else (none)) else (none)) else (some true)
def spec_l1All.f (k : Nat) (l0 : List Int) (a1 : Int) (a2 : Int) : Option (Bool) := spec_l1All.l0 k a1 a2 l0 (l0.length : Int) 0
theorem spec_l1All.mono_l : ∀ k, (∀ y0 y1 y2 y3 y4, LeO (spec_l1All.l0 k y0 y1 y2 y3 y4) (spec_l1All.l0 (k + 1) y0 y1 y2 y3 y4))
 | 0 => fun _ _ _ _ _ r h => by simp [spec_l1All.l0] at h
 | k + 1 => by
  have ih0 := spec_l1All.mono_l k
  ·intro y0 y1 y2 y3 y4
   unfold spec_l1All.l0
   repeat' first
   | (with_reducible first | exact ih0 _ _ _ _ _ | exact LeO.refl _ | exact LeO.none _ | refine LeO.ite ?_ ?_ | refine LeO.bind ?_ (fun _ => ?_))
theorem spec_l1All.mono : ∀ a0 a1 a2 k, LeO (spec_l1All.f k a0 a1 a2) (spec_l1All.f (k + 1) a0 a1 a2) := by
 intro a0 a1 a2 k
 have ih0 := spec_l1All.mono_l k
 unfold spec_l1All.f
 repeat' first
  | (with_reducible first | exact ih0 _ _ _ _ _ | exact LeO.refl _ | exact LeO.none _ | refine LeO.ite ?_ ?_ | refine LeO.bind ?_ (fun _ => ?_))
theorem spec_l1All.calls (k : Nat) (A0 : Option Addr) (c0 : Nat) (l0 : List Int) (a1 : Int) (a2 : Int) (r : Bool) (w : World) (hr0 : Kd.C (Kd.int .i64) w A0 l0.length l0) (hc0 : l0.length ≤ c0) (h : spec_l1All.f k l0 a1 a2 = some r) :
  Calls Try.prog 73 #[.slice A0 l0.length c0, .int .i64 a1, .int .i64 a2] w fun e w' => e = .returned (.bool r) ∧ Drawn0 w w' := by
 have HR0 := ak_ hr0
 have HC0 := ak_ hc0
 clear hr0 hc0
 have H : (spec_l1All.l0 k a1 a2 l0 (l0.length : Int) 0) = some r := h
 clear h
 have H' := ak_ H
 clear H
 go_enter Try.func73, Try.ntmps73
 go_wp2
 go_loopg [11] k (fun kq v11 w' => ∃ (x11_1 : Int), v11 = .int .i64 x11_1 ∧ Aside0 (spec_l1All.l0 kq a1 a2 l0 (l0.length : Int) x11_1 = some r) ∧ Aside0 (kq ≤ k) ∧ Drawn0 w w')
 case atStart => exact ⟨(0), (ry_), H', ⟨Nat.le_refl _⟩, by repeat (first | exact Drawn0.refl _ | apply Drawn0.step)⟩
 case round =>
  clear H'
  try clear p2
  obtain ⟨x11_1, rfl, HA, HK1, ⟨m1, rfl⟩⟩ := hrel
  cases gk with
  | zero => exact absurd HA.out (by simp [spec_l1All.l0])
  | succ k1 =>
   have H := HA.out
   clear HA
   simp only [spec_l1All.l0] at H
   by_cases c4 : x11_1 < (l0.length : Int)
   ·
    rw [if_pos c4] at H
    have c4b0 := decide_eq_true c4
    clear c4
    by_cases c5 : 0 ≤ x11_1
    ·
     rw [if_pos c5] at H
     have c5b0 := decide_eq_true c5
     clear c5
     by_cases c6 : x11_1 < (l0.length : Int)
     ·
      rw [if_pos c6] at H
      have c6b0 := decide_eq_true c6
      clear c6
      replace H := Option.bind_eq_some_iff.mp H
      obtain ⟨t276, A70, H⟩ := H
      replace H : (if t276 = true then (spec_l1All.l0 k1 a1 a2 l0 (l0.length : Int) (wrap64 (x11_1 + 1))) else (some false)) = some r := H
      have A7 := ak_ A70
      clear A70
      by_cases c8 : t276 = true
      ·
       subst c8
       have H1 : (spec_l1All.l0 k1 a1 a2 l0 (l0.length : Int) (wrap64 (x11_1 + 1))) = some r := by rw [if_pos rfl] at H; exact H
       clear H
       have H := H1
       clear H1
       have H' := ak_ H
       clear H
       have p275 : 0 ≤ (x11_1 : Int) := od_
       have q275 : x11_1 < (l0.length : Int) := od_
       obtain ⟨ad275, e275, hx275_0⟩ := Kd.at_int HR0.out x11_1 p275 q275
       cases e275
       replace p275 := eq_true p275
       replace q275 := eq_true q275
       go_wp2_with (first | ((with_reducible refine gate_callee (f := 64) rfl ?_); refine goesL_ (some 18) rfl rfl Try.func64 (by kernel_rfl) rfl #[.int .i64 (rd l0 x11_1), .int .i64 a1, .int .i64 a2] rfl rs_ ?_; (with_reducible refine (spec_l1In.calls (rd l0 x11_1) a1 a2 true _ A7.out).mono ?_); rintro e w' ⟨rfl, ⟨nd, rfl⟩⟩; refine ⟨_, rfl, ?_⟩))
       go_roundg k1
       case measure => have := HK1.out; omega
       case rel => exact ⟨(wrap64 (x11_1 + 1)), (ry_), H', ⟨by have := HK1.out; omega⟩, by repeat (first | exact Drawn0.refl _ | apply Drawn0.step)⟩
      ·
       replace c8 := Bool.eq_false_iff.mpr c8
       subst c8
       have H1 : (some false) = some r := by rw [if_neg (show ¬ (false = true) by decide)] at H; exact H
       clear H
       have H := H1
       clear H1
       obtain rfl := Option.some.inj H
       have p275 : 0 ≤ (x11_1 : Int) := od_
       have q275 : x11_1 < (l0.length : Int) := od_
       obtain ⟨ad275, e275, hx275_0⟩ := Kd.at_int HR0.out x11_1 p275 q275
       cases e275
       replace p275 := eq_true p275
       replace q275 := eq_true q275
       go_wp2_with (first | ((with_reducible refine gate_callee (f := 64) rfl ?_); refine goesL_ (some 18) rfl rfl Try.func64 (by kernel_rfl) rfl #[.int .i64 (rd l0 x11_1), .int .i64 a1, .int .i64 a2] rfl rs_ ?_; (with_reducible refine (spec_l1In.calls (rd l0 x11_1) a1 a2 false _ A7.out).mono ?_); rintro e w' ⟨rfl, ⟨nd, rfl⟩⟩; refine ⟨_, rfl, ?_⟩))
       go_ret
       exact ⟨ry_, by repeat (first | exact Drawn0.refl _ | apply Drawn0.step)⟩
     ·
      rw [if_neg c6] at H
      exact absurd H (by simp)
    ·
     rw [if_neg c5] at H
     exact absurd H (by simp)
   ·
    rw [if_neg c4] at H
    have c4b0 := decide_eq_false c4
    clear c4
    obtain rfl := Option.some.inj H
    go_wp2
    go_ret
    exact ⟨ry_, by repeat (first | exact Drawn0.refl _ | apply Drawn0.step)⟩
def spec_toGood.f (k : Nat) (l0_0 : List Int) (a0_1 : Int) (a0_2 : Int) : Option (Bool) := (spec_l1In.f (l0_0.length : Int) 1 6).bind fun t278 => (if t278 = true then ((spec_l1All.f k l0_0 1 1000).bind fun t279 => (if t279 = true then ((spec_l1In.f a0_1 1 3).bind fun t280 => (if t280 = true then ((spec_l1In.f a0_2 1 2).bind fun t281 => (some t281)) else (some false))) else (some false))) else (some false))
theorem spec_toGood.mono : ∀ a0 a1 a2 k, LeO (spec_toGood.f k a0 a1 a2) (spec_toGood.f (k + 1) a0 a1 a2) := by
 intro a0 a1 a2 k
 unfold spec_toGood.f
 repeat' first
  | (with_reducible first | exact spec_l1All.mono _ _ _ _ | exact LeO.refl _ | exact LeO.none _ | refine LeO.ite ?_ ?_ | refine LeO.bind ?_ (fun _ => ?_))
theorem spec_toGood.calls (k : Nat) (A0_0 : Option Addr) (c0_0 : Nat) (l0_0 : List Int) (a0_1 : Int) (a0_2 : Int) (r : Bool) (w : World) (hr0_0 : Kd.C (Kd.int .i64) w A0_0 l0_0.length l0_0) (hc0_0 : l0_0.length ≤ c0_0) (h : spec_toGood.f k l0_0 a0_1 a0_2 = some r) :
  Calls Try.prog 50 #[.agg #[.slice A0_0 l0_0.length c0_0, .int .i64 a0_1, .int .i64 a0_2]] w fun e w' => e = .returned (.bool r) ∧ Below w.heap.size w w' := by
 have hu33 := Try.underlying33
 have HR0_0 := ak_ hr0_0
 have HC0_0 := ak_ hc0_0
 clear hr0_0 hc0_0
 have HB := ak_ (Below.refl w.heap.size w)
 have H : ((spec_l1In.f (l0_0.length : Int) 1 6).bind fun t278 => (if t278 = true then ((spec_l1All.f k l0_0 1 1000).bind fun t279 => (if t279 = true then ((spec_l1In.f a0_1 1 3).bind fun t280 => (if t280 = true then ((spec_l1In.f a0_2 1 2).bind fun t281 => (some t281)) else (some false))) else (some false))) else (some false))) = some r := h
 clear h
 replace H := Option.bind_eq_some_iff.mp H
 obtain ⟨t278, A20, H⟩ := H
 replace H : (if t278 = true then ((spec_l1All.f k l0_0 1 1000).bind fun t279 => (if t279 = true then ((spec_l1In.f a0_1 1 3).bind fun t280 => (if t280 = true then ((spec_l1In.f a0_2 1 2).bind fun t281 => (some t281)) else (some false))) else (some false))) else (some false)) = some r := H
 have A2 := ak_ A20
 clear A20
 by_cases c3 : t278 = true
 ·
  subst c3
  have H1 : ((spec_l1All.f k l0_0 1 1000).bind fun t279 => (if t279 = true then ((spec_l1In.f a0_1 1 3).bind fun t280 => (if t280 = true then ((spec_l1In.f a0_2 1 2).bind fun t281 => (some t281)) else (some false))) else (some false))) = some r := by rw [if_pos rfl] at H; exact H
  clear H
  have H := H1
  clear H1
  replace H := Option.bind_eq_some_iff.mp H
  obtain ⟨t279, A40, H⟩ := H
  replace H : (if t279 = true then ((spec_l1In.f a0_1 1 3).bind fun t280 => (if t280 = true then ((spec_l1In.f a0_2 1 2).bind fun t281 => (some t281)) else (some false))) else (some false)) = some r := H
  have A4 := ak_ A40
  clear A40
  by_cases c5 : t279 = true
  ·
   subst c5
   have H1 : ((spec_l1In.f a0_1 1 3).bind fun t280 => (if t280 = true then ((spec_l1In.f a0_2 1 2).bind fun t281 => (some t281)) else (some false))) = some r := by rw [if_pos rfl] at H; exact H
   clear H
   have H := H1
   clear H1
   replace H := Option.bind_eq_some_iff.mp H
   obtain ⟨t280, A60, H⟩ := H
   replace H : (if t280 = true then ((spec_l1In.f a0_2 1 2).bind fun t281 => (some t281)) else (some false)) = some r := H
   have A6 := ak_ A60
   clear A60
   by_cases c7 : t280 = true
   ·
    subst c7
    have H1 : ((spec_l1In.f a0_2 1 2).bind fun t281 => (some t281)) = some r := by rw [if_pos rfl] at H; exact H
    clear H
    have H := H1
    clear H1
    replace H := Option.bind_eq_some_iff.mp H
    obtain ⟨t281, A80, H⟩ := H
    replace H : (some t281) = some r := H
    have A8 := ak_ A80
    clear A80
    obtain rfl := Option.some.inj H
    go_enter Try.func50, Try.ntmps50
    go_wp2_with (first | ((with_reducible refine gate_dst (N := 1) rfl ?_); refine bx_ 1 #[.slice A0_0 l0_0.length c0_0, .int .i64 a0_1, .int .i64 a0_2] 33 ?_; intro gb277 hg w9 hbox hb; have BK277 := ak_ (hbox); have GW277 := ak_ ((by rw [hg]; exact (bz_ (bb_ HB.out)) : w.heap.size ≤ gb277)); replace HB := ak_ (bs_ (bb_ HB.out) hb); have GE277 := GW277; clear hb hbox hg; obtain ⟨hcz10_0, hcz10_1, hcz10_2, hfz10_0, hfz10_1, hfz10_2⟩ := c3_ BK277.out) | ((with_reducible refine gate_callee (f := 64) rfl ?_); refine goesL_ (some 6) rfl rfl Try.func64 (by kernel_rfl) rfl #[.int .i64 (l0_0.length : Int), .int .i64 1, .int .i64 6] rfl rs_ ?_; (with_reducible refine (spec_l1In.calls (l0_0.length : Int) 1 6 true _ A2.out).mono ?_); rintro e w' ⟨rfl, ⟨nd, rfl⟩⟩; refine ⟨_, rfl, ?_⟩) | (go_at_call 73; (with_reducible refine (spec_l1All.calls k _ _ l0_0 1 1000 true _ ?side1 ?side2 A4.out).mono ?_); (case side1 => exact cs_ (Kd.C_below HR0_0.out bl_)); (case side2 => exact HC0_0.out); rintro e w' ⟨rfl, ⟨nd, rfl⟩⟩) | (go_at_call 64; (with_reducible refine (spec_l1In.calls a0_1 1 3 true _ A6.out).mono ?_); rintro e w' ⟨rfl, ⟨nd, rfl⟩⟩) | (go_at_call 64; (with_reducible refine (spec_l1In.calls a0_2 1 2 t281 _ A8.out).mono ?_); rintro e w' ⟨rfl, ⟨nd, rfl⟩⟩))
    go_ret
    exact ⟨rx_, bl_⟩
   ·
    replace c7 := Bool.eq_false_iff.mpr c7
    subst c7
    have H1 : (some false) = some r := by rw [if_neg (show ¬ (false = true) by decide)] at H; exact H
    clear H
    have H := H1
    clear H1
    obtain rfl := Option.some.inj H
    go_enter Try.func50, Try.ntmps50
    go_wp2_with (first | ((with_reducible refine gate_dst (N := 1) rfl ?_); refine bx_ 1 #[.slice A0_0 l0_0.length c0_0, .int .i64 a0_1, .int .i64 a0_2] 33 ?_; intro gb277 hg w11 hbox hb; have BK277 := ak_ (hbox); have GW277 := ak_ ((by rw [hg]; exact (bz_ (bb_ HB.out)) : w.heap.size ≤ gb277)); replace HB := ak_ (bs_ (bb_ HB.out) hb); have GE277 := GW277; clear hb hbox hg; obtain ⟨hcz12_0, hcz12_1, hcz12_2, hfz12_0, hfz12_1, hfz12_2⟩ := c3_ BK277.out) | ((with_reducible refine gate_callee (f := 64) rfl ?_); refine goesL_ (some 6) rfl rfl Try.func64 (by kernel_rfl) rfl #[.int .i64 (l0_0.length : Int), .int .i64 1, .int .i64 6] rfl rs_ ?_; (with_reducible refine (spec_l1In.calls (l0_0.length : Int) 1 6 true _ A2.out).mono ?_); rintro e w' ⟨rfl, ⟨nd, rfl⟩⟩; refine ⟨_, rfl, ?_⟩) | (go_at_call 73; (with_reducible refine (spec_l1All.calls k _ _ l0_0 1 1000 true _ ?side1 ?side2 A4.out).mono ?_); (case side1 => exact cs_ (Kd.C_below HR0_0.out bl_)); (case side2 => exact HC0_0.out); rintro e w' ⟨rfl, ⟨nd, rfl⟩⟩) | (go_at_call 64; (with_reducible refine (spec_l1In.calls a0_1 1 3 false _ A6.out).mono ?_); rintro e w' ⟨rfl, ⟨nd, rfl⟩⟩))
    go_ret
    exact ⟨rx_, bl_⟩
  ·
   replace c5 := Bool.eq_false_iff.mpr c5
   subst c5
   have H1 : (some false) = some r := by rw [if_neg (show ¬ (false = true) by decide)] at H; exact H
   clear H
   have H := H1
   clear H1
   obtain rfl := Option.some.inj H
   go_enter Try.func50, Try.ntmps50
   go_wp2_with (first | ((with_reducible refine gate_dst (N := 1) rfl ?_); refine bx_ 1 #[.slice A0_0 l0_0.length c0_0, .int .i64 a0_1, .int .i64 a0_2] 33 ?_; intro gb277 hg w13 hbox hb; have BK277 := ak_ (hbox); have GW277 := ak_ ((by rw [hg]; exact (bz_ (bb_ HB.out)) : w.heap.size ≤ gb277)); replace HB := ak_ (bs_ (bb_ HB.out) hb); have GE277 := GW277; clear hb hbox hg; obtain ⟨hcz14_0, hcz14_1, hcz14_2, hfz14_0, hfz14_1, hfz14_2⟩ := c3_ BK277.out) | ((with_reducible refine gate_callee (f := 64) rfl ?_); refine goesL_ (some 6) rfl rfl Try.func64 (by kernel_rfl) rfl #[.int .i64 (l0_0.length : Int), .int .i64 1, .int .i64 6] rfl rs_ ?_; (with_reducible refine (spec_l1In.calls (l0_0.length : Int) 1 6 true _ A2.out).mono ?_); rintro e w' ⟨rfl, ⟨nd, rfl⟩⟩; refine ⟨_, rfl, ?_⟩) | (go_at_call 73; (with_reducible refine (spec_l1All.calls k _ _ l0_0 1 1000 false _ ?side1 ?side2 A4.out).mono ?_); (case side1 => exact cs_ (Kd.C_below HR0_0.out bl_)); (case side2 => exact HC0_0.out); rintro e w' ⟨rfl, ⟨nd, rfl⟩⟩))
   go_ret
   exact ⟨rx_, bl_⟩
 ·
  replace c3 := Bool.eq_false_iff.mpr c3
  subst c3
  have H1 : (some false) = some r := by rw [if_neg (show ¬ (false = true) by decide)] at H; exact H
  clear H
  have H := H1
  clear H1
  obtain rfl := Option.some.inj H
  go_enter Try.func50, Try.ntmps50
  go_wp2_with (first | ((with_reducible refine gate_dst (N := 1) rfl ?_); refine bx_ 1 #[.slice A0_0 l0_0.length c0_0, .int .i64 a0_1, .int .i64 a0_2] 33 ?_; intro gb277 hg w15 hbox hb; have BK277 := ak_ (hbox); have GW277 := ak_ ((by rw [hg]; exact (bz_ (bb_ HB.out)) : w.heap.size ≤ gb277)); replace HB := ak_ (bs_ (bb_ HB.out) hb); have GE277 := GW277; clear hb hbox hg; obtain ⟨hcz16_0, hcz16_1, hcz16_2, hfz16_0, hfz16_1, hfz16_2⟩ := c3_ BK277.out) | ((with_reducible refine gate_callee (f := 64) rfl ?_); refine goesL_ (some 6) rfl rfl Try.func64 (by kernel_rfl) rfl #[.int .i64 (l0_0.length : Int), .int .i64 1, .int .i64 6] rfl rs_ ?_; (with_reducible refine (spec_l1In.calls (l0_0.length : Int) 1 6 false _ A2.out).mono ?_); rintro e w' ⟨rfl, ⟨nd, rfl⟩⟩; refine ⟨_, rfl, ?_⟩))
  go_ret
  exact ⟨rx_, bl_⟩
def spec_toCampOf.l0 : Nat → Int → Int → Int → List Int → Int → Int → List Bool → Int → Option (List Bool × Int)
 | 0, _, _, _, _, _, _, _, _ => none
 | k + 1, x1, x15, x16, x283000, x283001, x283002, x285000, x285001 => if x16 < x15 then (if (wrap64 (x283002 + 1)) = 0 then (none) else (if 0 ≤ x16 then (if x285000.length < 140737488355328 then (spec_toCampOf.l0 k x1 x15 (wrap64 (x16 + 1)) x283000 x283001 x283002 (x285000 ++ [((Int.tmod (shr .i64 (wrap64 (Int.tdiv x1 (wrap64 (x283002 + 1)))) x16) 2) == 1)]) x285001) else (none)) else (none))) else (some (x285000, x285001))
def spec_toCampOf.f (k : Nat) (l0_0 : List Int) (a0_1 : Int) (a0_2 : Int) (a1 : Int) : Option (List Bool × Int) := if (wrap64 (a0_2 + 1)) = 0 then (none) else (spec_toCampOf.l0 k a1 (l0_0.length : Int) 0 l0_0 a0_1 a0_2 ([] : List Bool) (Int.tmod a1 (wrap64 (a0_2 + 1))))
theorem spec_toCampOf.mono_l : ∀ k, (∀ y0 y1 y2 y3 y4 y5 y6 y7, LeO (spec_toCampOf.l0 k y0 y1 y2 y3 y4 y5 y6 y7) (spec_toCampOf.l0 (k + 1) y0 y1 y2 y3 y4 y5 y6 y7))
 | 0 => fun _ _ _ _ _ _ _ _ r h => by simp [spec_toCampOf.l0] at h
 | k + 1 => by
  have ih0 := spec_toCampOf.mono_l k
  ·intro y0 y1 y2 y3 y4 y5 y6 y7
   unfold spec_toCampOf.l0
   repeat' first
   | (with_reducible first | exact ih0 _ _ _ _ _ _ _ _ | exact LeO.refl _ | exact LeO.none _ | refine LeO.ite ?_ ?_ | refine LeO.bind ?_ (fun _ => ?_))
theorem spec_toCampOf.mono : ∀ a0 a1 a2 a3 k, LeO (spec_toCampOf.f k a0 a1 a2 a3) (spec_toCampOf.f (k + 1) a0 a1 a2 a3) := by
 intro a0 a1 a2 a3 k
 have ih0 := spec_toCampOf.mono_l k
 unfold spec_toCampOf.f
 repeat' first
  | (with_reducible first | exact ih0 _ _ _ _ _ _ _ _ | exact LeO.refl _ | exact LeO.none _ | refine LeO.ite ?_ ?_ | refine LeO.bind ?_ (fun _ => ?_))
def spec_toCampOf.T5 : Bool × List (List Nat × List Nat) := (true, [([], []), ([0], [0]), ([], []), ([], []), ([3], [3]), ([4], [4]), ([2, 5], [2, 5]), ([], []), ([6, 7], [6, 7]), ([8], [8]), ([9], [9]), ([10], [10]), ([1, 11], [1, 11]), ([0, 1, 2, 3, 4, 5, 6, 7, 8, 9, 10, 11, 12], []), ([13, 12, 12, 0, 1, 2, 3, 4, 5, 6, 7, 8, 9, 10, 11, 12], [12, 13])])
def spec_toCampOf.B5 : List Nat := [0, 1, 0, 0, 8, 24, 60, 0, 252, 508, 1020, 2044, 4095, 8191, 16383]
theorem spec_toCampOf.tab5 : rtab .any (opsOf Try.f51 5) = spec_toCampOf.T5 := by kernel_rfl
theorem spec_toCampOf.bits5 : waitsOk spec_toCampOf.T5.2 spec_toCampOf.B5 = true := by kernel_rfl
theorem spec_toCampOf.calls (k : Nat) (A0_0 : Option Addr) (c0_0 : Nat) (l0_0 : List Int) (a0_1 : Int) (a0_2 : Int) (a1 : Int) (r1 : List Bool) (r2 : Int) (w : World) (hr0_0 : Kd.C (Kd.int .i64) w A0_0 l0_0.length l0_0) (hc0_0 : l0_0.length ≤ c0_0) (h : spec_toCampOf.f k l0_0 a0_1 a0_2 a1 = some (r1, r2)) :
  Calls Try.prog 51 #[.agg #[.slice A0_0 l0_0.length c0_0, .int .i64 a0_1, .int .i64 a0_2], .int .i64 a1] w fun e w' => ∃ v0_ : Value, e = .returned (.agg #[v0_, .int .i64 r2]) ∧ Kd.R Kd.bool 4 w' w.heap.size (fun _ => True) v0_ r1 ∧ Below w.heap.size w w' := by
 have hu33 := Try.underlying33
 have hu35 := Try.underlying35
 have HR0_0 := ak_ hr0_0
 have HC0_0 := ak_ hc0_0
 clear hr0_0 hc0_0
 have HB := ak_ (Below.refl w.heap.size w)
 have H : (if (wrap64 (a0_2 + 1)) = 0 then (none) else (spec_toCampOf.l0 k a1 (l0_0.length : Int) 0 l0_0 a0_1 a0_2 ([] : List Bool) (Int.tmod a1 (wrap64 (a0_2 + 1))))) = some (r1, r2) := h
 clear h
 by_cases c3 : (wrap64 (a0_2 + 1)) = 0
 ·
  rw [if_pos c3] at H
  exact absurd H (by simp)
 ·
  rw [if_neg c3] at H
  have c3b0 : ((wrap64 (a0_2 + 1)) == 0) = false := beq_eq_false_iff_ne.mpr c3
  have c3b1 : ((wrap64 (a0_2 + 1)) != 0) = true := bne_iff_ne.mpr c3
  have H' := ak_ H
  clear H
  go_enter Try.func51, Try.ntmps51
  go_wp2_with (first | ((with_reducible refine gate_dst (N := 2) rfl ?_); refine bx_ 2 #[.slice A0_0 l0_0.length c0_0, .int .i64 a0_1, .int .i64 a0_2] 33 ?_; intro gb282 hg w4 hbox hb; have BK282 := ak_ (hbox); have GW282 := ak_ ((by rw [hg]; exact (bz_ (bb_ HB.out)) : w.heap.size ≤ gb282)); replace HB := ak_ (bs_ (bb_ HB.out) hb); have GE282 := GW282; clear hb hbox hg) | ((with_reducible refine gate_dst (N := 4) rfl ?_); refine bx_ 4 #[.slice none 0 0, .int .i64 0] 35 ?_; intro gb283 hg w5 hbox hb; have BK283 := ak_ (hbox); have GW283 := ak_ ((by rw [hg]; exact (bz_ bl_) : w.heap.size ≤ gb283)); replace HB := ak_ (bs_ bl_ hb); have GE283 := GW283; have NB282_283 := ak_ ((by rw [hg]; exact Nat.ne_of_lt (blk_lt (pk BK282.out)) : gb282 ≠ gb283)); replace BK282 := ak_ (blk_below (pk BK282.out) hb); have NB283_282 := ak_ NB282_283.out.symm; clear hb hbox hg; have hnb6 := NB282_283.out; have hnc6 := NB283_282.out; obtain ⟨hcz7_0, hcz7_1, hcz7_2, hfz7_0, hfz7_1, hfz7_2⟩ := c3_ BK282.out) | ((with_reducible refine gate_dst (N := 5) rfl ?_); refine bx_ 5 #[.slice none 0 0, .int .i64 0] 35 ?_; intro gb284 hg w8 hbox hb; have BK284 := ak_ (hbox); have GW284 := ak_ ((by rw [hg]; exact (bz_ bl_) : w.heap.size ≤ gb284)); replace HB := ak_ (bs_ bl_ hb); have GE284 := GW284; have NB282_284 := ak_ ((by rw [hg]; exact Nat.ne_of_lt (blk_lt (pk BK282.out)) : gb282 ≠ gb284)); replace BK282 := ak_ (blk_below (pk BK282.out) hb); have NB284_282 := ak_ NB282_284.out.symm; have NB283_284 := ak_ ((by rw [hg]; exact Nat.ne_of_lt (blk_lt (pk BK283.out)) : gb283 ≠ gb284)); replace BK283 := ak_ (blk_below (pk BK283.out) hb); have NB284_283 := ak_ NB283_284.out.symm; clear hb hbox hg; have hnb9 := NB284_282.out; have hnc9 := NB282_284.out; have hnb10 := NB284_283.out; have hnc10 := NB283_284.out; obtain ⟨hcz11_0, hcz11_1, hfz11_0, hfz11_1⟩ := c2_ BK284.out; obtain ⟨hcz12_0, hcz12_1, hcz12_2, hfz12_0, hfz12_1, hfz12_2⟩ := c3_ BK282.out))
  go_loopg [16] k (fun kq v16 w' => ∃ (x16_1 : Int) (x285000_1 : List Bool) (u285000 : Value), v16 = .int .i64 x16_1 ∧ Aside0 (spec_toCampOf.l0 kq a1 (l0_0.length : Int) x16_1 l0_0 a0_1 a0_2 x285000_1 (Int.tmod a1 (wrap64 (a0_2 + 1))) = some (r1, r2)) ∧ Aside0 (kq ≤ k) ∧ Aside0 (Kd.R Kd.bool 4 w' w.heap.size (fun _ => True) u285000 x285000_1) ∧ Aside0 (w'.heap[gb282]? = some (.cells #[(.slice A0_0 l0_0.length c0_0), .int .i64 a0_1, .int .i64 a0_2] 33 (0, 0))) ∧ Aside0 (w'.heap[gb283]? = some (.cells #[(.slice none 0 0), .int .i64 0] 35 (0, 0))) ∧ Aside0 (w'.heap[gb284]? = some (.cells #[u285000, .int .i64 (Int.tmod a1 (wrap64 (a0_2 + 1)))] 35 (0, 0))) ∧ Aside0 (Below w.heap.size w w'))
  case atStart => exact ⟨(0), (([] : List Bool)), (.slice none 0 0), (ry_), H', ⟨Nat.le_refl _⟩, ⟨by first | exact Kd.R_nil _ _ _ _ _ | exact Kd.N_nil _ _ _ _ _ | exact Kd.V_nil _ _ _ _ _ | exact Kd.Q_nil _ _ _ _ _ | exact Kd.S_nil _ _ _ _ _⟩, ⟨by (with_reducible repeat (first | refine kN_ ?_ _ | refine k1_ ?_ | refine ka_ ?_ _)); refine blk_far ?_ NB282_284.out _; (with_reducible repeat (first | refine kN_ ?_ _ | refine k1_ ?_ | refine ka_ ?_ _)); refine blk_far ?_ NB282_284.out _; exact pk BK282.out⟩, ⟨by (with_reducible repeat (first | refine kN_ ?_ _ | refine k1_ ?_ | refine ka_ ?_ _)); refine blk_far ?_ NB283_284.out _; (with_reducible repeat (first | refine kN_ ?_ _ | refine k1_ ?_ | refine ka_ ?_ _)); refine blk_far ?_ NB283_284.out _; exact pk BK283.out⟩, ⟨by (with_reducible repeat (first | refine kN_ ?_ _ | refine k1_ ?_ | refine ka_ ?_ _)); refine blk_put (cs := #[.slice none 0 0, .int .i64 0]) ?_ 1 _ rfl; (with_reducible repeat (first | refine kN_ ?_ _ | refine k1_ ?_ | refine ka_ ?_ _)); refine blk_put (cs := #[.slice none 0 0, .int .i64 0]) ?_ 0 _ rfl; exact pk BK284.out⟩, ⟨bl_⟩⟩
  case round =>
   clear H'
   try clear c1
   try clear p2
   try clear c3
   try clear c3b0
   try clear c3b1
   try clear c5
   try clear c6
   try clear p6
   try clear c9
   try clear c10
   try clear hcz11_0
   try clear hcz11_1
   try clear hcz12_0
   try clear hcz12_1
   try clear hcz12_2
   try clear hcz7_0
   try clear hcz7_1
   try clear hcz7_2
   try clear hfz11_0
   try clear hfz11_1
   try clear hfz12_0
   try clear hfz12_1
   try clear hfz12_2
   try clear hfz7_0
   try clear hfz7_1
   try clear hfz7_2
   obtain ⟨x16_1, x285000_1, u285000, rfl, HA, HK1, HO_285000, BK282, BK283, BK284, HB⟩ := hrel
   cases gk with
   | zero => exact absurd HA.out (by simp [spec_toCampOf.l0])
   | succ k1 =>
    have H := HA.out
    clear HA
    simp only [spec_toCampOf.l0] at H
    by_cases c13 : x16_1 < (l0_0.length : Int)
    ·
     rw [if_pos c13] at H
     have c13b0 := decide_eq_true c13
     clear c13
     by_cases c14 : (wrap64 (a0_2 + 1)) = 0
     ·
      rw [if_pos c14] at H
      exact absurd H (by simp)
     ·
      rw [if_neg c14] at H
      have c14b0 : ((wrap64 (a0_2 + 1)) == 0) = false := beq_eq_false_iff_ne.mpr c14
      have c14b1 : ((wrap64 (a0_2 + 1)) != 0) = true := bne_iff_ne.mpr c14
      by_cases c15 : 0 ≤ x16_1
      ·
       rw [if_pos c15] at H
       have c15b0 := eq_true c15
       have c15b1 := decide_eq_true c15
       clear c15
       obtain ⟨ji16, hji16⟩ : ∃ j_ : Int, (shr .i64 (wrap64 (Int.tdiv a1 (wrap64 (a0_2 + 1)))) x16_1) = j_ := ⟨_, rfl⟩
       replace H : (if x285000_1.length < 140737488355328 then (spec_toCampOf.l0 k1 a1 (l0_0.length : Int) (wrap64 (x16_1 + 1)) l0_0 a0_1 a0_2 (x285000_1 ++ [((Int.tmod (ji16) 2) == 1)]) (Int.tmod a1 (wrap64 (a0_2 + 1)))) else (none)) = some (r1, r2) := by first | (rw [hji16] at H; exact H) | (simp only [hji16] at H ⊢; exact H)
       have hji16_ : ((wrap64 (Int.tdiv a1 (wrap64 (a0_2 + 1)))) / 2 ^ min x16_1.toNat 64) = ji16 := hji16
       have hji16z : x16_1 ≤ 64 → ((wrap64 (Int.tdiv a1 (wrap64 (a0_2 + 1)))) / 2 ^ x16_1.toNat) = ji16 := shr_small hji16
       by_cases c17 : x285000_1.length < 140737488355328
       ·
        rw [if_pos c17] at H
        have LMc17 := ak_ c17
        clear c17
        obtain ⟨y285, hy285⟩ : ∃ y_ : List Bool, y_ = (x285000_1 ++ [((Int.tmod (ji16) 2) == 1)]) := ⟨_, rfl⟩
        replace H : (spec_toCampOf.l0 k1 a1 (l0_0.length : Int) (wrap64 (x16_1 + 1)) l0_0 a0_1 a0_2 y285 (Int.tmod a1 (wrap64 (a0_2 + 1)))) = some (r1, r2) := by first | (rw [hy285]; exact H) | exact H
        have Ny285 := ak_ hy285
        clear hy285
        have H' := ak_ H
        clear H
        try go_wp2
        have n0_ := ak_ (Kd.R_drew HO_285000.out)
        have n1_ := ak_ (k1_ BK282.out)
        have n2_ := ak_ (k1_ BK283.out)
        have n3_ := ak_ (k1_ BK284.out)
        have n4_ := ak_ (b1_ HB.out)
        clear HO_285000 BK282 BK283 BK284 HB
        have HO_285000 := n0_; have BK282 := n1_; have BK283 := n2_; have BK284 := n3_; have HB := n4_
        clear n0_ n1_ n2_ n3_ n4_
        refine start_ (n := 15) (S := fun w' => w'.cell? ⟨gb284, 0, none⟩ = some (u285000) ∧ w'.cell? ⟨gb284, 1, none⟩ = some (.int .i64 (Int.tmod a1 (wrap64 (a0_2 + 1)))) ∧ w'.cell? ⟨gb282, 0, none⟩ = some (.slice A0_0 l0_0.length c0_0) ∧ w'.cell? ⟨gb282, 1, none⟩ = some (.int .i64 a0_1) ∧ w'.cell? ⟨gb282, 2, none⟩ = some (.int .i64 a0_2)) (ds := [14]) (mb_ 15 0) (by kernel_rfl) rfl rfl ⟨(blk_cell BK284.out 0).trans rfl, (blk_cell BK284.out 1).trans rfl, (blk_cell BK282.out 0).trans rfl, (blk_cell BK282.out 1).trans rfl, (blk_cell BK282.out 2).trans rfl⟩ (fun hHeld => ?_); refine with_tabW spec_toCampOf.tab5 spec_toCampOf.bits5 (fun HT_ HW_ => ?_)
        generalize wr.drew = w18 at HO_285000 BK282 BK283 BK284 HB hHeld ⊢
        refine pu_ 0 19 15 1 ?_
        refine pu_ 2 21 15 5 ?_
        refine pu_ 3 22 15 13 ?_
        refine pu_ 7 26 15 141 ?_
        refine tk_ 1 20 15 143 ?_ (hy := by rintro w' ⟨s0, s1, s2, s3, s4⟩; go_simp; with_reducible rfl)
        refine tk_ 4 23 15 159 ?_ (hy := by rintro w' ⟨s0, s1, s2, s3, s4⟩; go_simp; with_reducible rfl)
        refine pu_ 5 24 15 191 ?_
        refine pu_ 6 25 15 255 ?_
        refine pu_ 8 27 15 511 ?_
        refine pu_ 9 28 15 1023 ?_
        refine pu_ 10 29 15 2047 ?_
        refine on_ 11 30 15 4095 (fun K hK => ?_)
        refine value_ (w1 := ?_) (v := ?_) (by rfl) rfl ?_ ?_
        rotate_left 2
        ·
         go_simp
         constructor
         ·
          rfl
         ·
          rfl
        refine hK.out _ _ ⟨(blk_cell (ka_ BK284.out _) 0).trans rfl, (blk_cell (ka_ BK284.out _) 1).trans rfl, (blk_cell (ka_ BK282.out _) 0).trans rfl, (blk_cell (ka_ BK282.out _) 1).trans rfl, (blk_cell (ka_ BK282.out _) 2).trans rfl⟩ (fun hHeld => ?_)
        clear hK K
        refine nm_ ?_
        refine on_ 12 31 15 8191 (fun K hK => ?_)
        refine Kd.R_append_step Kd.bool (w0 := w) w.heap.size (by rfl) (.tmp 20) (.tmp 30) 25 4 (.bool false) 1 rfl Try.underlying25 info4 rfl (by decide) (by omega) u285000 x285000_1 ((Int.tmod (ji16) 2) == 1) [.bool ((Int.tmod (ji16) 2) == 1)] (fun _ => True) (fun _ => False) rfl rfl ?aP (fun _ hk => hk.elim) ?aF ?aO ?aB ?aS ?aL ?_
        (case aP => exact rfl)
        (case aB => exact bl_)
        (case aF => exact (fun _ _ => trivial))
        (case aO => exact (Kd.pR HO_285000.out))
        (case aS => exact (bz_ bl_))
        (case aL => have := LMc17.out; omega)
        intro v286 w19 ho hb hg hat
        rw [← Ny285.out] at ho
        have n0_ := ak_ (blk_grown (pk BK282.out) hg (Kd.R_ne HO_285000.out BK282.out (by decide)))
        have n1_ := ak_ (blk_grown (pk BK283.out) hg (Kd.R_ne HO_285000.out BK283.out (by decide)))
        have n2_ := ak_ (blk_grown (pk BK284.out) hg (Kd.R_ne HO_285000.out BK284.out (by decide)))
        have n3_ := ak_ (hb)
        have n4_ := ak_ (ho)
        clear BK282 BK283 BK284 HB HO_285000
        have BK282 := n0_; have BK283 := n1_; have BK284 := n2_; have HB := n3_; have HO287 := n4_
        clear n0_ n1_ n2_ n3_ n4_ ho hb hg hat
        obtain ⟨Ao20, co20, eo20⟩ := Kd.R_slice HO287.out
        (first | subst eo20 | (injection eo20 with f1_ f2_ f3_; have f4_ := f1_.symm; have f5_ := f3_.symm; clear f1_ f2_ f3_; subst f4_; subst f5_))
        refine hK.out _ _ ⟨(blk_cell BK284.out 0).trans rfl, (blk_cell BK284.out 1).trans rfl, (blk_cell BK282.out 0).trans rfl, (blk_cell BK282.out 1).trans rfl, (blk_cell BK282.out 2).trans rfl⟩ (fun hHeld => ?_)
        clear hK K
        refine nm_ ?_
        refine pu_ 13 32 15 16383 ?_
        refine last_ (i := 14) (N := none) (mb_ 15 32767) rfl rfl (one_of HT_.out (by kernel_rfl)) (by decide) (fun K hK => ?_)
        have hs21 : w19.cell? ⟨gb284, 0, none⟩ = some (u285000) := (blk_cell BK284.out 0).trans rfl
        have hfs21 := blk_frozen BK284.out 0
        have hns21_0 := NB282_284.out
        have hns21_1 := NB283_284.out
        have hms21_0 := NB284_282.out
        have hms21_1 := NB284_283.out
        refine skip_ (w1 := ?_) (by rfl) rfl ?_ ?_
        rotate_left
        ·
         go_simp
         rfl
        refine hK.out _ _ ?_
        clear hK K
        refine done_ (done_of HT_.out (by kernel_rfl)) ?_
        try go_wp2
        go_roundg k1
        case measure => have := HK1.out; omega
        case rel => exact ⟨(wrap64 (x16_1 + 1)), (y285), (.slice Ao20 y285.length co20), (ry_), H', ⟨by have := HK1.out; omega⟩, ⟨by (with_reducible repeat (first | apply Kd.R_alloc | apply Kd.R_drewN | apply Kd.R_drew)); exact Kd.R_mono (Kd.R_far (p := ⟨gb284, 0, none⟩) (Kd.R_types HO287.out BK284.out (by decide)) (fun _ hk => hk.2) (.slice Ao20 y285.length co20)) (fun _ hk => trivial)⟩, ⟨by (with_reducible repeat (first | refine kN_ ?_ _ | refine k1_ ?_ | refine ka_ ?_ _)); refine blk_far ?_ NB282_284.out _; exact pk BK282.out⟩, ⟨by (with_reducible repeat (first | refine kN_ ?_ _ | refine k1_ ?_ | refine ka_ ?_ _)); refine blk_far ?_ NB283_284.out _; exact pk BK283.out⟩, ⟨by (with_reducible repeat (first | refine kN_ ?_ _ | refine k1_ ?_ | refine ka_ ?_ _)); refine blk_put (cs := #[u285000, .int .i64 (Int.tmod a1 (wrap64 (a0_2 + 1)))]) ?_ 0 _ rfl; exact pk BK284.out⟩, ⟨bl_⟩⟩
       ·
        rw [if_neg c17] at H
        exact absurd H (by simp)
      ·
       rw [if_neg c15] at H
       exact absurd H (by simp)
    ·
     rw [if_neg c13] at H
     have c13b0 := decide_eq_false c13
     clear c13
     simp only [Option.some.injEq, Prod.mk.injEq] at H
     obtain ⟨rfl, rfl⟩ := H
     have hnb22 := NB284_282.out
     have hnc22 := NB282_284.out
     have hnb23 := NB284_283.out
     have hnc23 := NB283_284.out
     obtain ⟨hcz24_0, hcz24_1, hfz24_0, hfz24_1⟩ := c2_ BK284.out
     obtain ⟨Ao25, co25, eo25⟩ := Kd.R_slice HO_285000.out
     subst eo25
     have hnb26 := NB283_282.out
     have hnc26 := NB282_283.out
     obtain ⟨hcz27_0, hcz27_1, hfz27_0, hfz27_1⟩ := c2_ BK283.out
     go_wp2
     refine bodyPost_ret (results_cell_row rfl _ _ gb283 35 #[.slice Ao25 x285000_1.length co25, .int .i64 (Int.tmod a1 (wrap64 (a0_2 + 1)))] (0, 0) _ rfl (by (with_reducible repeat (first | refine kN_ ?_ _ | refine k1_ ?_ | refine ka_ ?_ _)); refine blk_put (cs := #[.slice Ao25 x285000_1.length co25, .int .i64 0]) ?_ 1 _ rfl; (with_reducible repeat (first | refine kN_ ?_ _ | refine k1_ ?_ | refine ka_ ?_ _)); refine blk_put (cs := #[.slice none 0 0, .int .i64 0]) ?_ 0 _ rfl; exact pk BK283.out) Try.underlying35 rfl (by kernel_rfl)) rfl ?_
     exact ⟨_, rx_, by (with_reducible repeat (first | apply Kd.R_alloc | apply Kd.R_drewN | apply Kd.R_drew)); exact Kd.R_mono (Kd.R_far (p := ⟨gb283, 1, none⟩) (Kd.R_far (p := ⟨gb283, 0, none⟩) (Kd.R_types HO_285000.out BK283.out (by decide)) (fun _ hk => hk.2) (.slice Ao25 x285000_1.length co25)) (fun _ hk => hk.2) (.int .i64 (Int.tmod a1 (wrap64 (a0_2 + 1))))) (fun _ hk => trivial), bl_⟩
def spec_toCode.l0 : Nat → Int → List Bool → Int → Int → List Int → Int → Int → Option (Int)
 | 0, _, _, _, _, _, _, _ => none
 | k + 1, x5, x11, x12, x13, x289000, x289001, x289002 => if x13 < x12 then (if 0 ≤ x13 then (if x13 < (x11.length : Int) then (if rdOf false x11 x13 = true then (spec_toCode.l0 k (wrap64 (x5 + (shl .i64 (wrap64 (x289002 + 1)) x13))) x11 x12 (wrap64 (x13 + 1)) x289000 x289001 x289002) else (spec_toCode.l0 k x5 x11 x12 (wrap64 (x13 + 1)) x289000 x289001 x289002)) else (none)) else (none)) else (some x5)
def spec_toCode.f (k : Nat) (l0_0 : List Int) (a0_1 : Int) (a0_2 : Int) (l1_0 : List Bool) (a1_1 : Int) : Option (Int) := spec_toCode.l0 k a1_1 l1_0 (l1_0.length : Int) 0 l0_0 a0_1 a0_2
theorem spec_toCode.mono_l : ∀ k, (∀ y0 y1 y2 y3 y4 y5 y6, LeO (spec_toCode.l0 k y0 y1 y2 y3 y4 y5 y6) (spec_toCode.l0 (k + 1) y0 y1 y2 y3 y4 y5 y6))
 | 0 => fun _ _ _ _ _ _ _ r h => by simp [spec_toCode.l0] at h
 | k + 1 => by
  have ih0 := spec_toCode.mono_l k
  ·intro y0 y1 y2 y3 y4 y5 y6
   unfold spec_toCode.l0
   repeat' first
   | (with_reducible first | exact ih0 _ _ _ _ _ _ _ | exact LeO.refl _ | exact LeO.none _ | refine LeO.ite ?_ ?_ | refine LeO.bind ?_ (fun _ => ?_))
theorem spec_toCode.mono : ∀ a0 a1 a2 a3 a4 k, LeO (spec_toCode.f k a0 a1 a2 a3 a4) (spec_toCode.f (k + 1) a0 a1 a2 a3 a4) := by
 intro a0 a1 a2 a3 a4 k
 have ih0 := spec_toCode.mono_l k
 unfold spec_toCode.f
 repeat' first
  | (with_reducible first | exact ih0 _ _ _ _ _ _ _ | exact LeO.refl _ | exact LeO.none _ | refine LeO.ite ?_ ?_ | refine LeO.bind ?_ (fun _ => ?_))
theorem spec_toCode.calls (k : Nat) (A0_0 : Option Addr) (c0_0 : Nat) (l0_0 : List Int) (a0_1 : Int) (a0_2 : Int) (A1_0 : Option Addr) (c1_0 : Nat) (l1_0 : List Bool) (a1_1 : Int) (r : Int) (w : World) (hr0_0 : Kd.C (Kd.int .i64) w A0_0 l0_0.length l0_0) (hc0_0 : l0_0.length ≤ c0_0) (hr1_0 : Kd.C Kd.bool w A1_0 l1_0.length l1_0) (hc1_0 : l1_0.length ≤ c1_0) (h : spec_toCode.f k l0_0 a0_1 a0_2 l1_0 a1_1 = some r) :
  Calls Try.prog 52 #[.agg #[.slice A0_0 l0_0.length c0_0, .int .i64 a0_1, .int .i64 a0_2], .agg #[.slice A1_0 l1_0.length c1_0, .int .i64 a1_1]] w fun e w' => e = .returned (.int .i64 r) ∧ Below w.heap.size w w' := by
 have hu33 := Try.underlying33
 have hu35 := Try.underlying35
 have HR0_0 := ak_ hr0_0
 have HC0_0 := ak_ hc0_0
 clear hr0_0 hc0_0
 have HR1_0 := ak_ hr1_0
 have HC1_0 := ak_ hc1_0
 clear hr1_0 hc1_0
 have HB := ak_ (Below.refl w.heap.size w)
 have H : (spec_toCode.l0 k a1_1 l1_0 (l1_0.length : Int) 0 l0_0 a0_1 a0_2) = some r := h
 clear h
 have H' := ak_ H
 clear H
 go_enter Try.func52, Try.ntmps52
 go_wp2_with (first | ((with_reducible refine gate_dst (N := 2) rfl ?_); refine bx_ 2 #[.slice A0_0 l0_0.length c0_0, .int .i64 a0_1, .int .i64 a0_2] 33 ?_; intro gb288 hg w3 hbox hb; have BK288 := ak_ (hbox); have GW288 := ak_ ((by rw [hg]; exact (bz_ (bb_ HB.out)) : w.heap.size ≤ gb288)); replace HB := ak_ (bs_ (bb_ HB.out) hb); have GE288 := GW288; clear hb hbox hg) | ((with_reducible refine gate_dst (N := 3) rfl ?_); refine bx_ 3 #[.slice A1_0 l1_0.length c1_0, .int .i64 a1_1] 35 ?_; intro gb289 hg w4 hbox hb; have BK289 := ak_ (hbox); have GW289 := ak_ ((by rw [hg]; exact (bz_ bl_) : w.heap.size ≤ gb289)); replace HB := ak_ (bs_ bl_ hb); have GE289 := GW289; have NB288_289 := ak_ ((by rw [hg]; exact Nat.ne_of_lt (blk_lt (pk BK288.out)) : gb288 ≠ gb289)); replace BK288 := ak_ (blk_below (pk BK288.out) hb); have NB289_288 := ak_ NB288_289.out.symm; clear hb hbox hg; have hnb5 := NB289_288.out; have hnc5 := NB288_289.out; obtain ⟨hcz6_0, hcz6_1, hfz6_0, hfz6_1⟩ := c2_ BK289.out))
 go_loopg [5, 13] k (fun kq v5 v13 w' => ∃ (x5_1 : Int) (x13_1 : Int), v5 = .int .i64 x5_1 ∧ v13 = .int .i64 x13_1 ∧ Aside0 (spec_toCode.l0 kq x5_1 l1_0 (l1_0.length : Int) x13_1 l0_0 a0_1 a0_2 = some r) ∧ Aside0 (kq ≤ k) ∧ Aside0 (w'.heap[gb288]? = some (.cells #[(.slice A0_0 l0_0.length c0_0), .int .i64 a0_1, .int .i64 a0_2] 33 (0, 0))) ∧ Aside0 (w'.heap[gb289]? = some (.cells #[(.slice A1_0 l1_0.length c1_0), .int .i64 a1_1] 35 (0, 0))) ∧ Aside0 (Below w.heap.size w w'))
 case atStart => exact ⟨(a1_1), (0), (ry_), (ry_), H', ⟨Nat.le_refl _⟩, ⟨pk BK288.out⟩, ⟨pk BK289.out⟩, ⟨bl_⟩⟩
 case round =>
  clear H'
  try clear c1
  try clear p2
  try clear c5
  try clear hcz6_0
  try clear hcz6_1
  try clear hfz6_0
  try clear hfz6_1
  obtain ⟨x5_1, x13_1, rfl, rfl, HA, HK1, BK288, BK289, HB⟩ := hrel
  cases gk with
  | zero => exact absurd HA.out (by simp [spec_toCode.l0])
  | succ k1 =>
   have H := HA.out
   clear HA
   simp only [spec_toCode.l0] at H
   by_cases c7 : x13_1 < (l1_0.length : Int)
   ·
    rw [if_pos c7] at H
    have c7b0 := decide_eq_true c7
    clear c7
    by_cases c8 : 0 ≤ x13_1
    ·
     rw [if_pos c8] at H
     have c8b0 := decide_eq_true c8
     clear c8
     by_cases c9 : x13_1 < (l1_0.length : Int)
     ·
      rw [if_pos c9] at H
      have c9b0 := decide_eq_true c9
      clear c9
      obtain ⟨bq10, hbq10⟩ : ∃ b_ : Bool, b_ = (rdOf false l1_0 x13_1) := ⟨_, rfl⟩
      replace H : (if bq10 = true then (spec_toCode.l0 k1 (wrap64 (x5_1 + (shl .i64 (wrap64 (a0_2 + 1)) x13_1))) l1_0 (l1_0.length : Int) (wrap64 (x13_1 + 1)) l0_0 a0_1 a0_2) else (spec_toCode.l0 k1 x5_1 l1_0 (l1_0.length : Int) (wrap64 (x13_1 + 1)) l0_0 a0_1 a0_2)) = some r := by rw [← hbq10] at H; exact H
      have Nbq10 := ak_ hbq10
      clear hbq10
      by_cases c11 : bq10 = true
      ·
       subst c11
       have H1 : (spec_toCode.l0 k1 (wrap64 (x5_1 + (shl .i64 (wrap64 (a0_2 + 1)) x13_1))) l1_0 (l1_0.length : Int) (wrap64 (x13_1 + 1)) l0_0 a0_1 a0_2) = some r := by rw [if_pos rfl] at H; exact H
       clear H
       have H := H1
       clear H1
       have c12b0 := eq_true (odt_ (by assumption) : 0 ≤ x13_1)
       obtain ⟨ji13, hji13⟩ : ∃ j_ : Int, (shl .i64 (wrap64 (a0_2 + 1)) x13_1) = j_ := ⟨_, rfl⟩
       replace H : (spec_toCode.l0 k1 (wrap64 (x5_1 + (ji13))) l1_0 (l1_0.length : Int) (wrap64 (x13_1 + 1)) l0_0 a0_1 a0_2) = some r := by first | (rw [hji13] at H; exact H) | (simp only [hji13] at H ⊢; exact H)
       have hji13_ : (IntKind.i64.wrap ((wrap64 (a0_2 + 1)) * 2 ^ min x13_1.toNat 64)) = ji13 := hji13
       have hji13z : x13_1 ≤ 64 → (IntKind.i64.wrap ((wrap64 (a0_2 + 1)) * 2 ^ x13_1.toNat)) = ji13 := shl_small hji13
       have hji13y : (wrap64 ((wrap64 (a0_2 + 1)) * 2 ^ min x13_1.toNat 64)) = ji13 := (i64_w _).symm.trans hji13_
       have hji13x : x13_1 ≤ 64 → (wrap64 ((wrap64 (a0_2 + 1)) * 2 ^ x13_1.toNat)) = ji13 := fun h_ => (i64_w _).symm.trans (hji13z h_)
       have H' := ak_ H
       clear H
       have p290 : 0 ≤ (x13_1 : Int) := od_
       have q290 : x13_1 < (l1_0.length : Int) := od_
       obtain ⟨ad290, e290, hx290_0⟩ := Kd.at_bool HR1_0.out x13_1 p290 q290
       (try rw [← Nbq10.out] at hx290_0)
       cases e290
       try replace hx290_0 := (HB.out.cell (World.block_lt_of_cell? w _ hx290_0)).trans hx290_0
       replace p290 := eq_true p290
       replace q290 := eq_true q290
       have hnb14 := NB288_289.out
       have hnc14 := NB289_288.out
       obtain ⟨hcz15_0, hcz15_1, hcz15_2, hfz15_0, hfz15_1, hfz15_2⟩ := c3_ BK288.out
       go_wp2
       go_roundg k1
       case measure => have := HK1.out; omega
       case rel => exact ⟨(wrap64 (x5_1 + (ji13))), (wrap64 (x13_1 + 1)), (by first | rfl | (simp; done) | (simp only [← hji13] <;> (first | rfl | simp)) | (simp [*]; done)), (ry_), H', ⟨by have := HK1.out; omega⟩, ⟨pk BK288.out⟩, ⟨pk BK289.out⟩, ⟨bl_⟩⟩
      ·
       replace c11 := Bool.eq_false_iff.mpr c11
       subst c11
       have H1 : (spec_toCode.l0 k1 x5_1 l1_0 (l1_0.length : Int) (wrap64 (x13_1 + 1)) l0_0 a0_1 a0_2) = some r := by rw [if_neg (show ¬ (false = true) by decide)] at H; exact H
       clear H
       have H := H1
       clear H1
       have H' := ak_ H
       clear H
       have p290 : 0 ≤ (x13_1 : Int) := od_
       have q290 : x13_1 < (l1_0.length : Int) := od_
       obtain ⟨ad290, e290, hx290_0⟩ := Kd.at_bool HR1_0.out x13_1 p290 q290
       (try rw [← Nbq10.out] at hx290_0)
       cases e290
       try replace hx290_0 := (HB.out.cell (World.block_lt_of_cell? w _ hx290_0)).trans hx290_0
       replace p290 := eq_true p290
       replace q290 := eq_true q290
       go_wp2
       go_roundg k1
       case measure => have := HK1.out; omega
       case rel => exact ⟨(x5_1), (wrap64 (x13_1 + 1)), (ry_), (ry_), H', ⟨by have := HK1.out; omega⟩, ⟨pk BK288.out⟩, ⟨pk BK289.out⟩, ⟨bl_⟩⟩
     ·
      rw [if_neg c9] at H
      exact absurd H (by simp)
    ·
     rw [if_neg c8] at H
     exact absurd H (by simp)
   ·
    rw [if_neg c7] at H
    have c7b0 := decide_eq_false c7
    clear c7
    obtain rfl := Option.some.inj H
    go_wp2
    go_ret
    exact ⟨rx_, bl_⟩
mutual
def spec_toAfter.l0 : Nat → List (List Int) → Int → Int → List Bool → Int → List Bool → Int → Option (List Bool × Int)
 | 0, _, _, _, _, _, _, _ => none
 | k + 1, x17, x18, x19, x292000, x292001, x300000, x300001 => if x19 < x18 then (if 0 ≤ x19 then (if x19 < (x17.length : Int) then (if 0 < ((rd_L1 x17 x19).length : Int) then (if 0 ≤ (rd (rd_L1 x17 x19) 0) then (if (rd (rd_L1 x17 x19) 0) < (x292000.length : Int) then (if rdOf false x292000 (rd (rd_L1 x17 x19) 0) = true then (spec_toAfter.j1 k (rd_L1 x17 x19) x17 x18 x19 x292000 x292001 x300000 (wrap64 (x300001 - 1))) else (spec_toAfter.j1 k (rd_L1 x17 x19) x17 x18 x19 x292000 x292001 x300000 (wrap64 (x300001 + 1)))) else (none)) else (none)) else (none)) else (none)) else (none)) else (some (x300000, x300001))
def spec_toAfter.j1 : Nat → List Int → List (List Int) → Int → Int → List Bool → Int → List Bool → Int → Option (List Bool × Int)
 | 0, _, _, _, _, _, _, _, _ => none
 | k + 1, x7, x17, x18, x19, x292000, x292001, x300000, x300001 => spec_toAfter.l1 k x17 x18 x19 x7 (x7.length : Int) 0 x292000 x292001 x300000 x300001
def spec_toAfter.l1 : Nat → List (List Int) → Int → Int → List Int → Int → Int → List Bool → Int → List Bool → Int → Option (List Bool × Int)
 | 0, _, _, _, _, _, _, _, _, _, _ => none
 | k + 1, x17, x18, x19, x38, x39, x40, x292000, x292001, x300000, x300001 => if x40 < x39 then (if 0 ≤ x40 then (if x40 < (x38.length : Int) then (if 0 ≤ (rd x38 x40) then (if (rd x38 x40) < (x292000.length : Int) then (if (rd x38 x40) < (x300000.length : Int) then (spec_toAfter.l1 k x17 x18 x19 x38 x39 (wrap64 (x40 + 1)) x292000 x292001 (x300000.set ((rd x38 x40) : Int).toNat (!(rdOf false x292000 (rd x38 x40)))) x300001) else (none)) else (none)) else (none)) else (none)) else (none)) else (spec_toAfter.l0 k x17 x18 (wrap64 (x19 + 1)) x292000 x292001 x300000 x300001)
end
def spec_toAfter.f (k : Nat) (l0_0 : List Bool) (a0_1 : Int) (l1 : List (List Int)) : Option (List Bool × Int) := (some (([] : List Bool) : List Bool)).bind fun y293 => (if y293.length + l0_0.length < 140737488355328 then (spec_toAfter.l0 k l1 (l1.length : Int) 0 l0_0 a0_1 (y293 ++ l0_0) a0_1) else (none))
theorem spec_toAfter.mono_l : ∀ k, (∀ y0 y1 y2 y3 y4 y5 y6, LeO (spec_toAfter.l0 k y0 y1 y2 y3 y4 y5 y6) (spec_toAfter.l0 (k + 1) y0 y1 y2 y3 y4 y5 y6)) ∧ (∀ y0 y1 y2 y3 y4 y5 y6 y7, LeO (spec_toAfter.j1 k y0 y1 y2 y3 y4 y5 y6 y7) (spec_toAfter.j1 (k + 1) y0 y1 y2 y3 y4 y5 y6 y7)) ∧ (∀ y0 y1 y2 y3 y4 y5 y6 y7 y8 y9, LeO (spec_toAfter.l1 k y0 y1 y2 y3 y4 y5 y6 y7 y8 y9) (spec_toAfter.l1 (k + 1) y0 y1 y2 y3 y4 y5 y6 y7 y8 y9))
 | 0 => ⟨fun _ _ _ _ _ _ _ r h => by simp [spec_toAfter.l0] at h, fun _ _ _ _ _ _ _ _ r h => by simp [spec_toAfter.j1] at h, fun _ _ _ _ _ _ _ _ _ _ r h => by simp [spec_toAfter.l1] at h⟩
 | k + 1 => by
  obtain ⟨ih0, ih1, ih2⟩ := spec_toAfter.mono_l k
  refine ⟨?_, ?_, ?_⟩
  ·intro y0 y1 y2 y3 y4 y5 y6
   unfold spec_toAfter.l0
   repeat' first
   | (with_reducible first | exact ih0 _ _ _ _ _ _ _ | exact ih1 _ _ _ _ _ _ _ _ | exact ih2 _ _ _ _ _ _ _ _ _ _ | exact LeO.refl _ | exact LeO.none _ | refine LeO.ite ?_ ?_ | refine LeO.bind ?_ (fun _ => ?_))
  ·intro y0 y1 y2 y3 y4 y5 y6 y7
   unfold spec_toAfter.j1
   repeat' first
   | (with_reducible first | exact ih0 _ _ _ _ _ _ _ | exact ih1 _ _ _ _ _ _ _ _ | exact ih2 _ _ _ _ _ _ _ _ _ _ | exact LeO.refl _ | exact LeO.none _ | refine LeO.ite ?_ ?_ | refine LeO.bind ?_ (fun _ => ?_))
  ·intro y0 y1 y2 y3 y4 y5 y6 y7 y8 y9
   unfold spec_toAfter.l1
   repeat' first
   | (with_reducible first | exact ih0 _ _ _ _ _ _ _ | exact ih1 _ _ _ _ _ _ _ _ | exact ih2 _ _ _ _ _ _ _ _ _ _ | exact LeO.refl _ | exact LeO.none _ | refine LeO.ite ?_ ?_ | refine LeO.bind ?_ (fun _ => ?_))
theorem spec_toAfter.mono : ∀ a0 a1 a2 k, LeO (spec_toAfter.f k a0 a1 a2) (spec_toAfter.f (k + 1) a0 a1 a2) := by
 intro a0 a1 a2 k
 obtain ⟨ih0, ih1, ih2⟩ := spec_toAfter.mono_l k
 unfold spec_toAfter.f
 repeat' first
  | (with_reducible first | exact ih0 _ _ _ _ _ _ _ | exact ih1 _ _ _ _ _ _ _ _ | exact ih2 _ _ _ _ _ _ _ _ _ _ | exact LeO.refl _ | exact LeO.none _ | refine LeO.ite ?_ ?_ | refine LeO.bind ?_ (fun _ => ?_))
def spec_toAfter.T1 : Bool × List (List Nat × List Nat) := (true, [([], []), ([], []), ([1], [1]), ([0, 2], [0, 2]), ([], []), ([4], [4]), ([3, 5], [3, 5]), ([], []), ([7, 6, 3, 0, 1, 2, 3, 4, 5, 6, 7], [6, 7])])
def spec_toAfter.B1 : List Nat := [0, 0, 2, 7, 0, 16, 63, 0, 255]
theorem spec_toAfter.tab1 : rtab .any (opsOf Try.f53 1) = spec_toAfter.T1 := by kernel_rfl
theorem spec_toAfter.bits1 : waitsOk spec_toAfter.T1.2 spec_toAfter.B1 = true := by kernel_rfl
def spec_toAfter.T11 : Bool × List (List Nat × List Nat) := (true, [([], []), ([0], [0]), ([], []), ([], []), ([3], [3]), ([], []), ([4, 5], [4, 5]), ([6], [6]), ([7], [7]), ([1, 2, 0, 1, 2, 3, 4, 5, 6, 7, 8], [1, 2]), ([9, 8, 0, 1, 2, 3, 4, 5, 6, 7, 8], [8, 9])])
def spec_toAfter.B11 : List Nat := [0, 1, 0, 0, 8, 0, 56, 120, 248, 511, 1023]
theorem spec_toAfter.tab11 : rtab .any (opsOf Try.f53 11) = spec_toAfter.T11 := by kernel_rfl
theorem spec_toAfter.bits11 : waitsOk spec_toAfter.T11.2 spec_toAfter.B11 = true := by kernel_rfl
theorem spec_toAfter.calls (k : Nat) (A0_0 : Option Addr) (c0_0 : Nat) (l0_0 : List Bool) (a0_1 : Int) (A1 : Option Addr) (c1 : Nat) (l1 : List (List Int)) (r1 : List Bool) (r2 : Int) (w : World) (hr0_0 : Kd.C Kd.bool w A0_0 l0_0.length l0_0) (hc0_0 : l0_0.length ≤ c0_0) (hr1 : Kd.C (Kd.slice 3 (Kd.int .i64)) w A1 l1.length l1) (hc1 : l1.length ≤ c1) (h : spec_toAfter.f k l0_0 a0_1 l1 = some (r1, r2)) :
  Calls Try.prog 53 #[.agg #[.slice A0_0 l0_0.length c0_0, .int .i64 a0_1], .slice A1 l1.length c1] w fun e w' => ∃ v0_ : Value, e = .returned (.agg #[v0_, .int .i64 r2]) ∧ Kd.R Kd.bool 4 w' w.heap.size (fun _ => True) v0_ r1 ∧ Below w.heap.size w w' := by
 have hu35 := Try.underlying35
 have HR0_0 := ak_ hr0_0
 have HC0_0 := ak_ hc0_0
 clear hr0_0 hc0_0
 have HR1 := ak_ hr1
 have HC1 := ak_ hc1
 clear hr1 hc1
 have HB := ak_ (Below.refl w.heap.size w)
 have H : ((some (([] : List Bool) : List Bool)).bind fun y293 => (if y293.length + l0_0.length < 140737488355328 then (spec_toAfter.l0 k l1 (l1.length : Int) 0 l0_0 a0_1 (y293 ++ l0_0) a0_1) else (none))) = some (r1, r2) := h
 clear h
 obtain ⟨y293, hy293⟩ : ∃ y_ : List Bool, y_ = (([] : List Bool)) := ⟨_, rfl⟩
 replace H : (if y293.length + l0_0.length < 140737488355328 then (spec_toAfter.l0 k l1 (l1.length : Int) 0 l0_0 a0_1 (y293 ++ l0_0) a0_1) else (none)) = some (r1, r2) := by first | (rw [hy293]; exact H) | exact H
 have Ny293 := ak_ hy293
 clear hy293
 by_cases c3 : y293.length + l0_0.length < 140737488355328
 ·
  rw [if_pos c3] at H
  have LMc3 := ak_ c3
  clear c3
  obtain ⟨y296, hy296⟩ : ∃ y_ : List Bool, y_ = (y293 ++ l0_0) := ⟨_, rfl⟩
  replace H : (spec_toAfter.l0 k l1 (l1.length : Int) 0 l0_0 a0_1 y296 a0_1) = some (r1, r2) := by first | (rw [hy296]; exact H) | exact H
  have Ny296 := ak_ hy296
  clear hy296
  have H' := ak_ H
  clear H
  go_enter Try.func53, Try.ntmps53
  try go_wp2_with (first | ((with_reducible refine gate_dst (N := 2) rfl ?_); refine bx_ 2 #[.slice A0_0 l0_0.length c0_0, .int .i64 a0_1] 35 ?_; intro gb291 hg w4 hbox hb; have BK291 := ak_ (hbox); have GW291 := ak_ ((by rw [hg]; exact (bz_ (bb_ HB.out)) : w.heap.size ≤ gb291)); replace HB := ak_ (bs_ (bb_ HB.out) hb); have GE291 := GW291; clear hb hbox hg) | ((with_reducible refine gate_dst (N := 4) rfl ?_); refine bx_ 4 #[.slice none 0 0, .int .i64 0] 35 ?_; intro gb292 hg w5 hbox hb; have BK292 := ak_ (hbox); have GW292 := ak_ ((by rw [hg]; exact (bz_ bl_) : w.heap.size ≤ gb292)); replace HB := ak_ (bs_ bl_ hb); have GE292 := GW292; have NB291_292 := ak_ ((by rw [hg]; exact Nat.ne_of_lt (blk_lt (pk BK291.out)) : gb291 ≠ gb292)); replace BK291 := ak_ (blk_below (pk BK291.out) hb); have NB292_291 := ak_ NB291_292.out.symm; clear hb hbox hg))
  have n0_ := ak_ (k1_ BK291.out)
  have n1_ := ak_ (k1_ BK292.out)
  have n2_ := ak_ (b1_ HB.out)
  clear BK291 BK292 HB
  have BK291 := n0_; have BK292 := n1_; have HB := n2_
  clear n0_ n1_ n2_
  refine start_ (n := 9) (S := fun w' => w'.cell? ⟨gb291, 0, none⟩ = some (.slice A0_0 l0_0.length c0_0) ∧ w'.cell? ⟨gb291, 1, none⟩ = some (.int .i64 a0_1)) (ds := []) (mb_ 9 0) (by kernel_rfl) rfl rfl ⟨(blk_cell BK291.out 0).trans rfl, (blk_cell BK291.out 1).trans rfl⟩ (fun hHeld => ?_); refine with_tabW spec_toAfter.tab1 spec_toAfter.bits1 (fun HT_ HW_ => ?_)
  generalize w5.drew = w6 at BK291 BK292 HB hHeld ⊢
  refine pu_ 1 11 9 2 ?_
  refine pu_ 4 14 9 18 ?_
  refine tk_ 2 12 9 22 ?_ (hy := by rintro w' ⟨s0, s1⟩; go_simp; with_reducible rfl)
  refine tk_ 5 15 9 54 ?_ (hy := by rintro w' ⟨s0, s1⟩; go_simp; with_reducible rfl)
  refine join_ (σ := Value × Value × Nat) 1 (mb_ 9 255) (fun s_ => [(10, s_.1), (13, s_.2.1), (5, .pointer (some ⟨s_.2.2, 0, none⟩)), (16, .agg #[s_.2.1, .int .i64 a0_1])]) (fun s_ w' => (w'.cell? ⟨gb291, 0, none⟩ = some (.slice A0_0 l0_0.length c0_0) ∧ w'.cell? ⟨gb291, 1, none⟩ = some (.int .i64 a0_1)) ∧ (Kd.R Kd.bool 4 w' w.heap.size (fun _ => True) s_.2.1 y296) ∧ (w'.heap[gb291]? = some (.cells #[.slice A0_0 l0_0.length c0_0, .int .i64 a0_1] 35 (0, 0))) ∧ (w'.heap[gb292]? = some (.cells #[.slice none 0 0, .int .i64 0] 35 (0, 0))) ∧ (w'.heap[s_.2.2]? = some (.cells #[.slice none 0 0, .int .i64 0] 35 (0, 0))) ∧ (w.heap.size ≤ s_.2.2) ∧ (w.heap.size ≤ s_.2.2) ∧ (gb291 ≠ s_.2.2) ∧ (s_.2.2 ≠ gb291) ∧ (gb292 ≠ s_.2.2) ∧ (s_.2.2 ≠ gb292) ∧ (Below w.heap.size w w')) ?_ ?_
  rotate_left
  ·
   intro hCont
   refine two_ (i := 0) (j := 7) (Ni := some 10) (Nj := some 5) (mb_ 9 55) (mb_ 9 182) rfl rfl rfl rfl (two_of HT_.out (by kernel_rfl)) (by decide) (by decide) (fun K hK => ?_) (fun K hK => ?_)
   ·
    skip
    refine Kd.R_lit_step Kd.bool _ 4 ?hg (N := 10) ?hd (xs := ([] : List Bool)) (inner := []) (ok := fun _ => True) (okp := fun _ => True) ?hr ?hp (fun _ hk => hk) trivial (Below.refl _ _) (Nat.le_refl _) (by simp) ?_; (case hd => rfl); (case hg => rfl); (case hr => go_simp <;> rfl); (case hp => exact (Reps.none _ _))
    intro v294 w7 ho8 hb hg_ hnew_
    clear hg_ hnew_
    (first | rw [← Ny293.out] at ho8 | (simp only [Int.reduceToNat] at ho8; rw [← Ny293.out] at ho8))
    have n0_ := ak_ (Kd.R_lower ho8 (bz_ bl_))
    have n1_ := ak_ (blk_below (pk BK291.out) hb)
    have n2_ := ak_ (blk_below (pk BK292.out) hb)
    have n3_ := ak_ (bs_ bl_ hb)
    clear BK291 BK292 HB
    have HO295 := n0_; have BK291 := n1_; have BK292 := n2_; have HB := n3_
    clear n0_ n1_ n2_ n3_ hb ho8
    refine hK.out _ _ ⟨(blk_cell BK291.out 0).trans rfl, (blk_cell BK291.out 1).trans rfl⟩ (fun hHeld => ?_)
    clear hK K
    refine nm_ ?_
    refine two_ (i := 3) (j := 7) (Ni := some 13) (Nj := some 5) (mb_ 9 63) (mb_ 9 183) rfl rfl rfl rfl (two_of HT_.out (by kernel_rfl)) (by decide) (by decide) (fun K hK => ?_) (fun K hK => ?_)
    ·
     skip
     refine Kd.R_append_rows_step Kd.bool (w0 := w) w.heap.size (by rfl) (.tmp 10) (.tmp 12) 25 4 (.bool false) 1 rfl Try.underlying25 info4 rfl (by decide) (by omega) v294 y293 l0_0 _ _ _ (fun _ => True) (fun _ => False) rfl rfl ?aO ?aR (fun _ _ h => h) (fun _ h => h.elim) ?aF ?aB ?aS ?aL ?_
     (case aR => repeat (first | exact (Kd.C_below HR0_0.out HB.out) | (with_reducible refine Kd.C_alloc ?_ _) | (with_reducible refine Kd.C_drewN ?_ _) | (with_reducible refine Kd.C_drew ?_)))
     (case aB => exact bl_)
     (case aF => exact (fun _ _ => trivial))
     (case aO => exact (Kd.pR HO295.out))
     (case aS => exact (bz_ bl_))
     (case aL => have := LMc3.out; omega)
     intro v297 w9 ho hb hg hat
     rw [← Ny296.out] at ho
     have n0_ := ak_ (blk_grown (pk BK291.out) hg (Kd.R_ne HO295.out BK291.out (by decide)))
     have n1_ := ak_ (blk_grown (pk BK292.out) hg (Kd.R_ne HO295.out BK292.out (by decide)))
     have n2_ := ak_ (hb)
     have n3_ := ak_ (ho)
     clear BK291 BK292 HB HO295
     have BK291 := n0_; have BK292 := n1_; have HB := n2_; have HO298 := n3_
     clear n0_ n1_ n2_ n3_ ho hb hg hat
     obtain ⟨Ao10, co10, eo10⟩ := Kd.R_slice HO298.out
     (first | subst eo10 | (injection eo10 with f1_ f2_ f3_; have f4_ := f1_.symm; have f5_ := f3_.symm; clear f1_ f2_ f3_; subst f4_; subst f5_))
     refine hK.out _ _ ⟨(blk_cell BK291.out 0).trans rfl, (blk_cell BK291.out 1).trans rfl⟩ (fun hHeld => ?_)
     clear hK K
     refine nm_ ?_
     refine pu_ 6 16 9 127 ?_
     refine on_ 7 5 9 255 (fun K hK => ?_)
     refine box_step ?hg (N := 5) ?hd (cs := #[.slice none 0 0, .int .i64 0]) (t := 35) ?hr ?_; (case hd => rfl); (case hg => rfl); (case hr => go_simp <;> rfl)
     intro gb299 hg w11 hbox hb
     have n0_ := ak_ (Kd.R_below (Kd.pR HO298.out) hb)
     have n1_ := ak_ (blk_below (pk BK291.out) hb)
     have n2_ := ak_ (blk_below (pk BK292.out) hb)
     have n3_ := ak_ (bs_ bl_ hb)
     have n4_ := ak_ (hbox)
     have n5_ := ak_ ((by rw [hg]; exact (bz_ bl_) : w.heap.size ≤ gb299))
     have n6_ := n5_
     have n7_ := ak_ ((by rw [hg]; exact Nat.ne_of_lt (blk_lt (pk BK291.out)) : gb291 ≠ gb299))
     have n8_ := ak_ n7_.out.symm
     have n9_ := ak_ ((by rw [hg]; exact Nat.ne_of_lt (blk_lt (pk BK292.out)) : gb292 ≠ gb299))
     have n10_ := ak_ n9_.out.symm
     clear HO298 BK291 BK292 HB
     have HO298 := n0_; have BK291 := n1_; have BK292 := n2_; have HB := n3_; have BK299 := n4_; have GW299 := n5_; have GE299 := n6_; have NB291_299 := n7_; have NB299_291 := n8_; have NB292_299 := n9_; have NB299_292 := n10_
     clear n0_ n1_ n2_ n3_ n4_ n5_ n6_ n7_ n8_ n9_ n10_ hb hbox hg
     refine hK.out _ _ ⟨(blk_cell BK291.out 0).trans rfl, (blk_cell BK291.out 1).trans rfl⟩ (fun hHeld => ?_)
     clear hK K
     refine nm_ ?_
     exact norm_ (by simp only [putAll, Act.put, setIfInBounds_toArray, set_cons_zero, set_cons_succ]) (hCont (v294, .slice Ao10 y296.length co10, gb299) _ ⟨hHeld, (Kd.pR HO298.out), (pk BK291.out), (pk BK292.out), (pk BK299.out), GW299.out, GE299.out, NB291_299.out, NB299_291.out, NB292_299.out, NB299_292.out, bl_⟩)
    ·
     skip
     refine box_step ?hg (N := 5) ?hd (cs := #[.slice none 0 0, .int .i64 0]) (t := 35) ?hr ?_; (case hd => rfl); (case hg => rfl); (case hr => go_simp <;> rfl)
     intro gb299 hg w9 hbox hb
     have n0_ := ak_ (Kd.R_below (Kd.pR HO295.out) hb)
     have n1_ := ak_ (blk_below (pk BK291.out) hb)
     have n2_ := ak_ (blk_below (pk BK292.out) hb)
     have n3_ := ak_ (bs_ bl_ hb)
     have n4_ := ak_ (hbox)
     have n5_ := ak_ ((by rw [hg]; exact (bz_ bl_) : w.heap.size ≤ gb299))
     have n6_ := n5_
     have n7_ := ak_ ((by rw [hg]; exact Nat.ne_of_lt (blk_lt (pk BK291.out)) : gb291 ≠ gb299))
     have n8_ := ak_ n7_.out.symm
     have n9_ := ak_ ((by rw [hg]; exact Nat.ne_of_lt (blk_lt (pk BK292.out)) : gb292 ≠ gb299))
     have n10_ := ak_ n9_.out.symm
     clear HO295 BK291 BK292 HB
     have HO295 := n0_; have BK291 := n1_; have BK292 := n2_; have HB := n3_; have BK299 := n4_; have GW299 := n5_; have GE299 := n6_; have NB291_299 := n7_; have NB299_291 := n8_; have NB292_299 := n9_; have NB299_292 := n10_
     clear n0_ n1_ n2_ n3_ n4_ n5_ n6_ n7_ n8_ n9_ n10_ hb hbox hg
     refine hK.out _ _ ⟨(blk_cell BK291.out 0).trans rfl, (blk_cell BK291.out 1).trans rfl⟩ (fun hHeld => ?_)
     clear hK K
     refine nm_ ?_
     refine on_ 3 13 9 191 (fun K hK => ?_)
     refine Kd.R_append_rows_step Kd.bool (w0 := w) w.heap.size (by rfl) (.tmp 10) (.tmp 12) 25 4 (.bool false) 1 rfl Try.underlying25 info4 rfl (by decide) (by omega) v294 y293 l0_0 _ _ _ (fun _ => True) (fun _ => False) rfl rfl ?aO ?aR (fun _ _ h => h) (fun _ h => h.elim) ?aF ?aB ?aS ?aL ?_
     (case aR => repeat (first | exact (Kd.C_below HR0_0.out HB.out) | (with_reducible refine Kd.C_alloc ?_ _) | (with_reducible refine Kd.C_drewN ?_ _) | (with_reducible refine Kd.C_drew ?_)))
     (case aB => exact bl_)
     (case aF => exact (fun _ _ => trivial))
     (case aO => exact (Kd.pR HO295.out))
     (case aS => exact (bz_ bl_))
     (case aL => have := LMc3.out; omega)
     intro v297 w10 ho hb hg hat
     rw [← Ny296.out] at ho
     have n0_ := ak_ (blk_grown (pk BK291.out) hg (Kd.R_ne HO295.out BK291.out (by decide)))
     have n1_ := ak_ (blk_grown (pk BK292.out) hg (Kd.R_ne HO295.out BK292.out (by decide)))
     have n2_ := ak_ (blk_grown (pk BK299.out) hg (Kd.R_ne HO295.out BK299.out (by decide)))
     have n3_ := ak_ (hb)
     have n4_ := ak_ (ho)
     clear BK291 BK292 BK299 HB HO295
     have BK291 := n0_; have BK292 := n1_; have BK299 := n2_; have HB := n3_; have HO298 := n4_
     clear n0_ n1_ n2_ n3_ n4_ ho hb hg hat
     obtain ⟨Ao11, co11, eo11⟩ := Kd.R_slice HO298.out
     (first | subst eo11 | (injection eo11 with f1_ f2_ f3_; have f4_ := f1_.symm; have f5_ := f3_.symm; clear f1_ f2_ f3_; subst f4_; subst f5_))
     refine hK.out _ _ ⟨(blk_cell BK291.out 0).trans rfl, (blk_cell BK291.out 1).trans rfl⟩ (fun hHeld => ?_)
     clear hK K
     refine nm_ ?_
     refine pu_ 6 16 9 255 ?_
     exact norm_ (by simp only [putAll, Act.put, setIfInBounds_toArray, set_cons_zero, set_cons_succ]) (hCont (v294, .slice Ao11 y296.length co11, gb299) _ ⟨hHeld, (Kd.pR HO298.out), (pk BK291.out), (pk BK292.out), (pk BK299.out), GW299.out, GE299.out, NB291_299.out, NB299_291.out, NB292_299.out, NB299_292.out, bl_⟩)
   ·
    skip
    refine box_step ?hg (N := 5) ?hd (cs := #[.slice none 0 0, .int .i64 0]) (t := 35) ?hr ?_; (case hd => rfl); (case hg => rfl); (case hr => go_simp <;> rfl)
    intro gb299 hg w7 hbox hb
    have n0_ := ak_ (blk_below (pk BK291.out) hb)
    have n1_ := ak_ (blk_below (pk BK292.out) hb)
    have n2_ := ak_ (bs_ bl_ hb)
    have n3_ := ak_ (hbox)
    have n4_ := ak_ ((by rw [hg]; exact (bz_ bl_) : w.heap.size ≤ gb299))
    have n5_ := n4_
    have n6_ := ak_ ((by rw [hg]; exact Nat.ne_of_lt (blk_lt (pk BK291.out)) : gb291 ≠ gb299))
    have n7_ := ak_ n6_.out.symm
    have n8_ := ak_ ((by rw [hg]; exact Nat.ne_of_lt (blk_lt (pk BK292.out)) : gb292 ≠ gb299))
    have n9_ := ak_ n8_.out.symm
    clear BK291 BK292 HB
    have BK291 := n0_; have BK292 := n1_; have HB := n2_; have BK299 := n3_; have GW299 := n4_; have GE299 := n5_; have NB291_299 := n6_; have NB299_291 := n7_; have NB292_299 := n8_; have NB299_292 := n9_
    clear n0_ n1_ n2_ n3_ n4_ n5_ n6_ n7_ n8_ n9_ hb hbox hg
    refine hK.out _ _ ⟨(blk_cell BK291.out 0).trans rfl, (blk_cell BK291.out 1).trans rfl⟩ (fun hHeld => ?_)
    clear hK K
    refine nm_ ?_
    refine on_ 0 10 9 183 (fun K hK => ?_)
    refine Kd.R_lit_step Kd.bool _ 4 ?hg (N := 10) ?hd (xs := ([] : List Bool)) (inner := []) (ok := fun _ => True) (okp := fun _ => True) ?hr ?hp (fun _ hk => hk) trivial (Below.refl _ _) (Nat.le_refl _) (by simp) ?_; (case hd => rfl); (case hg => rfl); (case hr => go_simp <;> rfl); (case hp => exact (Reps.none _ _))
    intro v294 w8 ho9 hb hg_ hnew_
    clear hg_ hnew_
    (first | rw [← Ny293.out] at ho9 | (simp only [Int.reduceToNat] at ho9; rw [← Ny293.out] at ho9))
    have n0_ := ak_ (Kd.R_lower ho9 (bz_ bl_))
    have n1_ := ak_ (blk_below (pk BK291.out) hb)
    have n2_ := ak_ (blk_below (pk BK292.out) hb)
    have n3_ := ak_ (blk_below (pk BK299.out) hb)
    have n4_ := ak_ (bs_ bl_ hb)
    clear BK291 BK292 BK299 HB
    have HO295 := n0_; have BK291 := n1_; have BK292 := n2_; have BK299 := n3_; have HB := n4_
    clear n0_ n1_ n2_ n3_ n4_ hb ho9
    refine hK.out _ _ ⟨(blk_cell BK291.out 0).trans rfl, (blk_cell BK291.out 1).trans rfl⟩ (fun hHeld => ?_)
    clear hK K
    refine nm_ ?_
    refine on_ 3 13 9 191 (fun K hK => ?_)
    refine Kd.R_append_rows_step Kd.bool (w0 := w) w.heap.size (by rfl) (.tmp 10) (.tmp 12) 25 4 (.bool false) 1 rfl Try.underlying25 info4 rfl (by decide) (by omega) v294 y293 l0_0 _ _ _ (fun _ => True) (fun _ => False) rfl rfl ?aO ?aR (fun _ _ h => h) (fun _ h => h.elim) ?aF ?aB ?aS ?aL ?_
    (case aR => repeat (first | exact (Kd.C_below HR0_0.out HB.out) | (with_reducible refine Kd.C_alloc ?_ _) | (with_reducible refine Kd.C_drewN ?_ _) | (with_reducible refine Kd.C_drew ?_)))
    (case aB => exact bl_)
    (case aF => exact (fun _ _ => trivial))
    (case aO => exact (Kd.pR HO295.out))
    (case aS => exact (bz_ bl_))
    (case aL => have := LMc3.out; omega)
    intro v297 w10 ho hb hg hat
    rw [← Ny296.out] at ho
    have n0_ := ak_ (blk_grown (pk BK291.out) hg (Kd.R_ne HO295.out BK291.out (by decide)))
    have n1_ := ak_ (blk_grown (pk BK292.out) hg (Kd.R_ne HO295.out BK292.out (by decide)))
    have n2_ := ak_ (blk_grown (pk BK299.out) hg (Kd.R_ne HO295.out BK299.out (by decide)))
    have n3_ := ak_ (hb)
    have n4_ := ak_ (ho)
    clear BK291 BK292 BK299 HB HO295
    have BK291 := n0_; have BK292 := n1_; have BK299 := n2_; have HB := n3_; have HO298 := n4_
    clear n0_ n1_ n2_ n3_ n4_ ho hb hg hat
    obtain ⟨Ao11, co11, eo11⟩ := Kd.R_slice HO298.out
    (first | subst eo11 | (injection eo11 with f1_ f2_ f3_; have f4_ := f1_.symm; have f5_ := f3_.symm; clear f1_ f2_ f3_; subst f4_; subst f5_))
    refine hK.out _ _ ⟨(blk_cell BK291.out 0).trans rfl, (blk_cell BK291.out 1).trans rfl⟩ (fun hHeld => ?_)
    clear hK K
    refine nm_ ?_
    refine pu_ 6 16 9 255 ?_
    exact norm_ (by simp only [putAll, Act.put, setIfInBounds_toArray, set_cons_zero, set_cons_succ]) (hCont (v294, .slice Ao11 y296.length co11, gb299) _ ⟨hHeld, (Kd.pR HO298.out), (pk BK291.out), (pk BK292.out), (pk BK299.out), GW299.out, GE299.out, NB291_299.out, NB299_291.out, NB292_299.out, NB299_292.out, bl_⟩)
  rintro ⟨v294, v297, gb299⟩ w12 ⟨hS_, h0_, h1_, h2_, h3_, h4_, h5_, h6_, h7_, h8_, h9_, h10_⟩
  have n0_ : Aside0 (Kd.R Kd.bool 4 w12 w.heap.size (fun _ => True) v297 y296) := ⟨h0_⟩
  have n1_ : Aside0 (w12.heap[gb291]? = some (.cells #[.slice A0_0 l0_0.length c0_0, .int .i64 a0_1] 35 (0, 0))) := ⟨h1_⟩
  have n2_ : Aside0 (w12.heap[gb292]? = some (.cells #[.slice none 0 0, .int .i64 0] 35 (0, 0))) := ⟨h2_⟩
  have n3_ : Aside0 (w12.heap[gb299]? = some (.cells #[.slice none 0 0, .int .i64 0] 35 (0, 0))) := ⟨h3_⟩
  have n4_ : Aside0 (w.heap.size ≤ gb299) := ⟨h4_⟩
  have n5_ : Aside0 (w.heap.size ≤ gb299) := ⟨h5_⟩
  have n6_ : Aside0 (gb291 ≠ gb299) := ⟨h6_⟩
  have n7_ : Aside0 (gb299 ≠ gb291) := ⟨h7_⟩
  have n8_ : Aside0 (gb292 ≠ gb299) := ⟨h8_⟩
  have n9_ : Aside0 (gb299 ≠ gb292) := ⟨h9_⟩
  have n10_ : Aside0 (Below w.heap.size w w12) := ⟨h10_⟩
  clear BK291 BK292 HB h0_ h1_ h2_ h3_ h4_ h5_ h6_ h7_ h8_ h9_ h10_
  have HO298 := n0_; have BK291 := n1_; have BK292 := n2_; have BK299 := n3_; have GW299 := n4_; have GE299 := n5_; have NB291_299 := n6_; have NB299_291 := n7_; have NB292_299 := n8_; have NB299_292 := n9_; have HB := n10_
  clear n0_ n1_ n2_ n3_ n4_ n5_ n6_ n7_ n8_ n9_ n10_
  have hHeld : w12.cell? ⟨gb291, 0, none⟩ = some (.slice A0_0 l0_0.length c0_0) ∧ w12.cell? ⟨gb291, 1, none⟩ = some (.int .i64 a0_1) := hS_
  obtain ⟨Ao13, co13, eo13⟩ := Kd.R_slice HO298.out
  (first | subst eo13 | (injection eo13 with f1_ f2_ f3_; have f4_ := f1_.symm; have f5_ := f3_.symm; clear f1_ f2_ f3_; subst f4_; subst f5_))
  refine norm_ (a' := ?_) ?_ ?_
  rotate_left
  ·
   simp only [putAll, Act.put, setIfInBounds_toArray, set_cons_zero, set_cons_succ]
   rfl
  refine one_ (i := 8) (N := none) (mb_ 9 511) rfl rfl (one_of HT_.out (by kernel_rfl)) (by decide) (fun K hK => ?_)
  have hs14 : w12.cell? ⟨gb299, 0, none⟩ = some (.slice none 0 0) := (blk_cell BK299.out 0).trans rfl
  have hfs14 := blk_frozen BK299.out 0
  have hns14_0 := NB291_299.out
  have hns14_1 := NB292_299.out
  have hms14_0 := NB299_291.out
  have hms14_1 := NB299_292.out
  have hs15 : w12.cell? ⟨gb299, 1, none⟩ = some (.int .i64 0) := (blk_cell BK299.out 1).trans rfl
  have hfs15 := blk_frozen BK299.out 1
  have hns15_0 := NB291_299.out
  have hns15_1 := NB292_299.out
  have hms15_0 := NB299_291.out
  have hms15_1 := NB299_292.out
  refine skip_ (w1 := ?_) (by rfl) rfl ?_ ?_
  rotate_left
  ·
   go_simp
   rfl
  refine hK.out _ _ ⟨((cell_far (p := ⟨gb299, _, none⟩) NB291_299.out _).trans (((cell_far (p := ⟨gb299, _, none⟩) NB291_299.out _).trans (hHeld.1)))), ((cell_far (p := ⟨gb299, _, none⟩) NB291_299.out _).trans (((cell_far (p := ⟨gb299, _, none⟩) NB291_299.out _).trans (hHeld.2))))⟩ (fun hHeld => ?_)
  clear hK K
  refine done_ (done_of HT_.out (by kernel_rfl)) ?_
  try go_wp2
  go_loopg [19] k (fun kq v19 w' => ∃ (x19_1 : Int) (x300000_1 : List Bool) (x300001_1 : Int) (u300000 : Value), v19 = .int .i64 x19_1 ∧ Aside0 (spec_toAfter.l0 kq l1 (l1.length : Int) x19_1 l0_0 a0_1 x300000_1 x300001_1 = some (r1, r2)) ∧ Aside0 (kq ≤ k) ∧ Aside0 (Kd.R Kd.bool 4 w' w.heap.size (fun _ => True) u300000 x300000_1) ∧ Aside0 (w'.heap[gb291]? = some (.cells #[(.slice A0_0 l0_0.length c0_0), .int .i64 a0_1] 35 (0, 0))) ∧ Aside0 (w'.heap[gb292]? = some (.cells #[(.slice none 0 0), .int .i64 0] 35 (0, 0))) ∧ Aside0 (w'.heap[gb299]? = some (.cells #[u300000, .int .i64 x300001_1] 35 (0, 0))) ∧ Aside0 (Below w.heap.size w w'))
  case atStart => exact ⟨(0), (y296), (a0_1), (.slice Ao13 y296.length co13), (ry_), H', ⟨Nat.le_refl _⟩, ⟨by (with_reducible repeat (first | apply Kd.R_alloc | apply Kd.R_drewN | apply Kd.R_drew)); exact Kd.R_mono (Kd.R_far (p := ⟨gb299, 1, none⟩) (Kd.R_far (p := ⟨gb299, 0, none⟩) (Kd.R_types HO298.out BK299.out (by decide)) (fun _ hk => hk.2) (.slice Ao13 y296.length co13)) (fun _ hk => hk.2) (.int .i64 a0_1)) (fun _ hk => trivial)⟩, ⟨by (with_reducible repeat (first | refine kN_ ?_ _ | refine k1_ ?_ | refine ka_ ?_ _)); refine blk_far ?_ NB291_299.out _; (with_reducible repeat (first | refine kN_ ?_ _ | refine k1_ ?_ | refine ka_ ?_ _)); refine blk_far ?_ NB291_299.out _; exact pk BK291.out⟩, ⟨by (with_reducible repeat (first | refine kN_ ?_ _ | refine k1_ ?_ | refine ka_ ?_ _)); refine blk_far ?_ NB292_299.out _; (with_reducible repeat (first | refine kN_ ?_ _ | refine k1_ ?_ | refine ka_ ?_ _)); refine blk_far ?_ NB292_299.out _; exact pk BK292.out⟩, ⟨by (with_reducible repeat (first | refine kN_ ?_ _ | refine k1_ ?_ | refine ka_ ?_ _)); refine blk_put (cs := #[.slice Ao13 y296.length co13, .int .i64 0]) ?_ 1 _ rfl; (with_reducible repeat (first | refine kN_ ?_ _ | refine k1_ ?_ | refine ka_ ?_ _)); refine blk_put (cs := #[.slice none 0 0, .int .i64 0]) ?_ 0 _ rfl; exact pk BK299.out⟩, ⟨bl_⟩⟩
  case round =>
   clear H'
   try clear c1
   try clear p2
   try clear c3
   try clear c5
   obtain ⟨x19_1, x300000_1, x300001_1, u300000, rfl, HA, HK1, HO_300000, BK291, BK292, BK299, HB⟩ := hrel
   cases gk with
   | zero => exact absurd HA.out (by simp [spec_toAfter.l0])
   | succ k1 =>
    have H := HA.out
    clear HA
    simp only [spec_toAfter.l0] at H
    by_cases c16 : x19_1 < (l1.length : Int)
    ·
     rw [if_pos c16] at H
     have c16b0 := decide_eq_true c16
     clear c16
     by_cases c17 : 0 ≤ x19_1
     ·
      rw [if_pos c17] at H
      have c17b0 := decide_eq_true c17
      clear c17
      by_cases c18 : x19_1 < (l1.length : Int)
      ·
       rw [if_pos c18] at H
       have c18b0 := decide_eq_true c18
       clear c18
       by_cases c19 : 0 < ((rd_L1 l1 x19_1).length : Int)
       ·
        rw [if_pos c19] at H
        have c19b0 := decide_eq_true c19
        have c19b1 : decide (0 < (rd_L1 l1 x19_1).length) = true := decide_eq_true (by omega)
        clear c19
        by_cases c20 : 0 ≤ (rd (rd_L1 l1 x19_1) 0)
        ·
         rw [if_pos c20] at H
         have c20b0 := decide_eq_true c20
         clear c20
         by_cases c21 : (rd (rd_L1 l1 x19_1) 0) < (l0_0.length : Int)
         ·
          rw [if_pos c21] at H
          have c21b0 := decide_eq_true c21
          clear c21
          have HC22 := ak_ H
          clear H
          have p300 : 0 ≤ (x19_1 : Int) := od_
          have q300 : x19_1 < (l1.length : Int) := od_
          obtain ⟨ad300, A300_0, c300_0, e300, hx300_0, hl300_0, hi300_0⟩ := at_L1 HR1.out x19_1 p300 q300
          cases e300
          try replace hx300_0 := (HB.out.cell (World.block_lt_of_cell? w _ hx300_0)).trans hx300_0
          have HR300_0 := ak_ hi300_0
          have HC300_0 := ak_ hl300_0
          clear hi300_0 hl300_0
          replace p300 := eq_true p300
          replace q300 := eq_true q300
          try go_wp2
          have n0_ := ak_ (Kd.R_drew HO_300000.out)
          have n1_ := ak_ (k1_ BK291.out)
          have n2_ := ak_ (k1_ BK292.out)
          have n3_ := ak_ (k1_ BK299.out)
          have n4_ := ak_ (b1_ HB.out)
          clear HO_300000 BK291 BK292 BK299 HB
          have HO_300000 := n0_; have BK291 := n1_; have BK292 := n2_; have BK299 := n3_; have HB := n4_
          clear n0_ n1_ n2_ n3_ n4_
          have p301 : 0 ≤ (0 : Int) := (by omega)
          have q301 : 0 < ((rd_L1 l1 x19_1).length : Int) := od_
          obtain ⟨ad301, e301, hx301_0⟩ := Kd.at_int HR300_0.out 0 p301 q301
          have hw301_0 := hx301_0
          (try rw [show ((0 : Int)).toNat = 0 from rfl] at hw301_0)
          (try rw [show 0 * 1 = 0 from rfl] at hw301_0)
          (try rw [Addr.add_zero'] at hw301_0)
          cases e301
          have qi301 : (0 < (rd_L1 l1 x19_1).length) = True := eq_true (by omega)
          (try rw [show ((0 : Int)).toNat = 0 from rfl] at hx301_0)
          (try rw [Addr.add_zero'] at hx301_0)
          try replace hx301_0 := (HB.out.cell (World.block_lt_of_cell? w _ hx301_0)).trans hx301_0
          replace p301 := eq_true p301
          replace q301 := eq_true q301
          have p302 : 0 ≤ ((rd (rd_L1 l1 x19_1) 0) : Int) := od_
          have q302 : (rd (rd_L1 l1 x19_1) 0) < (l0_0.length : Int) := od_
          obtain ⟨ad302, e302, hx302_0⟩ := Kd.at_bool HR0_0.out (rd (rd_L1 l1 x19_1) 0) p302 q302
          have hw302_0 := hx302_0
          cases e302
          try replace hx302_0 := (HB.out.cell (World.block_lt_of_cell? w _ hx302_0)).trans hx302_0
          replace p302 := eq_true p302
          replace q302 := eq_true q302
          refine start_ (n := 7) (S := fun w' => w'.cell? ⟨gb291, 0, none⟩ = some (.slice (some ad302) l0_0.length c0_0) ∧ w'.cell? ⟨gb291, 1, none⟩ = some (.int .i64 a0_1) ∧ w'.cell? ad301 = some (.int .i64 (rd (rd_L1 l1 x19_1) 0)) ∧ w'.cell? (ad302.add ((rd (rd_L1 l1 x19_1) 0)).toNat) = some (.bool (rdOf false l0_0 (rd (rd_L1 l1 x19_1) 0)))) (ds := []) (mb_ 7 0) (by kernel_rfl) rfl rfl ⟨(blk_cell BK291.out 0).trans rfl, (blk_cell BK291.out 1).trans rfl, ((HB.out.cell (World.block_lt_of_cell? w _ hw301_0)).trans hw301_0), ((HB.out.cell (World.block_lt_of_cell? w _ hw302_0)).trans hw302_0)⟩ (fun hHeld => ?_)
          generalize wr.drew = w23 at HO_300000 BK291 BK292 BK299 HB hx301_0 hx302_0 hHeld ⊢
          refine pure_ (i := 0) (N := some 23) (v := ?_) (a' := ?_) (mb_ 7 1) rfl rfl (by kernel_rfl) (fun _ _ _ h => h) (Or.inl ⟨by rfl, ?_⟩) ?_ ?_
          rotate_left
          ·
           intro w'
           go_simp
           with_reducible rfl
          rotate_left
          ·
           simp only [Act.put, setIfInBounds_toArray, set_cons_zero, set_cons_succ, i64_w, i32_w]
           rfl
          refine pure_ (i := 2) (N := some 25) (v := ?_) (a' := ?_) (mb_ 7 5) rfl rfl (by kernel_rfl) (fun _ _ _ h => h) (Or.inl ⟨by rfl, ?_⟩) ?_ ?_
          rotate_left
          ·
           intro w'
           go_simp
           with_reducible rfl
          rotate_left
          ·
           simp only [Act.put, setIfInBounds_toArray, set_cons_zero, set_cons_succ, i64_w, i32_w]
           rfl
          refine pure_ (i := 3) (N := some 26) (v := ?_) (a' := ?_) (mb_ 7 13) rfl rfl (by kernel_rfl) (fun _ _ _ h => h) (Or.inl ⟨by rfl, ?_⟩) ?_ ?_
          rotate_left
          ·
           intro w'
           go_simp
           with_reducible rfl
          rotate_left
          ·
           simp only [Act.put, setIfInBounds_toArray, set_cons_zero, set_cons_succ, i64_w, i32_w]
           rfl
          refine take_ (i := 1) (N := some 24) (v := ?_) (a' := ?_) (mb_ 7 15) rfl rfl (by kernel_rfl) (fun _ _ _ h => h) (Or.inl ⟨by rfl, ?_⟩) hHeld ?_ ?_
          rotate_left
          ·
           rintro w' ⟨s0, s1, s2, s3⟩
           go_simp
           with_reducible rfl
          rotate_left
          ·
           simp only [Act.put, setIfInBounds_toArray, set_cons_zero, set_cons_succ, i64_w, i32_w]
           rfl
          refine take_ (i := 4) (N := some 27) (v := ?_) (a' := ?_) (mb_ 7 31) rfl rfl (by kernel_rfl) (fun _ _ _ h => h) (Or.inl ⟨by rfl, ?_⟩) hHeld ?_ ?_
          rotate_left
          ·
           rintro w' ⟨s0, s1, s2, s3⟩
           go_simp
           with_reducible rfl
          rotate_left
          ·
           simp only [Act.put, setIfInBounds_toArray, set_cons_zero, set_cons_succ, i64_w, i32_w]
           rfl
          refine pure_ (i := 5) (N := some 28) (v := ?_) (a' := ?_) (mb_ 7 63) rfl rfl (by kernel_rfl) (fun _ _ _ h => h) (Or.inl ⟨by rfl, ?_⟩) ?_ ?_
          rotate_left
          ·
           intro w'
           go_simp
           with_reducible rfl
          rotate_left
          ·
           simp only [Act.put, setIfInBounds_toArray, set_cons_zero, set_cons_succ, i64_w, i32_w]
           rfl
          refine take_ (i := 6) (N := some 29) (v := ?_) (a' := ?_) (mb_ 7 127) rfl rfl (by kernel_rfl) (fun _ _ _ h => h) (Or.inl ⟨by rfl, ?_⟩) hHeld ?_ ?_
          rotate_left
          ·
           rintro w' ⟨s0, s1, s2, s3⟩
           go_simp
           with_reducible rfl
          rotate_left
          ·
           simp only [Act.put, setIfInBounds_toArray, set_cons_zero, set_cons_succ, i64_w, i32_w]
           rfl
          refine done_ (by kernel_rfl) ?_
          go_upto_if 29 with (fail)
          go_cut [] (fun wc => ∃ (kq : Nat) (x300001_21 : Int), Aside0 (spec_toAfter.j1 kq (rd_L1 l1 x19_1) l1 (l1.length : Int) x19_1 l0_0 a0_1 x300000_1 x300001_21 = some (r1, r2)) ∧ Aside0 (kq ≤ k1) ∧ Aside0 (Kd.R Kd.bool 4 wc w.heap.size (fun _ => True) u300000 x300000_1) ∧ Aside0 (wc.heap[gb291]? = some (.cells #[(.slice (some ad302) l0_0.length c0_0), .int .i64 a0_1] 35 (0, 0))) ∧ Aside0 (wc.heap[gb292]? = some (.cells #[(.slice none 0 0), .int .i64 0] 35 (0, 0))) ∧ Aside0 (wc.heap[gb299]? = some (.cells #[u300000, .int .i64 x300001_21] 35 (0, 0))) ∧ Aside0 (Below w.heap.size w wc))
          case first =>
           have H := HC22.out
           clear HC22
           obtain ⟨bq24, hbq24⟩ : ∃ b_ : Bool, b_ = (rdOf false l0_0 (rd (rd_L1 l1 x19_1) 0)) := ⟨_, rfl⟩
           replace H : (if bq24 = true then (spec_toAfter.j1 k1 (rd_L1 l1 x19_1) l1 (l1.length : Int) x19_1 l0_0 a0_1 x300000_1 (wrap64 (x300001_1 - 1))) else (spec_toAfter.j1 k1 (rd_L1 l1 x19_1) l1 (l1.length : Int) x19_1 l0_0 a0_1 x300000_1 (wrap64 (x300001_1 + 1)))) = some (r1, r2) := by rw [← hbq24] at H; exact H
           have Nbq24 := ak_ hbq24
           clear hbq24
           (try rw [← Nbq24.out])
           by_cases c25 : bq24 = true
           ·
            subst c25
            have H1 : (spec_toAfter.j1 k1 (rd_L1 l1 x19_1) l1 (l1.length : Int) x19_1 l0_0 a0_1 x300000_1 (wrap64 (x300001_1 - 1))) = some (r1, r2) := by rw [if_pos rfl] at H; exact H
            clear H
            have H := H1
            clear H1
            have H' := ak_ H
            clear H
            have hnb26 := NB299_291.out
            have hnc26 := NB291_299.out
            have hnb27 := NB299_292.out
            have hnc27 := NB292_299.out
            obtain ⟨hcz28_0, hcz28_1, hfz28_0, hfz28_1⟩ := c2_ BK299.out
            go_wp2
            go_meet
            case rel => exact ⟨_, (wrap64 (x300001_1 - 1)), H', ⟨by have := HK1.out; first | omega | exact Nat.le_refl _⟩, ⟨by (with_reducible repeat (first | apply Kd.R_alloc | apply Kd.R_drewN | apply Kd.R_drew)); exact Kd.R_mono (Kd.R_far (p := ⟨gb299, 1, none⟩) (Kd.R_types HO_300000.out BK299.out (by decide)) (fun _ hk => hk.2) (.int .i64 (wrap64 (x300001_1 - 1)))) (fun _ hk => trivial)⟩, ⟨by (with_reducible repeat (first | refine kN_ ?_ _ | refine k1_ ?_ | refine ka_ ?_ _)); refine blk_far ?_ NB291_299.out _; exact pk BK291.out⟩, ⟨by (with_reducible repeat (first | refine kN_ ?_ _ | refine k1_ ?_ | refine ka_ ?_ _)); refine blk_far ?_ NB292_299.out _; exact pk BK292.out⟩, ⟨by (with_reducible repeat (first | refine kN_ ?_ _ | refine k1_ ?_ | refine ka_ ?_ _)); refine blk_put (cs := #[u300000, .int .i64 x300001_1]) ?_ 1 _ rfl; exact pk BK299.out⟩, ⟨bl_⟩⟩
           ·
            replace c25 := Bool.eq_false_iff.mpr c25
            subst c25
            have H1 : (spec_toAfter.j1 k1 (rd_L1 l1 x19_1) l1 (l1.length : Int) x19_1 l0_0 a0_1 x300000_1 (wrap64 (x300001_1 + 1))) = some (r1, r2) := by rw [if_neg (show ¬ (false = true) by decide)] at H; exact H
            clear H
            have H := H1
            clear H1
            have H' := ak_ H
            clear H
            have hnb29 := NB299_291.out
            have hnc29 := NB291_299.out
            have hnb30 := NB299_292.out
            have hnc30 := NB292_299.out
            obtain ⟨hcz31_0, hcz31_1, hfz31_0, hfz31_1⟩ := c2_ BK299.out
            go_wp2
            go_meet
            case rel => exact ⟨_, (wrap64 (x300001_1 + 1)), H', ⟨by have := HK1.out; first | omega | exact Nat.le_refl _⟩, ⟨by (with_reducible repeat (first | apply Kd.R_alloc | apply Kd.R_drewN | apply Kd.R_drew)); exact Kd.R_mono (Kd.R_far (p := ⟨gb299, 1, none⟩) (Kd.R_types HO_300000.out BK299.out (by decide)) (fun _ hk => hk.2) (.int .i64 (wrap64 (x300001_1 + 1)))) (fun _ hk => trivial)⟩, ⟨by (with_reducible repeat (first | refine kN_ ?_ _ | refine k1_ ?_ | refine ka_ ?_ _)); refine blk_far ?_ NB291_299.out _; exact pk BK291.out⟩, ⟨by (with_reducible repeat (first | refine kN_ ?_ _ | refine k1_ ?_ | refine ka_ ?_ _)); refine blk_far ?_ NB292_299.out _; exact pk BK292.out⟩, ⟨by (with_reducible repeat (first | refine kN_ ?_ _ | refine k1_ ?_ | refine ka_ ?_ _)); refine blk_put (cs := #[u300000, .int .i64 x300001_1]) ?_ 1 _ rfl; exact pk BK299.out⟩, ⟨bl_⟩⟩
          case rest =>
           clear HC22
           try clear c1
           try clear c2
           try clear p2
           try clear q2
           try clear c3
           try clear p3
           try clear q3
           try clear hx3
           try clear qi3
           try clear c5
           try clear p6
           try clear c16
           try clear c16b0
           try clear c17
           try clear c17b0
           try clear c18
           try clear c18b0
           try clear c19
           try clear c19b0
           try clear c19b1
           try clear c20
           try clear c20b0
           try clear c21
           try clear c21b0
           try clear q24
           try clear c25
           try clear c26
           try clear c27
           try clear c29
           try clear c30
           try clear p30
           try clear q30
           try clear hx30
           try clear qi30
           try clear hcz28_0
           try clear hcz28_1
           try clear hcz31_0
           try clear hcz31_1
           try clear hfz28_0
           try clear hfz28_1
           try clear hfz31_0
           try clear hfz31_1
           try clear hx300_0
           try clear hx301_0
           try clear hx302_0
           try clear p2
           try clear p300
           try clear p301
           try clear p302
           try clear q300
           try clear q301
           try clear q302
           obtain ⟨kq, x300001_21, HA, HJ21, HO_300000, BK291, BK292, BK299, HB⟩ := hcut
           cases kq with
           | zero => exact absurd HA.out (by simp [spec_toAfter.j1])
           | succ kj21 =>
            have H := HA.out
            clear HA
            simp only [spec_toAfter.j1] at H
            have H' := ak_ H
            clear H
            go_wp2
            go_loopg [40] kj21 (fun kq v40 w' => ∃ (x40_3 : Int) (x300000_3 : List Bool) (u300000 : Value), v40 = .int .i64 x40_3 ∧ Aside0 (spec_toAfter.l1 kq l1 (l1.length : Int) x19_1 (rd_L1 l1 x19_1) ((rd_L1 l1 x19_1).length : Int) x40_3 l0_0 a0_1 x300000_3 x300001_21 = some (r1, r2)) ∧ Aside0 (kq ≤ kj21) ∧ Aside0 (Kd.R Kd.bool 4 w' w.heap.size (fun _ => True) u300000 x300000_3) ∧ Aside0 (w'.heap[gb291]? = some (.cells #[(.slice (some ad302) l0_0.length c0_0), .int .i64 a0_1] 35 (0, 0))) ∧ Aside0 (w'.heap[gb292]? = some (.cells #[(.slice none 0 0), .int .i64 0] 35 (0, 0))) ∧ Aside0 (w'.heap[gb299]? = some (.cells #[u300000, .int .i64 x300001_21] 35 (0, 0))) ∧ Aside0 (Below w.heap.size w w'))
            case atStart => exact ⟨(0), (x300000_1), (u300000), (ry_), H', ⟨Nat.le_refl _⟩, ⟨Kd.pR HO_300000.out⟩, ⟨pk BK291.out⟩, ⟨pk BK292.out⟩, ⟨pk BK299.out⟩, ⟨bl_⟩⟩
            case round =>
             clear H'
             try clear c1
             try clear c2
             try clear p2
             try clear q2
             try clear c3
             try clear p3
             try clear q3
             try clear hx3
             try clear qi3
             try clear c5
             try clear p6
             try clear c16
             try clear c16b0
             try clear c17
             try clear c17b0
             try clear c18
             try clear c18b0
             try clear c19
             try clear c19b0
             try clear c19b1
             try clear c20
             try clear c20b0
             try clear c21
             try clear c21b0
             try clear q24
             try clear c25
             try clear c26
             try clear c27
             try clear c29
             try clear c30
             try clear p30
             try clear q30
             try clear hx30
             try clear qi30
             try clear hcz28_0
             try clear hcz28_1
             try clear hcz31_0
             try clear hcz31_1
             try clear hfz28_0
             try clear hfz28_1
             try clear hfz31_0
             try clear hfz31_1
             try clear hx300_0
             try clear hx301_0
             try clear hx302_0
             try clear p2
             try clear p3
             try clear p30
             try clear p300
             try clear p301
             try clear p302
             try clear p6
             try clear q2
             try clear q24
             try clear q3
             try clear q30
             try clear q300
             try clear q301
             try clear q302
             obtain ⟨x40_3, x300000_3, u300000, rfl, HA, HK3, HO_300000, BK291, BK292, BK299, HB⟩ := hrel
             cases gk with
             | zero => exact absurd HA.out (by simp [spec_toAfter.l1])
             | succ k3 =>
              have H := HA.out
              clear HA
              simp only [spec_toAfter.l1] at H
              by_cases c32 : x40_3 < ((rd_L1 l1 x19_1).length : Int)
              ·
               rw [if_pos c32] at H
               have c32b0 := decide_eq_true c32
               clear c32
               by_cases c33 : 0 ≤ x40_3
               ·
                rw [if_pos c33] at H
                have c33b0 := decide_eq_true c33
                clear c33
                by_cases c34 : x40_3 < ((rd_L1 l1 x19_1).length : Int)
                ·
                 rw [if_pos c34] at H
                 have c34b0 := decide_eq_true c34
                 clear c34
                 by_cases c35 : 0 ≤ (rd (rd_L1 l1 x19_1) x40_3)
                 ·
                  rw [if_pos c35] at H
                  have c35b0 := decide_eq_true c35
                  clear c35
                  by_cases c36 : (rd (rd_L1 l1 x19_1) x40_3) < (l0_0.length : Int)
                  ·
                   rw [if_pos c36] at H
                   have c36b0 := decide_eq_true c36
                   clear c36
                   by_cases c37 : (rd (rd_L1 l1 x19_1) x40_3) < (x300000_3.length : Int)
                   ·
                    rw [if_pos c37] at H
                    have c37b0 := decide_eq_true c37
                    clear c37
                    obtain ⟨y305, hy305⟩ : ∃ y_ : List Bool, y_ = (x300000_3.set ((rd (rd_L1 l1 x19_1) x40_3) : Int).toNat (!(rdOf false l0_0 (rd (rd_L1 l1 x19_1) x40_3)))) := ⟨_, rfl⟩
                    replace H : (spec_toAfter.l1 k3 l1 (l1.length : Int) x19_1 (rd_L1 l1 x19_1) ((rd_L1 l1 x19_1).length : Int) (wrap64 (x40_3 + 1)) l0_0 a0_1 y305 x300001_21) = some (r1, r2) := by first | (rw [hy305]; exact H) | exact H
                    have Ny305 := ak_ hy305
                    clear hy305
                    have H' := ak_ H
                    clear H
                    have p303 : 0 ≤ (x40_3 : Int) := od_
                    have q303 : x40_3 < ((rd_L1 l1 x19_1).length : Int) := od_
                    obtain ⟨ad303, e303, hx303_0⟩ := Kd.at_int HR300_0.out x40_3 p303 q303
                    obtain rfl : ad301 = ad303 := (by injection e303)
                    try replace hx303_0 := (HB.out.cell (World.block_lt_of_cell? w _ hx303_0)).trans hx303_0
                    replace p303 := eq_true p303
                    replace q303 := eq_true q303
                    try go_wp2
                    have n0_ := ak_ (Kd.R_drew HO_300000.out)
                    have n1_ := ak_ (k1_ BK291.out)
                    have n2_ := ak_ (k1_ BK292.out)
                    have n3_ := ak_ (k1_ BK299.out)
                    have n4_ := ak_ (b1_ HB.out)
                    clear HO_300000 BK291 BK292 BK299 HB
                    have HO_300000 := n0_; have BK291 := n1_; have BK292 := n2_; have BK299 := n3_; have HB := n4_
                    clear n0_ n1_ n2_ n3_ n4_
                    have p304 : 0 ≤ ((rd (rd_L1 l1 x19_1) x40_3) : Int) := od_
                    have q304 : (rd (rd_L1 l1 x19_1) x40_3) < (l0_0.length : Int) := od_
                    obtain ⟨ad304, e304, hx304_0⟩ := Kd.at_bool HR0_0.out (rd (rd_L1 l1 x19_1) x40_3) p304 q304
                    have hw304_0 := hx304_0
                    obtain rfl : ad302 = ad304 := (by injection e304)
                    try replace hx304_0 := (HB.out.cell (World.block_lt_of_cell? w _ hx304_0)).trans hx304_0
                    replace p304 := eq_true p304
                    replace q304 := eq_true q304
                    have p38 : 0 ≤ ((rd (rd_L1 l1 x19_1) x40_3) : Int) := od_
                    have q38 : ((rd (rd_L1 l1 x19_1) x40_3) : Int) < ((x300000_3.length : Int) : Int) := od_
                    obtain ⟨go38, co38, eo38, gb38, gl38, cl38, HG38⟩ := Kd.R_form HO_300000.out (by omega)
                    (first | cases eo38 | (injection eo38 with ea_ en_ ec_; (first | subst ea_ | (injection ea_ with ea_; subst ea_)); subst ec_; clear en_))
                    have GB38 := ak_ gb38
                    have GG38 := ak_ HG38
                    clear gb38 gl38 HG38
                    obtain ⟨hx38_0, hf38_0⟩ := Kd.R_celln false HO_300000.out ((rd (rd_L1 l1 x19_1) x40_3) : Int) p38 q38
                    replace p38 := eq_true p38
                    replace q38 := eq_true q38
                    have HP40 := Kd.R_putn HO_300000.out ((rd (rd_L1 l1 x19_1) x40_3) : Int) (!(rdOf false l0_0 (rd (rd_L1 l1 x19_1) x40_3)))
                    rw [← Ny305.out] at HP40
                    have HQ40 := ak_ HP40
                    clear HP40
                    refine start_ (n := 11) (S := fun w' => w'.cell? ⟨gb299, 0, none⟩ = some (.slice (some ⟨go38, 0, none⟩) x300000_3.length co38) ∧ w'.cell? ⟨gb299, 1, none⟩ = some (.int .i64 x300001_21) ∧ w'.cell? ⟨gb291, 0, none⟩ = some (.slice (some ad302) l0_0.length c0_0) ∧ w'.cell? ⟨gb291, 1, none⟩ = some (.int .i64 a0_1) ∧ w'.cell? (ad302.add ((rd (rd_L1 l1 x19_1) x40_3)).toNat) = some (.bool (rdOf false l0_0 (rd (rd_L1 l1 x19_1) x40_3)))) (ds := [10]) (mb_ 11 0) (by kernel_rfl) rfl rfl ⟨(blk_cell BK299.out 0).trans rfl, (blk_cell BK299.out 1).trans rfl, (blk_cell BK291.out 0).trans rfl, (blk_cell BK291.out 1).trans rfl, ((HB.out.cell (World.block_lt_of_cell? w _ hw304_0)).trans hw304_0)⟩ (fun hHeld => ?_); refine with_tabW spec_toAfter.tab11 spec_toAfter.bits11 (fun HT_ HW_ => ?_)
                    generalize wr.drew = w39 at HO_300000 BK291 BK292 BK299 HB GG38 HQ40 hf38_0 hx304_0 hx38_0 hHeld ⊢
                    refine pu_ 0 44 11 1 ?_
                    refine pu_ 2 46 11 5 ?_
                    refine pu_ 3 47 11 13 ?_
                    refine pu_ 5 49 11 45 ?_
                    refine tk_ 1 45 11 47 ?_ (hy := by rintro w' ⟨s0, s1, s2, s3, s4⟩; go_simp; with_reducible rfl)
                    refine tk_ 4 48 11 63 ?_ (hy := by rintro w' ⟨s0, s1, s2, s3, s4⟩; go_simp; with_reducible rfl)
                    refine pu_ 6 50 11 127 ?_
                    refine tk_ 7 51 11 255 ?_ (hy := by rintro w' ⟨s0, s1, s2, s3, s4⟩; go_simp; with_reducible rfl)
                    refine pu_ 8 52 11 511 ?_
                    refine pu_ 9 53 11 1023 ?_
                    refine last_ (i := 10) (N := none) (mb_ 11 2047) rfl rfl (one_of HT_.out (by kernel_rfl)) (by decide) (fun K hK => ?_)
                    refine skip_ (w1 := ?_) (by rfl) rfl ?_ ?_
                    rotate_left
                    ·
                     go_simp
                     rfl
                    refine hK.out _ _ ?_
                    clear hK K
                    refine done_ (done_of HT_.out (by kernel_rfl)) ?_
                    try go_wp2
                    go_roundg k3
                    case measure => have := HK1.out; have := HJ21.out; have := HK3.out; omega
                    case rel => exact ⟨(wrap64 (x40_3 + 1)), (y305), (.slice (some ⟨go38, 0, none⟩) x300000_3.length co38), (ry_), H', ⟨by have := HK1.out; have := HJ21.out; have := HK3.out; omega⟩, ⟨Kd.pR HQ40.out⟩, ⟨by (with_reducible repeat (first | refine kN_ ?_ _ | refine k1_ ?_ | refine ka_ ?_ _)); refine blk_far ?_ (by have h_ := Kd.R_ne HO_300000.out BK291.out (by decide); intro e_; exact h_ (by rw [e_]; rfl)) _; exact pk BK291.out⟩, ⟨by (with_reducible repeat (first | refine kN_ ?_ _ | refine k1_ ?_ | refine ka_ ?_ _)); refine blk_far ?_ (by have h_ := Kd.R_ne HO_300000.out BK292.out (by decide); intro e_; exact h_ (by rw [e_]; rfl)) _; exact pk BK292.out⟩, ⟨by (with_reducible repeat (first | refine kN_ ?_ _ | refine k1_ ?_ | refine ka_ ?_ _)); refine blk_far ?_ (by have h_ := Kd.R_ne HO_300000.out BK299.out (by decide); intro e_; exact h_ (by rw [e_]; rfl)) _; exact pk BK299.out⟩, ⟨by repeat (with_reducible first | exact HB.out | apply ba_ | apply bN_ | apply b1_ | refine below_set ?_ GB38.out | refine below_set ?_ (Aside0.out (by assumption)))⟩⟩
                   ·
                    rw [if_neg c37] at H
                    exact absurd H (by simp)
                  ·
                   rw [if_neg c36] at H
                   exact absurd H (by simp)
                 ·
                  rw [if_neg c35] at H
                  exact absurd H (by simp)
                ·
                 rw [if_neg c34] at H
                 exact absurd H (by simp)
               ·
                rw [if_neg c33] at H
                exact absurd H (by simp)
              ·
               rw [if_neg c32] at H
               have c32b0 := decide_eq_false c32
               clear c32
               have H' := ak_ H
               clear H
               go_wp2
               go_roundg k3
               case measure => have := HK1.out; have := HJ21.out; have := HK3.out; omega
               case rel => exact ⟨(wrap64 (x19_1 + 1)), (x300000_3), (x300001_21), (u300000), (ry_), H', ⟨by have := HK1.out; have := HJ21.out; have := HK3.out; omega⟩, ⟨Kd.pR HO_300000.out⟩, ⟨pk BK291.out⟩, ⟨pk BK292.out⟩, ⟨pk BK299.out⟩, ⟨bl_⟩⟩
         ·
          rw [if_neg c21] at H
          exact absurd H (by simp)
        ·
         rw [if_neg c20] at H
         exact absurd H (by simp)
       ·
        rw [if_neg c19] at H
        exact absurd H (by simp)
      ·
       rw [if_neg c18] at H
       exact absurd H (by simp)
     ·
      rw [if_neg c17] at H
      exact absurd H (by simp)
    ·
     rw [if_neg c16] at H
     have c16b0 := decide_eq_false c16
     clear c16
     simp only [Option.some.injEq, Prod.mk.injEq] at H
     obtain ⟨rfl, rfl⟩ := H
     have hnb41 := NB299_291.out
     have hnc41 := NB291_299.out
     have hnb42 := NB299_292.out
     have hnc42 := NB292_299.out
     obtain ⟨hcz43_0, hcz43_1, hfz43_0, hfz43_1⟩ := c2_ BK299.out
     obtain ⟨Ao44, co44, eo44⟩ := Kd.R_slice HO_300000.out
     subst eo44
     have hnb45 := NB292_291.out
     have hnc45 := NB291_292.out
     obtain ⟨hcz46_0, hcz46_1, hfz46_0, hfz46_1⟩ := c2_ BK292.out
     go_wp2
     refine bodyPost_ret (results_cell_row rfl _ _ gb292 35 #[.slice Ao44 x300000_1.length co44, .int .i64 x300001_1] (0, 0) _ rfl (by (with_reducible repeat (first | refine kN_ ?_ _ | refine k1_ ?_ | refine ka_ ?_ _)); refine blk_put (cs := #[.slice Ao44 x300000_1.length co44, .int .i64 0]) ?_ 1 _ rfl; (with_reducible repeat (first | refine kN_ ?_ _ | refine k1_ ?_ | refine ka_ ?_ _)); refine blk_put (cs := #[.slice none 0 0, .int .i64 0]) ?_ 0 _ rfl; exact pk BK292.out) Try.underlying35 rfl (by kernel_rfl)) rfl ?_
     exact ⟨_, rx_, by (with_reducible repeat (first | apply Kd.R_alloc | apply Kd.R_drewN | apply Kd.R_drew)); exact Kd.R_mono (Kd.R_far (p := ⟨gb292, 1, none⟩) (Kd.R_far (p := ⟨gb292, 0, none⟩) (Kd.R_types HO_300000.out BK292.out (by decide)) (fun _ hk => hk.2) (.slice Ao44 x300000_1.length co44)) (fun _ hk => hk.2) (.int .i64 x300001_1)) (fun _ hk => trivial), bl_⟩
 ·
  rw [if_neg c3] at H
  exact absurd H (by simp)
end Go.Proofs.Ytmdbhpbogbekmaa.QNt
