/- Contracts of functions of the given program, walked. Conditions: those at each theorem. -/
import Derived.Test.YtmdbhpbogbekmaaQNtx0
import Derived.Test.YtmdbhpbogbekmaaQNtx1
import Derived.Test.YtmdbhpbogbekmaaQNtx11
import Derived.Test.YtmdbhpbogbekmaaQNtx19
namespace Go.Proofs.Ytmdbhpbogbekmaa.QNt
open Go.RowKit Go.Proofs.YtmdbhpbogbekmaaW.PrintWords Go.Proofs.YtmdbhpbogbekmaaW.PrintLast Go.Proofs.YtmdbhpbogbekmaaW.PrintMore
open List (setIfInBounds_toArray set_cons_zero set_cons_succ map_toArray map_cons map_nil)
attribute [local go_sem] max2_int min2_int max_two min_two max_three min_three max_four min_four
set_option linter.unusedVariables false
set_option maxHeartbeats 8000000
set_option maxRecDepth 100000
set_option linter.unusedSimpArgs false
def laws_FnExactTimeFromCamp.j0 : Nat → Bool → List Int → Int → Int → List Bool → Int → List Int → Int → Int → List Bool → Int → Option (Bool)
 | 0, _, _, _, _, _, _, _, _, _, _, _ => none
 | k + 1, x47, x536000, x536001, x536002, x537000, x537001, x556000, x556001, x556002, x561000, x561001 => if x47 = true then (none) else ((laws_toNight.f k x536000 x536001 x536002).bind fun bt563 => ((laws_eqNight.f k x556000 x556001 x556002 bt563.1 bt563.2.1 bt563.2.2).bind fun t568 => (if t568 = true then ((laws_toCamp.f k x537000 x537001).bind fun bt569 => ((laws_eqCamp.f k x561000 x561001 bt569.1 bt569.2).bind fun t573 => (if t573 = true then (some true) else (none)))) else (none))))
def laws_FnExactTimeFromCamp.f (k : Nat) (l0_0 : List Int) (a0_1 : Int) (a0_2 : Int) (l1_0 : List Bool) (a1_1 : Int) : Option (Bool) := (laws_szNight.f l0_0 a0_1 a0_2 1048576).bind fun t537 => (if t537 < 0 then (some true) else ((laws_szCamp.f l1_0 a1_1 t537).bind fun t538 => (if t538 < 0 then (some true) else ((laws_toNight.f k l0_0 a0_1 a0_2).bind fun bt539 => ((laws_toCamp.f k l1_0 a1_1).bind fun bt544 => ((spec_TimeFromCamp.f k bt539.1 bt539.2.1 bt539.2.2 bt544.1 bt544.2).bind fun bt548 => ((laws_toNight.f k l0_0 a0_1 a0_2).bind fun bt550 => ((laws_toCamp.f k l1_0 a1_1).bind fun bt556 => ((impl_TimeFromCamp.f k bt550.1 bt550.2.1 bt550.2.2 bt556.1 bt556.2).bind fun bt561 => (if bt561.1 = bt548.1 then (laws_FnExactTimeFromCamp.j0 k (bt561.2 != bt548.2) l0_0 a0_1 a0_2 l1_0 a1_1 bt550.1 bt550.2.1 bt550.2.2 bt556.1 bt556.2) else (laws_FnExactTimeFromCamp.j0 k true l0_0 a0_1 a0_2 l1_0 a1_1 bt550.1 bt550.2.1 bt550.2.2 bt556.1 bt556.2)))))))))))
def laws_FnExactTimeFromCamp.T8 : Bool × List (List Nat × List Nat) := (true, [([], []), ([0], [0]), ([], []), ([2, 1], [2]), ([1, 3, 3], [1, 3]), ([4], [4]), ([5], [5]), ([5], [5]), ([6, 4, 0, 1, 2, 3, 4, 5, 6], [6]), ([7, 8, 0, 1, 2, 3, 4, 5, 6, 7, 8], [7])])
def laws_FnExactTimeFromCamp.B8 : List Nat := [0, 1, 0, 7, 15, 31, 63, 63, 127, 511]
theorem laws_FnExactTimeFromCamp.tab8 : rtab .any (opsOf Try.f8 8) = laws_FnExactTimeFromCamp.T8 := by kernel_rfl
theorem laws_FnExactTimeFromCamp.bits8 : waitsOk laws_FnExactTimeFromCamp.T8.2 laws_FnExactTimeFromCamp.B8 = true := by kernel_rfl
theorem laws_FnExactTimeFromCamp.calls (k : Nat) (A0_0 : Option Addr) (c0_0 : Nat) (l0_0 : List Int) (a0_1 : Int) (a0_2 : Int) (A1_0 : Option Addr) (c1_0 : Nat) (l1_0 : List Bool) (a1_1 : Int) (r : Bool) (w : World) (hr0_0 : Kd.C (Kd.int .i64) w A0_0 l0_0.length l0_0) (hc0_0 : l0_0.length ≤ c0_0) (hr1_0 : Kd.C Kd.bool w A1_0 l1_0.length l1_0) (hc1_0 : l1_0.length ≤ c1_0) (h : laws_FnExactTimeFromCamp.f k l0_0 a0_1 a0_2 l1_0 a1_1 = some r) :
  Calls Try.prog 8 #[.agg #[.slice A0_0 l0_0.length c0_0, .int .i64 a0_1, .int .i64 a0_2], .agg #[.slice A1_0 l1_0.length c1_0, .int .i64 a1_1]] w fun e w' => e = .returned (.bool r) ∧ Below w.heap.size w w' := by
 have hu24 := Try.underlying24
 have hu27 := Try.underlying27
 have hu33 := Try.underlying33
 have hu35 := Try.underlying35
 have HR0_0 := ak_ hr0_0
 have HC0_0 := ak_ hc0_0
 clear hr0_0 hc0_0
 have HR1_0 := ak_ hr1_0
 have HC1_0 := ak_ hc1_0
 clear hr1_0 hc1_0
 have HB := ak_ (Below.refl w.heap.size w)
 have H : ((laws_szNight.f l0_0 a0_1 a0_2 1048576).bind fun t537 => (if t537 < 0 then (some true) else ((laws_szCamp.f l1_0 a1_1 t537).bind fun t538 => (if t538 < 0 then (some true) else ((laws_toNight.f k l0_0 a0_1 a0_2).bind fun bt539 => ((laws_toCamp.f k l1_0 a1_1).bind fun bt544 => ((spec_TimeFromCamp.f k bt539.1 bt539.2.1 bt539.2.2 bt544.1 bt544.2).bind fun bt548 => ((laws_toNight.f k l0_0 a0_1 a0_2).bind fun bt550 => ((laws_toCamp.f k l1_0 a1_1).bind fun bt556 => ((impl_TimeFromCamp.f k bt550.1 bt550.2.1 bt550.2.2 bt556.1 bt556.2).bind fun bt561 => (if bt561.1 = bt548.1 then (laws_FnExactTimeFromCamp.j0 k (bt561.2 != bt548.2) l0_0 a0_1 a0_2 l1_0 a1_1 bt550.1 bt550.2.1 bt550.2.2 bt556.1 bt556.2) else (laws_FnExactTimeFromCamp.j0 k true l0_0 a0_1 a0_2 l1_0 a1_1 bt550.1 bt550.2.1 bt550.2.2 bt556.1 bt556.2)))))))))))) = some r := h
 clear h
 replace H := Option.bind_eq_some_iff.mp H
 obtain ⟨t537, A30, H⟩ := H
 replace H : (if t537 < 0 then (some true) else ((laws_szCamp.f l1_0 a1_1 t537).bind fun t538 => (if t538 < 0 then (some true) else ((laws_toNight.f k l0_0 a0_1 a0_2).bind fun bt539 => ((laws_toCamp.f k l1_0 a1_1).bind fun bt544 => ((spec_TimeFromCamp.f k bt539.1 bt539.2.1 bt539.2.2 bt544.1 bt544.2).bind fun bt548 => ((laws_toNight.f k l0_0 a0_1 a0_2).bind fun bt550 => ((laws_toCamp.f k l1_0 a1_1).bind fun bt556 => ((impl_TimeFromCamp.f k bt550.1 bt550.2.1 bt550.2.2 bt556.1 bt556.2).bind fun bt561 => (if bt561.1 = bt548.1 then (laws_FnExactTimeFromCamp.j0 k (bt561.2 != bt548.2) l0_0 a0_1 a0_2 l1_0 a1_1 bt550.1 bt550.2.1 bt550.2.2 bt556.1 bt556.2) else (laws_FnExactTimeFromCamp.j0 k true l0_0 a0_1 a0_2 l1_0 a1_1 bt550.1 bt550.2.1 bt550.2.2 bt556.1 bt556.2))))))))))) = some r := H
 have A3 := ak_ A30
 clear A30
 by_cases c4 : t537 < 0
 ·
  rw [if_pos c4] at H
  have c4b0 := decide_eq_true c4
  clear c4
  obtain rfl := Option.some.inj H
  go_enter Try.func8, Try.ntmps8
  go_wp2_with (first | ((with_reducible refine gate_dst (N := 2) rfl ?_); refine bx_ 2 #[.slice A0_0 l0_0.length c0_0, .int .i64 a0_1, .int .i64 a0_2] 24 ?_; intro gb535 hg w5 hbox hb; have BK535 := ak_ (hbox); have GW535 := ak_ ((by rw [hg]; exact (bz_ (bb_ HB.out)) : w.heap.size ≤ gb535)); replace HB := ak_ (bs_ (bb_ HB.out) hb); have GE535 := GW535; clear hb hbox hg) | ((with_reducible refine gate_dst (N := 3) rfl ?_); refine bx_ 3 #[.slice A1_0 l1_0.length c1_0, .int .i64 a1_1] 27 ?_; intro gb536 hg w6 hbox hb; have BK536 := ak_ (hbox); have GW536 := ak_ ((by rw [hg]; exact (bz_ bl_) : w.heap.size ≤ gb536)); replace HB := ak_ (bs_ bl_ hb); have GE536 := GW536; have NB535_536 := ak_ ((by rw [hg]; exact Nat.ne_of_lt (blk_lt (pk BK535.out)) : gb535 ≠ gb536)); replace BK535 := ak_ (blk_below (pk BK535.out) hb); have NB536_535 := ak_ NB535_536.out.symm; clear hb hbox hg; have hnb7 := NB535_536.out; have hnc7 := NB536_535.out; obtain ⟨hcz8_0, hcz8_1, hcz8_2, hfz8_0, hfz8_1, hfz8_2⟩ := c3_ BK535.out) | ((with_reducible refine gate_callee (f := 10) rfl ?_); refine goesL_ (some 14) rfl rfl Try.func10 (by kernel_rfl) rfl #[.agg #[.slice A0_0 l0_0.length c0_0, .int .i64 a0_1, .int .i64 a0_2], .int .i64 1048576] rfl rs_ ?_; (with_reducible refine (laws_szNight.calls _ _ l0_0 a0_1 a0_2 1048576 t537 _ ?side1 ?side2 A3.out).mono ?_); (case side1 => exact cs_ (Kd.C_below HR0_0.out HB.out)); (case side2 => exact HC0_0.out); rintro e w9 ⟨rfl, hb⟩; refine ⟨_, rfl, ?_⟩; replace BK535 := ak_ (blk_below (pk BK535.out) hb); replace BK536 := ak_ (blk_below (pk BK536.out) hb); replace HB := ak_ (bs_ bl_ hb); (try clear hb); (try clear hb2); (try clear hk); (try clear hi)))
  go_ret
  exact ⟨rx_, bl_⟩
 ·
  rw [if_neg c4] at H
  have c4b0 := decide_eq_false c4
  clear c4
  replace H := Option.bind_eq_some_iff.mp H
  obtain ⟨t538, A100, H⟩ := H
  replace H : (if t538 < 0 then (some true) else ((laws_toNight.f k l0_0 a0_1 a0_2).bind fun bt539 => ((laws_toCamp.f k l1_0 a1_1).bind fun bt544 => ((spec_TimeFromCamp.f k bt539.1 bt539.2.1 bt539.2.2 bt544.1 bt544.2).bind fun bt548 => ((laws_toNight.f k l0_0 a0_1 a0_2).bind fun bt550 => ((laws_toCamp.f k l1_0 a1_1).bind fun bt556 => ((impl_TimeFromCamp.f k bt550.1 bt550.2.1 bt550.2.2 bt556.1 bt556.2).bind fun bt561 => (if bt561.1 = bt548.1 then (laws_FnExactTimeFromCamp.j0 k (bt561.2 != bt548.2) l0_0 a0_1 a0_2 l1_0 a1_1 bt550.1 bt550.2.1 bt550.2.2 bt556.1 bt556.2) else (laws_FnExactTimeFromCamp.j0 k true l0_0 a0_1 a0_2 l1_0 a1_1 bt550.1 bt550.2.1 bt550.2.2 bt556.1 bt556.2))))))))) = some r := H
  have A10 := ak_ A100
  clear A100
  by_cases c11 : t538 < 0
  ·
   rw [if_pos c11] at H
   have c11b0 := decide_eq_true c11
   clear c11
   obtain rfl := Option.some.inj H
   go_enter Try.func8, Try.ntmps8
   go_wp2_with (first | ((with_reducible refine gate_dst (N := 2) rfl ?_); refine bx_ 2 #[.slice A0_0 l0_0.length c0_0, .int .i64 a0_1, .int .i64 a0_2] 24 ?_; intro gb535 hg w12 hbox hb; have BK535 := ak_ (hbox); have GW535 := ak_ ((by rw [hg]; exact (bz_ (bb_ HB.out)) : w.heap.size ≤ gb535)); replace HB := ak_ (bs_ (bb_ HB.out) hb); have GE535 := GW535; clear hb hbox hg) | ((with_reducible refine gate_dst (N := 3) rfl ?_); refine bx_ 3 #[.slice A1_0 l1_0.length c1_0, .int .i64 a1_1] 27 ?_; intro gb536 hg w13 hbox hb; have BK536 := ak_ (hbox); have GW536 := ak_ ((by rw [hg]; exact (bz_ bl_) : w.heap.size ≤ gb536)); replace HB := ak_ (bs_ bl_ hb); have GE536 := GW536; have NB535_536 := ak_ ((by rw [hg]; exact Nat.ne_of_lt (blk_lt (pk BK535.out)) : gb535 ≠ gb536)); replace BK535 := ak_ (blk_below (pk BK535.out) hb); have NB536_535 := ak_ NB535_536.out.symm; clear hb hbox hg; have hnb14 := NB535_536.out; have hnc14 := NB536_535.out; obtain ⟨hcz15_0, hcz15_1, hcz15_2, hfz15_0, hfz15_1, hfz15_2⟩ := c3_ BK535.out) | ((with_reducible refine gate_callee (f := 10) rfl ?_); refine goesL_ (some 14) rfl rfl Try.func10 (by kernel_rfl) rfl #[.agg #[.slice A0_0 l0_0.length c0_0, .int .i64 a0_1, .int .i64 a0_2], .int .i64 1048576] rfl rs_ ?_; (with_reducible refine (laws_szNight.calls _ _ l0_0 a0_1 a0_2 1048576 t537 _ ?side1 ?side2 A3.out).mono ?_); (case side1 => exact cs_ (Kd.C_below HR0_0.out HB.out)); (case side2 => exact HC0_0.out); rintro e w16 ⟨rfl, hb⟩; refine ⟨_, rfl, ?_⟩; replace BK535 := ak_ (blk_below (pk BK535.out) hb); replace BK536 := ak_ (blk_below (pk BK536.out) hb); replace HB := ak_ (bs_ bl_ hb); (try clear hb); (try clear hb2); (try clear hk); (try clear hi); obtain ⟨hcz17_0, hcz17_1, hfz17_0, hfz17_1⟩ := c2_ BK536.out) | ((with_reducible refine gate_callee (f := 11) rfl ?_); refine goesL_ (some 19) rfl rfl Try.func11 (by kernel_rfl) rfl #[.agg #[.slice A1_0 l1_0.length c1_0, .int .i64 a1_1], .int .i64 t537] rfl rs_ ?_; (with_reducible refine (laws_szCamp.calls _ _ l1_0 a1_1 t537 t538 _ ?side1 ?side2 A10.out).mono ?_); (case side1 => exact cs_ (Kd.C_below HR1_0.out HB.out)); (case side2 => exact HC1_0.out); rintro e w18 ⟨rfl, hb⟩; refine ⟨_, rfl, ?_⟩; replace BK535 := ak_ (blk_below (pk BK535.out) hb); replace BK536 := ak_ (blk_below (pk BK536.out) hb); replace HB := ak_ (bs_ bl_ hb); (try clear hb); (try clear hb2); (try clear hk); (try clear hi)))
   go_ret
   exact ⟨rx_, bl_⟩
  ·
   rw [if_neg c11] at H
   have c11b0 := decide_eq_false c11
   clear c11
   replace H := Option.bind_eq_some_iff.mp H
   obtain ⟨⟨t539, t542, t543⟩, A190, H⟩ := H
   replace H : ((laws_toCamp.f k l1_0 a1_1).bind fun bt544 => ((spec_TimeFromCamp.f k t539 t542 t543 bt544.1 bt544.2).bind fun bt548 => ((laws_toNight.f k l0_0 a0_1 a0_2).bind fun bt550 => ((laws_toCamp.f k l1_0 a1_1).bind fun bt556 => ((impl_TimeFromCamp.f k bt550.1 bt550.2.1 bt550.2.2 bt556.1 bt556.2).bind fun bt561 => (if bt561.1 = bt548.1 then (laws_FnExactTimeFromCamp.j0 k (bt561.2 != bt548.2) l0_0 a0_1 a0_2 l1_0 a1_1 bt550.1 bt550.2.1 bt550.2.2 bt556.1 bt556.2) else (laws_FnExactTimeFromCamp.j0 k true l0_0 a0_1 a0_2 l1_0 a1_1 bt550.1 bt550.2.1 bt550.2.2 bt556.1 bt556.2))))))) = some r := H
   have A19 := ak_ A190
   clear A190
   replace H := Option.bind_eq_some_iff.mp H
   obtain ⟨⟨t544, t547⟩, A200, H⟩ := H
   replace H : ((spec_TimeFromCamp.f k t539 t542 t543 t544 t547).bind fun bt548 => ((laws_toNight.f k l0_0 a0_1 a0_2).bind fun bt550 => ((laws_toCamp.f k l1_0 a1_1).bind fun bt556 => ((impl_TimeFromCamp.f k bt550.1 bt550.2.1 bt550.2.2 bt556.1 bt556.2).bind fun bt561 => (if bt561.1 = bt548.1 then (laws_FnExactTimeFromCamp.j0 k (bt561.2 != bt548.2) l0_0 a0_1 a0_2 l1_0 a1_1 bt550.1 bt550.2.1 bt550.2.2 bt556.1 bt556.2) else (laws_FnExactTimeFromCamp.j0 k true l0_0 a0_1 a0_2 l1_0 a1_1 bt550.1 bt550.2.1 bt550.2.2 bt556.1 bt556.2)))))) = some r := H
   have A20 := ak_ A200
   clear A200
   replace H := Option.bind_eq_some_iff.mp H
   obtain ⟨⟨t548, t549⟩, A210, H⟩ := H
   replace H : ((laws_toNight.f k l0_0 a0_1 a0_2).bind fun bt550 => ((laws_toCamp.f k l1_0 a1_1).bind fun bt556 => ((impl_TimeFromCamp.f k bt550.1 bt550.2.1 bt550.2.2 bt556.1 bt556.2).bind fun bt561 => (if bt561.1 = t548 then (laws_FnExactTimeFromCamp.j0 k (bt561.2 != t549) l0_0 a0_1 a0_2 l1_0 a1_1 bt550.1 bt550.2.1 bt550.2.2 bt556.1 bt556.2) else (laws_FnExactTimeFromCamp.j0 k true l0_0 a0_1 a0_2 l1_0 a1_1 bt550.1 bt550.2.1 bt550.2.2 bt556.1 bt556.2))))) = some r := H
   have A21 := ak_ A210
   clear A210
   replace H := Option.bind_eq_some_iff.mp H
   obtain ⟨⟨t550, t553, t554⟩, A220, H⟩ := H
   replace H : ((laws_toCamp.f k l1_0 a1_1).bind fun bt556 => ((impl_TimeFromCamp.f k t550 t553 t554 bt556.1 bt556.2).bind fun bt561 => (if bt561.1 = t548 then (laws_FnExactTimeFromCamp.j0 k (bt561.2 != t549) l0_0 a0_1 a0_2 l1_0 a1_1 t550 t553 t554 bt556.1 bt556.2) else (laws_FnExactTimeFromCamp.j0 k true l0_0 a0_1 a0_2 l1_0 a1_1 t550 t553 t554 bt556.1 bt556.2)))) = some r := H
   have A22 := ak_ A220
   clear A220
   replace H := Option.bind_eq_some_iff.mp H
   obtain ⟨⟨t556, t559⟩, A230, H⟩ := H
   replace H : ((impl_TimeFromCamp.f k t550 t553 t554 t556 t559).bind fun bt561 => (if bt561.1 = t548 then (laws_FnExactTimeFromCamp.j0 k (bt561.2 != t549) l0_0 a0_1 a0_2 l1_0 a1_1 t550 t553 t554 t556 t559) else (laws_FnExactTimeFromCamp.j0 k true l0_0 a0_1 a0_2 l1_0 a1_1 t550 t553 t554 t556 t559))) = some r := H
   have A23 := ak_ A230
   clear A230
   replace H := Option.bind_eq_some_iff.mp H
   obtain ⟨⟨t561, t562⟩, A240, H⟩ := H
   replace H : (if t561 = t548 then (laws_FnExactTimeFromCamp.j0 k (t562 != t549) l0_0 a0_1 a0_2 l1_0 a1_1 t550 t553 t554 t556 t559) else (laws_FnExactTimeFromCamp.j0 k true l0_0 a0_1 a0_2 l1_0 a1_1 t550 t553 t554 t556 t559)) = some r := H
   have A24 := ak_ A240
   clear A240
   have HC25 := ak_ H
   clear H
   go_enter Try.func8, Try.ntmps8
   try go_wp2_with (first | ((with_reducible refine gate_dst (N := 2) rfl ?_); refine bx_ 2 #[.slice A0_0 l0_0.length c0_0, .int .i64 a0_1, .int .i64 a0_2] 24 ?_; intro gb535 hg w26 hbox hb; have BK535 := ak_ (hbox); have GW535 := ak_ ((by rw [hg]; exact (bz_ (bb_ HB.out)) : w.heap.size ≤ gb535)); replace HB := ak_ (bs_ (bb_ HB.out) hb); have GE535 := GW535; clear hb hbox hg) | ((with_reducible refine gate_dst (N := 3) rfl ?_); refine bx_ 3 #[.slice A1_0 l1_0.length c1_0, .int .i64 a1_1] 27 ?_; intro gb536 hg w27 hbox hb; have BK536 := ak_ (hbox); have GW536 := ak_ ((by rw [hg]; exact (bz_ bl_) : w.heap.size ≤ gb536)); replace HB := ak_ (bs_ bl_ hb); have GE536 := GW536; have NB535_536 := ak_ ((by rw [hg]; exact Nat.ne_of_lt (blk_lt (pk BK535.out)) : gb535 ≠ gb536)); replace BK535 := ak_ (blk_below (pk BK535.out) hb); have NB536_535 := ak_ NB535_536.out.symm; clear hb hbox hg; have hnb28 := NB535_536.out; have hnc28 := NB536_535.out; obtain ⟨hcz29_0, hcz29_1, hcz29_2, hfz29_0, hfz29_1, hfz29_2⟩ := c3_ BK535.out) | ((with_reducible refine gate_callee (f := 10) rfl ?_); refine goesL_ (some 14) rfl rfl Try.func10 (by kernel_rfl) rfl #[.agg #[.slice A0_0 l0_0.length c0_0, .int .i64 a0_1, .int .i64 a0_2], .int .i64 1048576] rfl rs_ ?_; (with_reducible refine (laws_szNight.calls _ _ l0_0 a0_1 a0_2 1048576 t537 _ ?side1 ?side2 A3.out).mono ?_); (case side1 => exact cs_ (Kd.C_below HR0_0.out HB.out)); (case side2 => exact HC0_0.out); rintro e w30 ⟨rfl, hb⟩; refine ⟨_, rfl, ?_⟩; replace BK535 := ak_ (blk_below (pk BK535.out) hb); replace BK536 := ak_ (blk_below (pk BK536.out) hb); replace HB := ak_ (bs_ bl_ hb); (try clear hb); (try clear hb2); (try clear hk); (try clear hi); obtain ⟨hcz31_0, hcz31_1, hfz31_0, hfz31_1⟩ := c2_ BK536.out) | ((with_reducible refine gate_callee (f := 11) rfl ?_); refine goesL_ (some 19) rfl rfl Try.func11 (by kernel_rfl) rfl #[.agg #[.slice A1_0 l1_0.length c1_0, .int .i64 a1_1], .int .i64 t537] rfl rs_ ?_; (with_reducible refine (laws_szCamp.calls _ _ l1_0 a1_1 t537 t538 _ ?side1 ?side2 A10.out).mono ?_); (case side1 => exact cs_ (Kd.C_below HR1_0.out HB.out)); (case side2 => exact HC1_0.out); rintro e w32 ⟨rfl, hb⟩; refine ⟨_, rfl, ?_⟩; replace BK535 := ak_ (blk_below (pk BK535.out) hb); replace BK536 := ak_ (blk_below (pk BK536.out) hb); replace HB := ak_ (bs_ bl_ hb); (try clear hb); (try clear hb2); (try clear hk); (try clear hi)))
   have n0_ := ak_ (k1_ BK535.out)
   have n1_ := ak_ (k1_ BK536.out)
   have n2_ := ak_ (b1_ HB.out)
   clear BK535 BK536 HB
   have BK535 := n0_; have BK536 := n1_; have HB := n2_
   clear n0_ n1_ n2_
   refine start_ (n := 10) (S := fun w' => w'.cell? ⟨gb535, 0, none⟩ = some (.slice A0_0 l0_0.length c0_0) ∧ w'.cell? ⟨gb535, 1, none⟩ = some (.int .i64 a0_1) ∧ w'.cell? ⟨gb535, 2, none⟩ = some (.int .i64 a0_2) ∧ w'.cell? ⟨gb536, 0, none⟩ = some (.slice A1_0 l1_0.length c1_0) ∧ w'.cell? ⟨gb536, 1, none⟩ = some (.int .i64 a1_1)) (ds := []) (mb_ 10 0) (by kernel_rfl) rfl rfl ⟨(blk_cell BK535.out 0).trans rfl, (blk_cell BK535.out 1).trans rfl, (blk_cell BK535.out 2).trans rfl, (blk_cell BK536.out 0).trans rfl, (blk_cell BK536.out 1).trans rfl⟩ (fun hHeld => ?_); refine with_tabW laws_FnExactTimeFromCamp.tab8 laws_FnExactTimeFromCamp.bits8 (fun HT_ HW_ => ?_)
   generalize w32.drew = w33 at BK535 BK536 HB hHeld ⊢
   refine tk_ 0 23 10 1 ?_ (hy := by rintro w' ⟨s0, s1, s2, s3, s4⟩; go_simp; with_reducible rfl)
   refine tk_ 2 25 10 5 ?_ (hy := by rintro w' ⟨s0, s1, s2, s3, s4⟩; go_simp; with_reducible rfl)
   refine on_ 1 24 10 7 (fun K hK => ?_)
   refine goes_ Try.func13 (by kernel_rfl) rfl #[.agg #[.slice A0_0 l0_0.length c0_0, .int .i64 a0_1, .int .i64 a0_2]] (by rfl) rfl rfl rs_ ?_
   with_reducible refine (laws_toNight.calls k _ _ l0_0 a0_1 a0_2 t539 t542 t543 _ ?side1 ?side2 A19.out).mono ?_
   (case side1 => exact cs_ (Kd.C_below HR0_0.out HB.out))
   (case side2 => exact HC0_0.out)
   rintro e w34 ⟨v540, rfl, ho0, hb⟩
   refine ⟨_, rfl, ?_⟩
   have n0_ := ak_ (Kd.R_lower ho0 (bz_ bl_))
   have n1_ := ak_ (blk_below (pk BK535.out) hb)
   have n2_ := ak_ (blk_below (pk BK536.out) hb)
   have n3_ := ak_ (bs_ bl_ hb)
   clear BK535 BK536 HB
   have HO541 := n0_; have BK535 := n1_; have BK536 := n2_; have HB := n3_
   clear n0_ n1_ n2_ n3_
   (try clear hb)
   (try clear hb2)
   (try clear hk)
   (try clear hi)
   (try clear ho0)
   refine hK.out _ _ ⟨(blk_cell BK535.out 0).trans rfl, (blk_cell BK535.out 1).trans rfl, (blk_cell BK535.out 2).trans rfl, (blk_cell BK536.out 0).trans rfl, (blk_cell BK536.out 1).trans rfl⟩ (fun hHeld => ?_)
   clear hK K
   refine nm_ ?_
   refine on_ 3 26 10 15 (fun K hK => ?_)
   refine goes_ Try.func14 (by kernel_rfl) rfl #[.agg #[.slice A1_0 l1_0.length c1_0, .int .i64 a1_1]] (by rfl) rfl rfl rs_ ?_
   with_reducible refine (laws_toCamp.calls k _ _ l1_0 a1_1 t544 t547 _ ?side1 ?side2 A20.out).mono ?_
   (case side1 => exact cs_ (Kd.C_below HR1_0.out HB.out))
   (case side2 => exact HC1_0.out)
   rintro e w35 ⟨v545, rfl, ho0, hb⟩
   refine ⟨_, rfl, ?_⟩
   have n0_ := ak_ (Kd.R_below (Kd.pR HO541.out) hb)
   have n1_ := ak_ (Kd.R_lower ho0 (bz_ bl_))
   have n2_ := ak_ (blk_below (pk BK535.out) hb)
   have n3_ := ak_ (blk_below (pk BK536.out) hb)
   have n4_ := ak_ (bs_ bl_ hb)
   clear HO541 BK535 BK536 HB
   have HO541 := n0_; have HO546 := n1_; have BK535 := n2_; have BK536 := n3_; have HB := n4_
   clear n0_ n1_ n2_ n3_ n4_
   (try clear hb)
   (try clear hb2)
   (try clear hk)
   (try clear hi)
   (try clear ho0)
   obtain ⟨Ao36, co36, eo36⟩ := Kd.R_slice HO541.out
   (first | subst eo36 | (injection eo36 with f1_ f2_ f3_; have f4_ := f1_.symm; have f5_ := f3_.symm; clear f1_ f2_ f3_; subst f4_; subst f5_))
   obtain ⟨Ao37, co37, eo37⟩ := Kd.R_slice HO546.out
   (first | subst eo37 | (injection eo37 with f1_ f2_ f3_; have f4_ := f1_.symm; have f5_ := f3_.symm; clear f1_ f2_ f3_; subst f4_; subst f5_))
   refine hK.out _ _ ⟨(blk_cell BK535.out 0).trans rfl, (blk_cell BK535.out 1).trans rfl, (blk_cell BK535.out 2).trans rfl, (blk_cell BK536.out 0).trans rfl, (blk_cell BK536.out 1).trans rfl⟩ (fun hHeld => ?_)
   clear hK K
   refine nm_ ?_
   refine on_ 4 27 10 31 (fun K hK => ?_)
   refine goes_ Try.func31 (by kernel_rfl) rfl #[.agg #[.slice Ao36 t539.length co36, .int .i64 t542, .int .i64 t543], .agg #[.slice Ao37 t544.length co37, .int .i64 t547]] (by rfl) rfl rfl rs_ ?_
   with_reducible refine (spec_TimeFromCamp.calls k _ _ t539 t542 t543 _ _ t544 t547 t548 t549 _ ?side1 ?side2 ?side3 ?side4 A21.out).mono ?_
   (case side1 => exact cs_ ((Kd.R_reads' HO541.out).2.2))
   (case side2 => exact (Kd.R_reads' HO541.out).2.1)
   (case side3 => exact cs_ ((Kd.R_reads' HO546.out).2.2))
   (case side4 => exact (Kd.R_reads' HO546.out).2.1)
   rintro e w38 ⟨rfl, hb⟩
   refine ⟨_, rfl, ?_⟩
   have n0_ := ak_ (Kd.R_below (Kd.pR HO541.out) hb)
   have n1_ := ak_ (Kd.R_below (Kd.pR HO546.out) hb)
   have n2_ := ak_ (blk_below (pk BK535.out) hb)
   have n3_ := ak_ (blk_below (pk BK536.out) hb)
   have n4_ := ak_ (bs_ bl_ hb)
   clear HO541 HO546 BK535 BK536 HB
   have HO541 := n0_; have HO546 := n1_; have BK535 := n2_; have BK536 := n3_; have HB := n4_
   clear n0_ n1_ n2_ n3_ n4_
   (try clear hb)
   (try clear hb2)
   (try clear hk)
   (try clear hi)
   refine hK.out _ _ ⟨(blk_cell BK535.out 0).trans rfl, (blk_cell BK535.out 1).trans rfl, (blk_cell BK535.out 2).trans rfl, (blk_cell BK536.out 0).trans rfl, (blk_cell BK536.out 1).trans rfl⟩ (fun hHeld => ?_)
   clear hK K
   refine nm_ ?_
   refine pu_ 5 22 10 63 ?_
   refine pu_ 6 28 10 127 ?_
   refine pu_ 7 29 10 255 ?_
   refine pu_ 8 6 10 511 ?_
   refine pu_ 9 7 10 1023 ?_
   refine done_ (done_of HT_.out (by kernel_rfl)) ?_
   obtain ⟨hcz39_0, hcz39_1, hcz39_2, hfz39_0, hfz39_1, hfz39_2⟩ := c3_ BK535.out
   go_upto_region 12 with (first | ((with_reducible refine gate_callee (f := 13) rfl ?_); refine goesL_ (some 31) rfl rfl Try.func13 (by kernel_rfl) rfl #[.agg #[.slice A0_0 l0_0.length c0_0, .int .i64 a0_1, .int .i64 a0_2]] rfl rs_ ?_; (with_reducible refine (laws_toNight.calls k _ _ l0_0 a0_1 a0_2 t550 t553 t554 _ ?side1 ?side2 A22.out).mono ?_); (case side1 => exact cs_ (Kd.C_below HR0_0.out HB.out)); (case side2 => exact HC0_0.out); rintro e w40 ⟨v551, rfl, ho0, hb⟩; refine ⟨_, rfl, ?_⟩; replace HO546 := ak_ (Kd.R_below (Kd.pR HO546.out) hb); have HO552 := ak_ (Kd.R_lower (Kd.R_new' ho0 (Kd.R_lt (Kd.pR HO541.out))) (bz_ bl_)); replace HO541 := ak_ (Kd.R_elder' (Kd.pR HO541.out) (Kd.R_base ho0) hb); replace BK535 := ak_ (blk_below (pk BK535.out) hb); replace BK536 := ak_ (blk_below (pk BK536.out) hb); replace HB := ak_ (bs_ bl_ hb); (try clear hb); (try clear hb2); (try clear hk); (try clear hi); (try clear ho0)) | ((with_reducible refine gate_dst (N := 8) rfl ?_); refine bx_ 8 #[.slice none 0 0, .int .i64 0, .int .i64 0] 33 ?_; intro gb555 hg w41 hbox hb; replace HO541 := ak_ (Kd.R_below (Kd.pR HO541.out) hb); replace HO546 := ak_ (Kd.R_below (Kd.pR HO546.out) hb); replace HO552 := ak_ (Kd.R_below (Kd.pR HO552.out) hb); have BK555 := ak_ (hbox); have GW555 := ak_ ((by rw [hg]; exact (bz_ bl_) : w.heap.size ≤ gb555)); replace HB := ak_ (bs_ bl_ hb); have GE555 := GW555; have NB535_555 := ak_ ((by rw [hg]; exact Nat.ne_of_lt (blk_lt (pk BK535.out)) : gb535 ≠ gb555)); replace BK535 := ak_ (blk_below (pk BK535.out) hb); have NB555_535 := ak_ NB535_555.out.symm; have NB536_555 := ak_ ((by rw [hg]; exact Nat.ne_of_lt (blk_lt (pk BK536.out)) : gb536 ≠ gb555)); replace BK536 := ak_ (blk_below (pk BK536.out) hb); have NB555_536 := ak_ NB536_555.out.symm; clear hb hbox hg; obtain ⟨Ao42, co42, eo42⟩ := Kd.R_slice HO552.out; subst eo42; have hnb43 := NB555_535.out; have hnc43 := NB535_555.out; have hnb44 := NB555_536.out; have hnc44 := NB536_555.out; obtain ⟨hcz45_0, hcz45_1, hcz45_2, hfz45_0, hfz45_1, hfz45_2⟩ := c3_ BK555.out; obtain ⟨hcz46_0, hcz46_1, hfz46_0, hfz46_1⟩ := c2_ BK536.out) | ((with_reducible refine gate_callee (f := 14) rfl ?_); refine goesL_ (some 33) rfl rfl Try.func14 (by kernel_rfl) rfl #[.agg #[.slice A1_0 l1_0.length c1_0, .int .i64 a1_1]] rfl rs_ ?_; (with_reducible refine (laws_toCamp.calls k _ _ l1_0 a1_1 t556 t559 _ ?side1 ?side2 A23.out).mono ?_); (case side1 => exact Kd.C_below HR1_0.out bl_); (case side2 => exact HC1_0.out); rintro e w47 ⟨v557, rfl, ho0, hb⟩; refine ⟨_, rfl, ?_⟩; replace HO541 := ak_ (Kd.R_below (by (with_reducible repeat (first | apply Kd.R_alloc | apply Kd.R_drewN | apply Kd.R_drew)); exact (Kd.R_mono (Kd.R_far (p := ⟨gb555, 2, none⟩) (Kd.R_far (p := ⟨gb555, 1, none⟩) (Kd.R_far (p := ⟨gb555, 0, none⟩) (Kd.R_types HO541.out BK555.out (by decide)) (fun _ hk => hk.2) (.slice Ao42 t550.length co42)) (fun _ hk => hk.2) (.int .i64 t553)) (fun _ hk => hk.2) (.int .i64 t554)) (fun _ h_ => h_.1))) hb); replace HO552 := ak_ (Kd.R_below (by (with_reducible repeat (first | apply Kd.R_alloc | apply Kd.R_drewN | apply Kd.R_drew)); exact (Kd.R_mono (Kd.R_far (p := ⟨gb555, 2, none⟩) (Kd.R_far (p := ⟨gb555, 1, none⟩) (Kd.R_far (p := ⟨gb555, 0, none⟩) (Kd.R_types HO552.out BK555.out (by decide)) (fun _ hk => hk.2) (.slice Ao42 t550.length co42)) (fun _ hk => hk.2) (.int .i64 t553)) (fun _ hk => hk.2) (.int .i64 t554)) (fun _ h_ => h_.1))) hb); have HO558 := ak_ (Kd.R_lower (Kd.R_new' ho0 (Kd.R_lt (by (with_reducible repeat (first | apply Kd.R_alloc | apply Kd.R_drewN | apply Kd.R_drew)); exact (Kd.R_mono (Kd.R_far (p := ⟨gb555, 2, none⟩) (Kd.R_far (p := ⟨gb555, 1, none⟩) (Kd.R_far (p := ⟨gb555, 0, none⟩) (Kd.R_types HO546.out BK555.out (by decide)) (fun _ hk => hk.2) (.slice Ao42 t550.length co42)) (fun _ hk => hk.2) (.int .i64 t553)) (fun _ hk => hk.2) (.int .i64 t554)) (fun _ h_ => h_.1))))) (bz_ bl_)); replace HO546 := ak_ (Kd.R_elder' (by (with_reducible repeat (first | apply Kd.R_alloc | apply Kd.R_drewN | apply Kd.R_drew)); exact (Kd.R_mono (Kd.R_far (p := ⟨gb555, 2, none⟩) (Kd.R_far (p := ⟨gb555, 1, none⟩) (Kd.R_far (p := ⟨gb555, 0, none⟩) (Kd.R_types HO546.out BK555.out (by decide)) (fun _ hk => hk.2) (.slice Ao42 t550.length co42)) (fun _ hk => hk.2) (.int .i64 t553)) (fun _ hk => hk.2) (.int .i64 t554)) (fun _ h_ => h_.1))) (Kd.R_base ho0) hb); replace BK535 := ak_ (blk_below (g := gb535) (o := .cells #[.slice A0_0 l0_0.length c0_0, .int .i64 a0_1, .int .i64 a0_2] 24 (0, 0)) (by (with_reducible repeat (first | refine kN_ ?_ _ | refine k1_ ?_ | refine ka_ ?_ _)); refine blk_far ?_ NB535_555.out _; (with_reducible repeat (first | refine kN_ ?_ _ | refine k1_ ?_ | refine ka_ ?_ _)); refine blk_far ?_ NB535_555.out _; (with_reducible repeat (first | refine kN_ ?_ _ | refine k1_ ?_ | refine ka_ ?_ _)); refine blk_far ?_ NB535_555.out _; exact pk BK535.out) hb); replace BK536 := ak_ (blk_below (g := gb536) (o := .cells #[.slice A1_0 l1_0.length c1_0, .int .i64 a1_1] 27 (0, 0)) (by (with_reducible repeat (first | refine kN_ ?_ _ | refine k1_ ?_ | refine ka_ ?_ _)); refine blk_far ?_ NB536_555.out _; (with_reducible repeat (first | refine kN_ ?_ _ | refine k1_ ?_ | refine ka_ ?_ _)); refine blk_far ?_ NB536_555.out _; (with_reducible repeat (first | refine kN_ ?_ _ | refine k1_ ?_ | refine ka_ ?_ _)); refine blk_far ?_ NB536_555.out _; exact pk BK536.out) hb); replace BK555 := ak_ (blk_below (g := gb555) (o := .cells #[.slice Ao42 t550.length co42, .int .i64 t553, .int .i64 t554] 33 (0, 0)) (by (with_reducible repeat (first | refine kN_ ?_ _ | refine k1_ ?_ | refine ka_ ?_ _)); refine blk_put (cs := #[.slice Ao42 t550.length co42, .int .i64 t553, .int .i64 0]) ?_ 2 _ rfl; (with_reducible repeat (first | refine kN_ ?_ _ | refine k1_ ?_ | refine ka_ ?_ _)); refine blk_put (cs := #[.slice Ao42 t550.length co42, .int .i64 0, .int .i64 0]) ?_ 1 _ rfl; (with_reducible repeat (first | refine kN_ ?_ _ | refine k1_ ?_ | refine ka_ ?_ _)); refine blk_put (cs := #[.slice none 0 0, .int .i64 0, .int .i64 0]) ?_ 0 _ rfl; exact pk BK555.out) hb); replace HB := ak_ (bs_ bl_ hb); (try clear hb); (try clear hb2); (try clear hk); (try clear hi); (try clear ho0)) | ((with_reducible refine gate_dst (N := 9) rfl ?_); refine bx_ 9 #[.slice none 0 0, .int .i64 0] 35 ?_; intro gb560 hg w48 hbox hb; replace HO541 := ak_ (Kd.R_below (Kd.pR HO541.out) hb); replace HO546 := ak_ (Kd.R_below (Kd.pR HO546.out) hb); replace HO552 := ak_ (Kd.R_below (Kd.pR HO552.out) hb); replace HO558 := ak_ (Kd.R_below (Kd.pR HO558.out) hb); have BK560 := ak_ (hbox); have GW560 := ak_ ((by rw [hg]; exact (bz_ bl_) : w.heap.size ≤ gb560)); replace HB := ak_ (bs_ bl_ hb); have GE560 := GW560; have NB535_560 := ak_ ((by rw [hg]; exact Nat.ne_of_lt (blk_lt (pk BK535.out)) : gb535 ≠ gb560)); replace BK535 := ak_ (blk_below (pk BK535.out) hb); have NB560_535 := ak_ NB535_560.out.symm; have NB536_560 := ak_ ((by rw [hg]; exact Nat.ne_of_lt (blk_lt (pk BK536.out)) : gb536 ≠ gb560)); replace BK536 := ak_ (blk_below (pk BK536.out) hb); have NB560_536 := ak_ NB536_560.out.symm; have NB555_560 := ak_ ((by rw [hg]; exact Nat.ne_of_lt (blk_lt (pk BK555.out)) : gb555 ≠ gb560)); replace BK555 := ak_ (blk_below (pk BK555.out) hb); have NB560_555 := ak_ NB555_560.out.symm; clear hb hbox hg; obtain ⟨Ao49, co49, eo49⟩ := Kd.R_slice HO558.out; subst eo49; have hnb50 := NB560_535.out; have hnc50 := NB535_560.out; have hnb51 := NB560_536.out; have hnc51 := NB536_560.out; have hnb52 := NB560_555.out; have hnc52 := NB555_560.out; obtain ⟨hcz53_0, hcz53_1, hfz53_0, hfz53_1⟩ := c2_ BK560.out; obtain ⟨hcz54_0, hcz54_1, hcz54_2, hfz54_0, hfz54_1, hfz54_2⟩ := c3_ BK555.out) | ((with_reducible refine gate_callee (f := 32) rfl ?_); refine goesL_ (some 37) rfl rfl Try.func32 (by kernel_rfl) rfl #[.agg #[.slice Ao42 t550.length co42, .int .i64 t553, .int .i64 t554], .agg #[.slice Ao49 t556.length co49, .int .i64 t559]] rfl rs_ ?_; (with_reducible refine (impl_TimeFromCamp.calls k _ _ t550 t553 t554 _ _ t556 t559 t561 t562 _ ?side1 ?side2 ?side3 ?side4 A24.out).mono ?_); (case side1 => refine (Kd.R_reads' (e := 3) (base := w.heap.size) (ok := fun k_ => (True ∧ some k_ ≠ (.slice Ao36 t539.length co36 : Value).ownBlock)) (n := t550.length) (c := co42) ?_).2.2; exact (by (with_reducible repeat (first | apply Kd.R_alloc | apply Kd.R_drewN | apply Kd.R_drew)); exact (Kd.R_mono (Kd.R_far (p := ⟨gb560, 1, none⟩) (Kd.R_far (p := ⟨gb560, 0, none⟩) (Kd.R_types HO552.out BK560.out (by decide)) (fun _ hk => hk.2) (.slice Ao49 t556.length co49)) (fun _ hk => hk.2) (.int .i64 t559)) (fun _ h_ => h_.1)))); (case side2 => exact (Kd.R_reads' HO552.out).2.1); (case side3 => refine (Kd.R_reads' (e := 4) (base := w.heap.size) (ok := fun k_ => (True ∧ some k_ ≠ (.slice Ao37 t544.length co37 : Value).ownBlock)) (n := t556.length) (c := co49) ?_).2.2; exact (by (with_reducible repeat (first | apply Kd.R_alloc | apply Kd.R_drewN | apply Kd.R_drew)); exact (Kd.R_mono (Kd.R_far (p := ⟨gb560, 1, none⟩) (Kd.R_far (p := ⟨gb560, 0, none⟩) (Kd.R_types HO558.out BK560.out (by decide)) (fun _ hk => hk.2) (.slice Ao49 t556.length co49)) (fun _ hk => hk.2) (.int .i64 t559)) (fun _ h_ => h_.1)))); (case side4 => exact (Kd.R_reads' HO558.out).2.1); rintro e w55 ⟨rfl, hb⟩; refine ⟨_, rfl, ?_⟩; replace HO541 := ak_ (Kd.R_below (by (with_reducible repeat (first | apply Kd.R_alloc | apply Kd.R_drewN | apply Kd.R_drew)); exact (Kd.R_mono (Kd.R_far (p := ⟨gb560, 1, none⟩) (Kd.R_far (p := ⟨gb560, 0, none⟩) (Kd.R_types HO541.out BK560.out (by decide)) (fun _ hk => hk.2) (.slice Ao49 t556.length co49)) (fun _ hk => hk.2) (.int .i64 t559)) (fun _ h_ => h_.1))) hb); replace HO546 := ak_ (Kd.R_below (by (with_reducible repeat (first | apply Kd.R_alloc | apply Kd.R_drewN | apply Kd.R_drew)); exact (Kd.R_mono (Kd.R_far (p := ⟨gb560, 1, none⟩) (Kd.R_far (p := ⟨gb560, 0, none⟩) (Kd.R_types HO546.out BK560.out (by decide)) (fun _ hk => hk.2) (.slice Ao49 t556.length co49)) (fun _ hk => hk.2) (.int .i64 t559)) (fun _ h_ => h_.1))) hb); replace HO552 := ak_ (Kd.R_below (by (with_reducible repeat (first | apply Kd.R_alloc | apply Kd.R_drewN | apply Kd.R_drew)); exact (Kd.R_mono (Kd.R_far (p := ⟨gb560, 1, none⟩) (Kd.R_far (p := ⟨gb560, 0, none⟩) (Kd.R_types HO552.out BK560.out (by decide)) (fun _ hk => hk.2) (.slice Ao49 t556.length co49)) (fun _ hk => hk.2) (.int .i64 t559)) (fun _ h_ => h_.1))) hb); replace HO558 := ak_ (Kd.R_below (by (with_reducible repeat (first | apply Kd.R_alloc | apply Kd.R_drewN | apply Kd.R_drew)); exact (Kd.R_mono (Kd.R_far (p := ⟨gb560, 1, none⟩) (Kd.R_far (p := ⟨gb560, 0, none⟩) (Kd.R_types HO558.out BK560.out (by decide)) (fun _ hk => hk.2) (.slice Ao49 t556.length co49)) (fun _ hk => hk.2) (.int .i64 t559)) (fun _ h_ => h_.1))) hb); replace BK535 := ak_ (blk_below (g := gb535) (o := .cells #[.slice A0_0 l0_0.length c0_0, .int .i64 a0_1, .int .i64 a0_2] 24 (0, 0)) (by (with_reducible repeat (first | refine kN_ ?_ _ | refine k1_ ?_ | refine ka_ ?_ _)); refine blk_far ?_ NB535_560.out _; (with_reducible repeat (first | refine kN_ ?_ _ | refine k1_ ?_ | refine ka_ ?_ _)); refine blk_far ?_ NB535_560.out _; exact pk BK535.out) hb); replace BK536 := ak_ (blk_below (g := gb536) (o := .cells #[.slice A1_0 l1_0.length c1_0, .int .i64 a1_1] 27 (0, 0)) (by (with_reducible repeat (first | refine kN_ ?_ _ | refine k1_ ?_ | refine ka_ ?_ _)); refine blk_far ?_ NB536_560.out _; (with_reducible repeat (first | refine kN_ ?_ _ | refine k1_ ?_ | refine ka_ ?_ _)); refine blk_far ?_ NB536_560.out _; exact pk BK536.out) hb); replace BK555 := ak_ (blk_below (g := gb555) (o := .cells #[.slice Ao42 t550.length co42, .int .i64 t553, .int .i64 t554] 33 (0, 0)) (by (with_reducible repeat (first | refine kN_ ?_ _ | refine k1_ ?_ | refine ka_ ?_ _)); refine blk_far ?_ NB555_560.out _; (with_reducible repeat (first | refine kN_ ?_ _ | refine k1_ ?_ | refine ka_ ?_ _)); refine blk_far ?_ NB555_560.out _; exact pk BK555.out) hb); replace BK560 := ak_ (blk_below (g := gb560) (o := .cells #[.slice Ao49 t556.length co49, .int .i64 t559] 35 (0, 0)) (by (with_reducible repeat (first | refine kN_ ?_ _ | refine k1_ ?_ | refine ka_ ?_ _)); refine blk_put (cs := #[.slice Ao49 t556.length co49, .int .i64 0]) ?_ 1 _ rfl; (with_reducible repeat (first | refine kN_ ?_ _ | refine k1_ ?_ | refine ka_ ?_ _)); refine blk_put (cs := #[.slice none 0 0, .int .i64 0]) ?_ 0 _ rfl; exact pk BK560.out) hb); replace HB := ak_ (bs_ bl_ hb); (try clear hb); (try clear hb2); (try clear hk); (try clear hi)))
   (try simp only [Act.put, setIfInBounds_toArray, set_cons_zero, set_cons_succ])
   go_cut [47] (fun v47 wc => ∃ (kq : Nat) (x47_24 : Bool), v47 = .bool x47_24 ∧ Aside0 (laws_FnExactTimeFromCamp.j0 kq x47_24 l0_0 a0_1 a0_2 l1_0 a1_1 t550 t553 t554 t556 t559 = some r) ∧ Aside0 (kq ≤ k) ∧ Aside0 (Kd.R (Kd.int .i64) 3 wc w.heap.size (fun _ => True) (.slice Ao42 t550.length co42) t550) ∧ Aside0 (Kd.R Kd.bool 4 wc w.heap.size (fun _ => True) (.slice Ao49 t556.length co49) t556) ∧ Aside0 (wc.heap[gb535]? = some (.cells #[(.slice A0_0 l0_0.length c0_0), .int .i64 a0_1, .int .i64 a0_2] 24 (0, 0))) ∧ Aside0 (wc.heap[gb536]? = some (.cells #[(.slice A1_0 l1_0.length c1_0), .int .i64 a1_1] 27 (0, 0))) ∧ Aside0 (wc.heap[gb555]? = some (.cells #[(.slice Ao42 t550.length co42), .int .i64 t553, .int .i64 t554] 33 (0, 0))) ∧ Aside0 (wc.heap[gb560]? = some (.cells #[(.slice Ao49 t556.length co49), .int .i64 t559] 35 (0, 0))) ∧ Aside0 (Below w.heap.size w wc))
   case first =>
    have H := HC25.out
    clear HC25
    by_cases c56 : t561 = t548
    ·
     rw [if_pos c56] at H
     have c56b0 : (t561 == t548) = true := beq_iff_eq.mpr c56
     have c56b1 : (t561 != t548) = false := bne_eq_false_iff_eq.mpr c56
     clear c56
     (first | rw [c56b0] | (simp only [i64_w, i32_w]; rw [c56b0]) | rw [c56b1] | skip)
     have H' := ak_ H
     clear H
     go_wp2
     go_meet
     case rel => exact ⟨_, ((t562 != t549)), (ry_), H', ⟨by first | omega | exact Nat.le_refl _⟩, ⟨by (with_reducible repeat (first | apply Kd.R_alloc | apply Kd.R_drewN | apply Kd.R_drew)); exact Kd.R_mono HO552.out (fun _ hk => trivial)⟩, ⟨by (with_reducible repeat (first | apply Kd.R_alloc | apply Kd.R_drewN | apply Kd.R_drew)); exact Kd.R_mono HO558.out (fun _ hk => trivial)⟩, ⟨pk BK535.out⟩, ⟨pk BK536.out⟩, ⟨pk BK555.out⟩, ⟨pk BK560.out⟩, ⟨bl_⟩⟩
    ·
     rw [if_neg c56] at H
     have c56b0 : (t561 == t548) = false := beq_eq_false_iff_ne.mpr c56
     have c56b1 : (t561 != t548) = true := bne_iff_ne.mpr c56
     (first | rw [c56b0] | (simp only [i64_w, i32_w]; rw [c56b0]) | rw [c56b1] | skip)
     have H' := ak_ H
     clear H
     go_wp2
     go_meet
     case rel => exact ⟨_, (true), (ry_), H', ⟨by first | omega | exact Nat.le_refl _⟩, ⟨by (with_reducible repeat (first | apply Kd.R_alloc | apply Kd.R_drewN | apply Kd.R_drew)); exact Kd.R_mono HO552.out (fun _ hk => trivial)⟩, ⟨by (with_reducible repeat (first | apply Kd.R_alloc | apply Kd.R_drewN | apply Kd.R_drew)); exact Kd.R_mono HO558.out (fun _ hk => trivial)⟩, ⟨pk BK535.out⟩, ⟨pk BK536.out⟩, ⟨pk BK555.out⟩, ⟨pk BK560.out⟩, ⟨bl_⟩⟩
   case rest =>
    clear HC25
    try clear c1
    try clear c2
    try clear p2
    try clear c3
    try clear c4
    try clear c4b0
    try clear c5
    try clear c7
    try clear c8
    try clear c10
    try clear c11
    try clear c11b0
    try clear c13
    try clear c14
    try clear c28
    try clear c31
    try clear c32
    try clear c43
    try clear c44
    try clear c50
    try clear c51
    try clear c52
    try clear c56
    try clear c56b0
    try clear c56b1
    try clear hcz15_0
    try clear hcz15_1
    try clear hcz15_2
    try clear hcz17_0
    try clear hcz17_1
    try clear hcz29_0
    try clear hcz29_1
    try clear hcz29_2
    try clear hcz31_0
    try clear hcz31_1
    try clear hcz39_0
    try clear hcz39_1
    try clear hcz39_2
    try clear hcz45_0
    try clear hcz45_1
    try clear hcz45_2
    try clear hcz46_0
    try clear hcz46_1
    try clear hcz53_0
    try clear hcz53_1
    try clear hcz54_0
    try clear hcz54_1
    try clear hcz54_2
    try clear hcz8_0
    try clear hcz8_1
    try clear hcz8_2
    try clear hfz15_0
    try clear hfz15_1
    try clear hfz15_2
    try clear hfz17_0
    try clear hfz17_1
    try clear hfz29_0
    try clear hfz29_1
    try clear hfz29_2
    try clear hfz31_0
    try clear hfz31_1
    try clear hfz39_0
    try clear hfz39_1
    try clear hfz39_2
    try clear hfz45_0
    try clear hfz45_1
    try clear hfz45_2
    try clear hfz46_0
    try clear hfz46_1
    try clear hfz53_0
    try clear hfz53_1
    try clear hfz54_0
    try clear hfz54_1
    try clear hfz54_2
    try clear hfz8_0
    try clear hfz8_1
    try clear hfz8_2
    obtain ⟨kq, x47_24, rfl, HA, HJ24, HO_556000, HO_561000, BK535, BK536, BK555, BK560, HB⟩ := hcut
    cases kq with
    | zero => exact absurd HA.out (by simp [laws_FnExactTimeFromCamp.j0])
    | succ kj24 =>
     have H := HA.out
     clear HA
     simp only [laws_FnExactTimeFromCamp.j0] at H
     by_cases c57 : x47_24 = true
     ·
      subst c57
      have H1 : (none) = some r := by rw [if_pos rfl] at H; exact H
      clear H
      have H := H1
      clear H1
      exact absurd H (by simp)
     ·
      replace c57 := Bool.eq_false_iff.mpr c57
      subst c57
      have H1 : ((laws_toNight.f kj24 l0_0 a0_1 a0_2).bind fun bt563 => ((laws_eqNight.f kj24 t550 t553 t554 bt563.1 bt563.2.1 bt563.2.2).bind fun t568 => (if t568 = true then ((laws_toCamp.f kj24 l1_0 a1_1).bind fun bt569 => ((laws_eqCamp.f kj24 t556 t559 bt569.1 bt569.2).bind fun t573 => (if t573 = true then (some true) else (none)))) else (none)))) = some r := by rw [if_neg (show ¬ (false = true) by decide)] at H; exact H
      clear H
      have H := H1
      clear H1
      replace H := Option.bind_eq_some_iff.mp H
      obtain ⟨⟨t563, t566, t567⟩, A580, H⟩ := H
      replace H : ((laws_eqNight.f kj24 t550 t553 t554 t563 t566 t567).bind fun t568 => (if t568 = true then ((laws_toCamp.f kj24 l1_0 a1_1).bind fun bt569 => ((laws_eqCamp.f kj24 t556 t559 bt569.1 bt569.2).bind fun t573 => (if t573 = true then (some true) else (none)))) else (none))) = some r := H
      have A58 := ak_ A580
      clear A580
      replace H := Option.bind_eq_some_iff.mp H
      obtain ⟨t568, A590, H⟩ := H
      replace H : (if t568 = true then ((laws_toCamp.f kj24 l1_0 a1_1).bind fun bt569 => ((laws_eqCamp.f kj24 t556 t559 bt569.1 bt569.2).bind fun t573 => (if t573 = true then (some true) else (none)))) else (none)) = some r := H
      have A59 := ak_ A590
      clear A590
      by_cases c60 : t568 = true
      ·
       subst c60
       have H1 : ((laws_toCamp.f kj24 l1_0 a1_1).bind fun bt569 => ((laws_eqCamp.f kj24 t556 t559 bt569.1 bt569.2).bind fun t573 => (if t573 = true then (some true) else (none)))) = some r := by rw [if_pos rfl] at H; exact H
       clear H
       have H := H1
       clear H1
       replace H := Option.bind_eq_some_iff.mp H
       obtain ⟨⟨t569, t572⟩, A610, H⟩ := H
       replace H : ((laws_eqCamp.f kj24 t556 t559 t569 t572).bind fun t573 => (if t573 = true then (some true) else (none))) = some r := H
       have A61 := ak_ A610
       clear A610
       replace H := Option.bind_eq_some_iff.mp H
       obtain ⟨t573, A620, H⟩ := H
       replace H : (if t573 = true then (some true) else (none)) = some r := H
       have A62 := ak_ A620
       clear A620
       by_cases c63 : t573 = true
       ·
        subst c63
        have H1 : (some true) = some r := by rw [if_pos rfl] at H; exact H
        clear H
        have H := H1
        clear H1
        obtain rfl := Option.some.inj H
        try go_wp2
        have n0_ := ak_ (Kd.R_drew HO_556000.out)
        have n1_ := ak_ (Kd.R_drew HO_561000.out)
        have n2_ := ak_ (k1_ BK535.out)
        have n3_ := ak_ (k1_ BK536.out)
        have n4_ := ak_ (k1_ BK555.out)
        have n5_ := ak_ (k1_ BK560.out)
        have n6_ := ak_ (b1_ HB.out)
        clear HO_556000 HO_561000 BK535 BK536 BK555 BK560 HB
        have HO_556000 := n0_; have HO_561000 := n1_; have BK535 := n2_; have BK536 := n3_; have BK555 := n4_; have BK560 := n5_; have HB := n6_
        clear n0_ n1_ n2_ n3_ n4_ n5_ n6_
        refine start_ (n := 5) (S := fun w' => w'.cell? ⟨gb555, 0, none⟩ = some (.slice Ao42 t550.length co42) ∧ w'.cell? ⟨gb555, 1, none⟩ = some (.int .i64 t553) ∧ w'.cell? ⟨gb555, 2, none⟩ = some (.int .i64 t554) ∧ w'.cell? ⟨gb535, 0, none⟩ = some (.slice A0_0 l0_0.length c0_0) ∧ w'.cell? ⟨gb535, 1, none⟩ = some (.int .i64 a0_1) ∧ w'.cell? ⟨gb535, 2, none⟩ = some (.int .i64 a0_2)) (ds := []) #[false, false, false, false, false] (by kernel_rfl) rfl rfl ⟨(blk_cell BK555.out 0).trans rfl, (blk_cell BK555.out 1).trans rfl, (blk_cell BK555.out 2).trans rfl, (blk_cell BK535.out 0).trans rfl, (blk_cell BK535.out 1).trans rfl, (blk_cell BK535.out 2).trans rfl⟩ (fun hHeld => ?_)
        generalize wc.drew = w64 at HO_556000 HO_561000 BK535 BK536 BK555 BK560 HB hHeld ⊢
        refine take_ (i := 0) (N := some 48) (v := ?_) (a' := ?_) #[true, false, false, false, false] rfl rfl (by kernel_rfl) (fun _ _ _ h => h) (Or.inl ⟨by rfl, ?_⟩) hHeld ?_ ?_
        rotate_left
        ·
         rintro w' ⟨s0, s1, s2, s3, s4, s5⟩
         go_simp
         with_reducible rfl
        rotate_left
        ·
         simp only [Act.put, setIfInBounds_toArray, set_cons_zero, set_cons_succ, i64_w, i32_w]
         rfl
        refine take_ (i := 1) (N := some 49) (v := ?_) (a' := ?_) #[true, true, false, false, false] rfl rfl (by kernel_rfl) (fun _ _ _ h => h) (Or.inl ⟨by rfl, ?_⟩) hHeld ?_ ?_
        rotate_left
        ·
         rintro w' ⟨s0, s1, s2, s3, s4, s5⟩
         go_simp
         with_reducible rfl
        rotate_left
        ·
         simp only [Act.put, setIfInBounds_toArray, set_cons_zero, set_cons_succ, i64_w, i32_w]
         rfl
        refine one_ (i := 2) (N := some 50) #[true, true, true, false, false] rfl rfl (by kernel_rfl) (by decide) (fun K hK => ?_)
        refine goes_ Try.func13 (by kernel_rfl) rfl #[.agg #[.slice A0_0 l0_0.length c0_0, .int .i64 a0_1, .int .i64 a0_2]] (by rfl) rfl rfl rs_ ?_
        with_reducible refine (laws_toNight.calls kj24 _ _ l0_0 a0_1 a0_2 t563 t566 t567 _ ?side1 ?side2 A58.out).mono ?_
        (case side1 => exact cs_ (Kd.C_below HR0_0.out HB.out))
        (case side2 => exact HC0_0.out)
        rintro e w65 ⟨v564, rfl, ho0, hb⟩
        refine ⟨_, rfl, ?_⟩
        have n0_ := ak_ (Kd.R_elder' (Kd.pR HO_556000.out) (Kd.R_base ho0) hb)
        have n1_ := ak_ (Kd.R_below (Kd.pR HO_561000.out) hb)
        have n2_ := ak_ (Kd.R_lower (Kd.R_new' ho0 (Kd.R_lt (Kd.pR HO_556000.out))) (bz_ bl_))
        have n3_ := ak_ (blk_below (pk BK535.out) hb)
        have n4_ := ak_ (blk_below (pk BK536.out) hb)
        have n5_ := ak_ (blk_below (pk BK555.out) hb)
        have n6_ := ak_ (blk_below (pk BK560.out) hb)
        have n7_ := ak_ (bs_ bl_ hb)
        clear HO_556000 HO_561000 BK535 BK536 BK555 BK560 HB
        have HO_556000 := n0_; have HO_561000 := n1_; have HO565 := n2_; have BK535 := n3_; have BK536 := n4_; have BK555 := n5_; have BK560 := n6_; have HB := n7_
        clear n0_ n1_ n2_ n3_ n4_ n5_ n6_ n7_
        (try clear hb)
        (try clear hb2)
        (try clear hk)
        (try clear hi)
        (try clear ho0)
        obtain ⟨Ao66, co66, eo66⟩ := Kd.R_slice HO565.out
        (first | subst eo66 | (injection eo66 with f1_ f2_ f3_; have f4_ := f1_.symm; have f5_ := f3_.symm; clear f1_ f2_ f3_; subst f4_; subst f5_))
        refine hK.out _ _ ⟨(blk_cell BK555.out 0).trans rfl, (blk_cell BK555.out 1).trans rfl, (blk_cell BK555.out 2).trans rfl, (blk_cell BK535.out 0).trans rfl, (blk_cell BK535.out 1).trans rfl, (blk_cell BK535.out 2).trans rfl⟩ (fun hHeld => ?_)
        clear hK K
        refine nm_ ?_
        refine one_ (i := 3) (N := some 51) #[true, true, true, true, false] rfl rfl (by kernel_rfl) (by decide) (fun K hK => ?_)
        refine goes_ Try.func17 (by kernel_rfl) rfl #[.agg #[.slice Ao42 t550.length co42, .int .i64 t553, .int .i64 t554], .agg #[.slice Ao66 t563.length co66, .int .i64 t566, .int .i64 t567]] (by rfl) rfl rfl rs_ ?_
        with_reducible refine (laws_eqNight.calls kj24 _ _ t550 t553 t554 _ _ t563 t566 t567 true _ ?side1 ?side2 ?side3 ?side4 A59.out).mono ?_
        (case side1 => exact cs_ ((Kd.R_reads' HO_556000.out).2.2))
        (case side2 => exact (Kd.R_reads' HO_556000.out).2.1)
        (case side3 => exact cs_ ((Kd.R_reads' HO565.out).2.2))
        (case side4 => exact (Kd.R_reads' HO565.out).2.1)
        rintro e w67 ⟨rfl, hb⟩
        refine ⟨_, rfl, ?_⟩
        have n0_ := ak_ (Kd.R_below (Kd.pR HO_556000.out) hb)
        have n1_ := ak_ (Kd.R_below (Kd.pR HO_561000.out) hb)
        have n2_ := ak_ (Kd.R_below (Kd.pR HO565.out) hb)
        have n3_ := ak_ (blk_below (pk BK535.out) hb)
        have n4_ := ak_ (blk_below (pk BK536.out) hb)
        have n5_ := ak_ (blk_below (pk BK555.out) hb)
        have n6_ := ak_ (blk_below (pk BK560.out) hb)
        have n7_ := ak_ (bs_ bl_ hb)
        clear HO_556000 HO_561000 HO565 BK535 BK536 BK555 BK560 HB
        have HO_556000 := n0_; have HO_561000 := n1_; have HO565 := n2_; have BK535 := n3_; have BK536 := n4_; have BK555 := n5_; have BK560 := n6_; have HB := n7_
        clear n0_ n1_ n2_ n3_ n4_ n5_ n6_ n7_
        (try clear hb)
        (try clear hb2)
        (try clear hk)
        (try clear hi)
        refine hK.out _ _ ⟨(blk_cell BK555.out 0).trans rfl, (blk_cell BK555.out 1).trans rfl, (blk_cell BK555.out 2).trans rfl, (blk_cell BK535.out 0).trans rfl, (blk_cell BK535.out 1).trans rfl, (blk_cell BK535.out 2).trans rfl⟩ (fun hHeld => ?_)
        clear hK K
        refine nm_ ?_
        refine pure_ (i := 4) (N := some 52) (v := ?_) (a' := ?_) #[true, true, true, true, true] rfl rfl (by kernel_rfl) (fun _ _ _ h => h) (Or.inl ⟨by rfl, ?_⟩) ?_ ?_
        rotate_left
        ·
         intro w'
         go_simp
         with_reducible rfl
        rotate_left
        ·
         simp only [Act.put, setIfInBounds_toArray, set_cons_zero, set_cons_succ, i64_w, i32_w]
         rfl
        refine done_ (by kernel_rfl) ?_
        try go_wp2
        have n0_ := ak_ (Kd.R_drew HO_556000.out)
        have n1_ := ak_ (Kd.R_drew HO_561000.out)
        have n2_ := ak_ (Kd.R_drew HO565.out)
        have n3_ := ak_ (k1_ BK535.out)
        have n4_ := ak_ (k1_ BK536.out)
        have n5_ := ak_ (k1_ BK555.out)
        have n6_ := ak_ (k1_ BK560.out)
        have n7_ := ak_ (b1_ HB.out)
        clear HO_556000 HO_561000 HO565 BK535 BK536 BK555 BK560 HB
        have HO_556000 := n0_; have HO_561000 := n1_; have HO565 := n2_; have BK535 := n3_; have BK536 := n4_; have BK555 := n5_; have BK560 := n6_; have HB := n7_
        clear n0_ n1_ n2_ n3_ n4_ n5_ n6_ n7_
        refine start_ (n := 5) (S := fun w' => w'.cell? ⟨gb560, 0, none⟩ = some (.slice Ao49 t556.length co49) ∧ w'.cell? ⟨gb560, 1, none⟩ = some (.int .i64 t559) ∧ w'.cell? ⟨gb536, 0, none⟩ = some (.slice A1_0 l1_0.length c1_0) ∧ w'.cell? ⟨gb536, 1, none⟩ = some (.int .i64 a1_1)) (ds := []) #[false, false, false, false, false] (by kernel_rfl) rfl rfl ⟨(blk_cell BK560.out 0).trans rfl, (blk_cell BK560.out 1).trans rfl, (blk_cell BK536.out 0).trans rfl, (blk_cell BK536.out 1).trans rfl⟩ (fun hHeld => ?_)
        generalize w67.drew = w68 at HO_556000 HO_561000 HO565 BK535 BK536 BK555 BK560 HB hHeld ⊢
        refine take_ (i := 0) (N := some 53) (v := ?_) (a' := ?_) #[true, false, false, false, false] rfl rfl (by kernel_rfl) (fun _ _ _ h => h) (Or.inl ⟨by rfl, ?_⟩) hHeld ?_ ?_
        rotate_left
        ·
         rintro w' ⟨s0, s1, s2, s3⟩
         go_simp
         with_reducible rfl
        rotate_left
        ·
         simp only [Act.put, setIfInBounds_toArray, set_cons_zero, set_cons_succ, i64_w, i32_w]
         rfl
        refine take_ (i := 1) (N := some 54) (v := ?_) (a' := ?_) #[true, true, false, false, false] rfl rfl (by kernel_rfl) (fun _ _ _ h => h) (Or.inl ⟨by rfl, ?_⟩) hHeld ?_ ?_
        rotate_left
        ·
         rintro w' ⟨s0, s1, s2, s3⟩
         go_simp
         with_reducible rfl
        rotate_left
        ·
         simp only [Act.put, setIfInBounds_toArray, set_cons_zero, set_cons_succ, i64_w, i32_w]
         rfl
        refine one_ (i := 2) (N := some 55) #[true, true, true, false, false] rfl rfl (by kernel_rfl) (by decide) (fun K hK => ?_)
        refine goes_ Try.func14 (by kernel_rfl) rfl #[.agg #[.slice A1_0 l1_0.length c1_0, .int .i64 a1_1]] (by rfl) rfl rfl rs_ ?_
        with_reducible refine (laws_toCamp.calls kj24 _ _ l1_0 a1_1 t569 t572 _ ?side1 ?side2 A61.out).mono ?_
        (case side1 => exact cs_ (Kd.C_below HR1_0.out HB.out))
        (case side2 => exact HC1_0.out)
        rintro e w69 ⟨v570, rfl, ho0, hb⟩
        refine ⟨_, rfl, ?_⟩
        have n0_ := ak_ (Kd.R_below (Kd.pR HO_556000.out) hb)
        have n1_ := ak_ (Kd.R_elder' (Kd.pR HO_561000.out) (Kd.R_base ho0) hb)
        have n2_ := ak_ (Kd.R_below (Kd.pR HO565.out) hb)
        have n3_ := ak_ (Kd.R_lower (Kd.R_new' ho0 (Kd.R_lt (Kd.pR HO_561000.out))) (bz_ bl_))
        have n4_ := ak_ (blk_below (pk BK535.out) hb)
        have n5_ := ak_ (blk_below (pk BK536.out) hb)
        have n6_ := ak_ (blk_below (pk BK555.out) hb)
        have n7_ := ak_ (blk_below (pk BK560.out) hb)
        have n8_ := ak_ (bs_ bl_ hb)
        clear HO_556000 HO_561000 HO565 BK535 BK536 BK555 BK560 HB
        have HO_556000 := n0_; have HO_561000 := n1_; have HO565 := n2_; have HO571 := n3_; have BK535 := n4_; have BK536 := n5_; have BK555 := n6_; have BK560 := n7_; have HB := n8_
        clear n0_ n1_ n2_ n3_ n4_ n5_ n6_ n7_ n8_
        (try clear hb)
        (try clear hb2)
        (try clear hk)
        (try clear hi)
        (try clear ho0)
        obtain ⟨Ao70, co70, eo70⟩ := Kd.R_slice HO571.out
        (first | subst eo70 | (injection eo70 with f1_ f2_ f3_; have f4_ := f1_.symm; have f5_ := f3_.symm; clear f1_ f2_ f3_; subst f4_; subst f5_))
        refine hK.out _ _ ⟨(blk_cell BK560.out 0).trans rfl, (blk_cell BK560.out 1).trans rfl, (blk_cell BK536.out 0).trans rfl, (blk_cell BK536.out 1).trans rfl⟩ (fun hHeld => ?_)
        clear hK K
        refine nm_ ?_
        refine one_ (i := 3) (N := some 56) #[true, true, true, true, false] rfl rfl (by kernel_rfl) (by decide) (fun K hK => ?_)
        refine goes_ Try.func18 (by kernel_rfl) rfl #[.agg #[.slice Ao49 t556.length co49, .int .i64 t559], .agg #[.slice Ao70 t569.length co70, .int .i64 t572]] (by rfl) rfl rfl rs_ ?_
        with_reducible refine (laws_eqCamp.calls kj24 _ _ t556 t559 _ _ t569 t572 true _ ?side1 ?side2 ?side3 ?side4 A62.out).mono ?_
        (case side1 => exact cs_ ((Kd.R_reads' HO_561000.out).2.2))
        (case side2 => exact (Kd.R_reads' HO_561000.out).2.1)
        (case side3 => exact cs_ ((Kd.R_reads' HO571.out).2.2))
        (case side4 => exact (Kd.R_reads' HO571.out).2.1)
        rintro e w71 ⟨rfl, hb⟩
        refine ⟨_, rfl, ?_⟩
        have n0_ := ak_ (Kd.R_below (Kd.pR HO_556000.out) hb)
        have n1_ := ak_ (Kd.R_below (Kd.pR HO_561000.out) hb)
        have n2_ := ak_ (Kd.R_below (Kd.pR HO565.out) hb)
        have n3_ := ak_ (Kd.R_below (Kd.pR HO571.out) hb)
        have n4_ := ak_ (blk_below (pk BK535.out) hb)
        have n5_ := ak_ (blk_below (pk BK536.out) hb)
        have n6_ := ak_ (blk_below (pk BK555.out) hb)
        have n7_ := ak_ (blk_below (pk BK560.out) hb)
        have n8_ := ak_ (bs_ bl_ hb)
        clear HO_556000 HO_561000 HO565 HO571 BK535 BK536 BK555 BK560 HB
        have HO_556000 := n0_; have HO_561000 := n1_; have HO565 := n2_; have HO571 := n3_; have BK535 := n4_; have BK536 := n5_; have BK555 := n6_; have BK560 := n7_; have HB := n8_
        clear n0_ n1_ n2_ n3_ n4_ n5_ n6_ n7_ n8_
        (try clear hb)
        (try clear hb2)
        (try clear hk)
        (try clear hi)
        refine hK.out _ _ ⟨(blk_cell BK560.out 0).trans rfl, (blk_cell BK560.out 1).trans rfl, (blk_cell BK536.out 0).trans rfl, (blk_cell BK536.out 1).trans rfl⟩ (fun hHeld => ?_)
        clear hK K
        refine nm_ ?_
        refine pure_ (i := 4) (N := some 57) (v := ?_) (a' := ?_) #[true, true, true, true, true] rfl rfl (by kernel_rfl) (fun _ _ _ h => h) (Or.inl ⟨by rfl, ?_⟩) ?_ ?_
        rotate_left
        ·
         intro w'
         go_simp
         with_reducible rfl
        rotate_left
        ·
         simp only [Act.put, setIfInBounds_toArray, set_cons_zero, set_cons_succ, i64_w, i32_w]
         rfl
        refine done_ (by kernel_rfl) ?_
        try go_wp2
        go_ret
        exact ⟨rx_, bl_⟩
       ·
        replace c63 := Bool.eq_false_iff.mpr c63
        subst c63
        have H1 : (none) = some r := by rw [if_neg (show ¬ (false = true) by decide)] at H; exact H
        clear H
        have H := H1
        clear H1
        exact absurd H (by simp)
      ·
       replace c60 := Bool.eq_false_iff.mpr c60
       subst c60
       have H1 : (none) = some r := by rw [if_neg (show ¬ (false = true) by decide)] at H; exact H
       clear H
       have H := H1
       clear H1
       exact absurd H (by simp)
end Go.Proofs.Ytmdbhpbogbekmaa.QNt
