/- Contracts of functions of the given program, walked. Conditions: those at each theorem. -/
import Derived.Test.YtmdbhpbogbekmaaQNtx0
import Derived.Test.YtmdbhpbogbekmaaQNtx1
import Derived.Test.YtmdbhpbogbekmaaQNtx10
import Derived.Test.YtmdbhpbogbekmaaQNtx18
namespace Go.Proofs.Ytmdbhpbogbekmaa.QNt
open Go.RowKit Go.Proofs.YtmdbhpbogbekmaaW.PrintWords Go.Proofs.YtmdbhpbogbekmaaW.PrintLast Go.Proofs.YtmdbhpbogbekmaaW.PrintMore
open List (setIfInBounds_toArray set_cons_zero set_cons_succ map_toArray map_cons map_nil)
attribute [local go_sem] max2_int min2_int max_two min_two max_three min_three max_four min_four
set_option linter.unusedVariables false
set_option maxHeartbeats 8000000
set_option maxRecDepth 100000
set_option linter.unusedSimpArgs false
attribute [local go_sem] run_store_fn_
def impl_Night_least.f (k : Nat) (ts : List Int) (se tq : Int) (tm : Bool) : Option (Int × Bool) := (impl_IsNight.f ts se tq).bind fun b => if b = true then (impl_Night_costs.f k ts se tq tm).bind fun dist => some (mx (rdOf 0 dist 0) 0, decide (0 ≤ rdOf 0 dist 0)) else some (0, false)
def impl_Night_least.T4 : Bool × List (List Nat × List Nat) := (true, [([], []), ([0], [0]), ([1], [1]), ([2], [2]), ([], []), ([4], [4]), ([5], [5]), ([6], [6]), ([3, 0, 1, 2, 3], [3]), ([7, 8, 0, 1, 2, 3, 4, 5, 6, 7, 8], [7])])
def impl_Night_least.B4 : List Nat := [0, 1, 3, 7, 0, 16, 48, 112, 15, 511]
theorem impl_Night_least.T4_ : rtab .any (opsOf Try.f58 4) = impl_Night_least.T4 := by kernel_rfl
theorem impl_Night_least.B4_ : waitsOk impl_Night_least.T4.2 impl_Night_least.B4 = true := by kernel_rfl
theorem impl_Night_least.calls (k : Nat) (At : Option Addr) (ct : Nat) (ts : List Int) (se tq : Int) (tm : Bool) (r1 : Int) (r2 : Bool) (w : World) (ht : Kd.C (Kd.int .i64) w At ts.length ts) (hct : ts.length ≤ ct) (h : impl_Night_least.f k ts se tq tm = some (r1, r2)) :
  Calls Try.prog 58 #[.agg #[.slice At ts.length ct, .int .i64 se, .int .i64 tq], .bool tm] w fun e w' => e = .returned (.tuple #[.int .i64 r1, .bool r2]) ∧ Below w.heap.size w w' := by
 have hu := Try.underlying33
 have hu2 := Try.underlying67
 unfold impl_Night_least.f at h
 obtain ⟨b1, h1, h⟩ := Option.bind_eq_some_iff.mp h
 have A1 := ak_ fun (W : World) (hb : Below w.heap.size w W) => impl_IsNight.calls At ct ts se tq b1 W (Kd.C_below ht hb) hct h1
 have HB := ak_ (Below.refl w.heap.size w)
 cases b1
 ·rw [if_neg (by simp)] at h
  obtain ⟨rfl, rfl⟩ : (0 : Int) = r1 ∧ false = r2 := by simpa using h
  clear h h1 ht hct
  go_enter Try.func58, Try.ntmps58
  go_upto_region 1 with (first | ((with_reducible refine gate_dst (N := 2) rfl ?_); refine bx_ 2 #[.slice At ts.length ct, .int .i64 se, .int .i64 tq] 33 ?_; intro gb2 hg w2 hbox hb; have nb_ := ak_ (bs_ (bb_ HB.out) hb); have nc_ := ak_ hbox; have nd_ := ak_ ((by rw [hg]; exact (bz_ (bb_ HB.out)) : w.heap.size ≤ gb2)); clear HB hb hbox hg; have HB := nb_; have BK2 := nc_; have GE2 := nd_; clear nb_ nc_ nd_; have hz2_0 := (blk_cell BK2.out 0); have hf2_0 := (blk_frozen BK2.out 0); simp at hz2_0; have hz2_1 := (blk_cell BK2.out 1); have hf2_1 := (blk_frozen BK2.out 1); simp at hz2_1; have hz2_2 := (blk_cell BK2.out 2); have hf2_2 := (blk_frozen BK2.out 2); simp at hz2_2; skip))
  have hq2_0 := blk_cell BK2.out 0
  simp at hq2_0
  have hq2_1 := blk_cell BK2.out 1
  simp at hq2_1
  have hq2_2 := blk_cell BK2.out 2
  simp at hq2_2
  go_wp2_with (go_at_call 54; refine (A1.out _ (bb_ HB.out)).mono ?_; rintro e w7 ⟨rfl, hb⟩; clear hq2_0 hq2_1 hq2_2 A1; replace BK2 := ak_ (blk_below (pk BK2.out) hb); replace HB := ak_ (bs_ (bb_ HB.out) hb); clear hb)
  first | go_ret2 | go_ret
  exact ⟨rfl, (bb_ HB.out)⟩
 ·rw [if_pos rfl] at h
  obtain ⟨dist, h2, h⟩ := Option.bind_eq_some_iff.mp h
  have hd : 0 < dist.length := by
   unfold impl_Night_costs.f at h2
   by_cases hq : 0 ≤ tq ∧ tq < 1000
   ·rw [if_pos hq] at h2
    obtain ⟨d2, -, h2⟩ := Option.bind_eq_some_iff.mp h2
    by_cases h3 : 0 < d2.length
    ·rw [if_pos h3] at h2; rw [← Option.some.inj h2]; exact h3
    ·rw [if_neg h3] at h2; exact absurd h2 (by simp)
   ·rw [if_neg hq] at h2; exact absurd h2 (by simp)
  have A2 := ak_ fun (W : World) (hb : Below w.heap.size w W) => impl_Night_costs.calls k At ct ts se tq tm dist W (Kd.C_below ht hb) hct h2
  have HR := ak_ (show mx (rdOf 0 dist 0) 0 = r1 ∧ decide (0 ≤ rdOf 0 dist 0) = r2 by simpa using h)
  have HD0 := ak_ hd
  have hmx : (if rdOf 0 dist 0 < 0 then (0 : Int) else rdOf 0 dist 0) = r1 := HR.out.1
  have hmx2 : decide (0 ≤ rdOf 0 dist 0) = r2 := HR.out.2
  have hmx3 : decide (rdOf 0 dist 0 ≥ 0) = r2 := HR.out.2
  have hc0 : (0 : Int) < (dist.length : Int) := by omega
  have hcn : (0 < dist.length) = True := eq_true hd
  clear h h1 h2 ht hct hd
  go_enter Try.func58, Try.ntmps58
  go_upto_region 1 with (first | ((with_reducible refine gate_dst (N := 2) rfl ?_); refine bx_ 2 #[.slice At ts.length ct, .int .i64 se, .int .i64 tq] 33 ?_; intro gb2 hg w2 hbox hb; have nb_ := ak_ (bs_ (bb_ HB.out) hb); have nc_ := ak_ hbox; have nd_ := ak_ ((by rw [hg]; exact (bz_ (bb_ HB.out)) : w.heap.size ≤ gb2)); clear HB hb hbox hg; have HB := nb_; have BK2 := nc_; have GE2 := nd_; clear nb_ nc_ nd_; have hz2_0 := (blk_cell BK2.out 0); have hf2_0 := (blk_frozen BK2.out 0); simp at hz2_0; have hz2_1 := (blk_cell BK2.out 1); have hf2_1 := (blk_frozen BK2.out 1); simp at hz2_1; have hz2_2 := (blk_cell BK2.out 2); have hf2_2 := (blk_frozen BK2.out 2); simp at hz2_2; skip))
  have hq2_0 := blk_cell BK2.out 0
  simp at hq2_0
  have hq2_1 := blk_cell BK2.out 1
  simp at hq2_1
  have hq2_2 := blk_cell BK2.out 2
  simp at hq2_2
  go_upto_region 3 with (go_at_call 54; refine (A1.out _ (bb_ HB.out)).mono ?_; rintro e w7 ⟨rfl, hb⟩; clear hq2_0 hq2_1 hq2_2 A1; replace BK2 := ak_ (blk_below (pk BK2.out) hb); replace HB := ak_ (bs_ (bb_ HB.out) hb); clear hb)
  have hq2_0 := blk_cell BK2.out 0
  simp at hq2_0
  have hq2_1 := blk_cell BK2.out 1
  simp at hq2_1
  have hq2_2 := blk_cell BK2.out 2
  simp at hq2_2
  go_upto_region 4 with (first | (go_at_call 59; refine (A2.out _ (bb_ HB.out)).mono ?_; rintro e w5 ⟨fo, cb, gd, cd, rfl, hen, hga, hgo, hdi, hb⟩; have HD := ak_ (Kd.R_lower hdi (bz_ (bb_ HB.out))); clear hdi hen hga hgo hq2_0 hq2_1 hq2_2 A2; replace BK2 := ak_ (blk_below (pk BK2.out) hb); replace HB := ak_ (bs_ (bb_ HB.out) hb); clear hb) | ((with_reducible refine gate_dst (N := 6) rfl ?_); refine bx_ 6 #[.int .i64 0, .nilFunc] 67 ?_; intro gb6 hg w6 hbox hb; have n0_ := ak_ (blk_below (pk BK2.out) hb); have m0_ := ak_ ((by rw [hg]; exact Nat.ne_of_lt (blk_lt (pk BK2.out)) : gb2 ≠ gb6)); have nb_ := ak_ (bs_ (bb_ HB.out) hb); have nc_ := ak_ hbox; have nd_ := ak_ ((by rw [hg]; exact (bz_ (bb_ HB.out)) : w.heap.size ≤ gb6)); have nr_ := ak_ (Kd.R_below (Kd.pR HD.out) hb); clear HB hb hbox hg HD; have HD := nr_; clear nr_; clear BK2; have BK2 := n0_; have NE2_6 := m0_; have HB := nb_; have BK6 := nc_; have GE6 := nd_; clear nb_ nc_ nd_ n0_ m0_; have hz6_0 := (blk_cell BK6.out 0); have hf6_0 := (blk_frozen BK6.out 0); simp at hz6_0; have hz6_1 := (blk_cell BK6.out 1); have hf6_1 := (blk_frozen BK6.out 1); simp at hz6_1; skip))
  have HB1 := ak_ (below_set (v := (.func (.func fo) #[] cb)) (j := 1) (below_set (v := (.int .i64 (ngN tq ts.length))) (j := 0) HB.out GE6.out) GE6.out)
  have D1 := ak_ (Kd.R_set (Kd.R_set HD.out BK6.out (by decide) 0 (.int .i64 (ngN tq ts.length))) (blk_put (cs' := #[.int .i64 (ngN tq ts.length), .nilFunc]) BK6.out 0 (.int .i64 (ngN tq ts.length)) rfl) (by decide) 1 (.func (.func fo) #[] cb))
  generalize (w6.setCell ⟨gb6, 0, none⟩ (.int .i64 (ngN tq ts.length))).setCell ⟨gb6, 1, none⟩ (.func (.func fo) #[] cb) = w8 at D1 HB1 ⊢
  clear BK6 HB HD hz6_0 hz6_1 hf6_0 hf6_1
  have HB := HB1; have HD := D1; clear HB1 D1
  replace HB := ak_ (b1_ HB.out); replace HD := ak_ (Kd.R_drew HD.out)
  have hx0_ := ((Kd.R_celln 0 HD.out 0 (by omega) (by omega)).1 : w8.drew.cell? ⟨gd, 0, none⟩ = some (.int .i64 (rdOf 0 dist 0)))
  have HX := ak_ hx0_
  clear hx0_
  refine start_ (n := 10) (S := fun w' => w'.cell? ⟨gd, 0, none⟩ = some (.int .i64 (rdOf 0 dist 0))) (ds := []) (mb_ 10 0) (by kernel_rfl) rfl rfl HX.out (fun hHeld => ?_); refine with_tabW impl_Night_least.T4_ impl_Night_least.B4_ (fun HT_ HW_ => ?_)
  generalize w8.drew = w9 at HB HD HX hHeld ⊢
  refine pu_ 0 17 10 1 ?_
  refine pu_ 1 18 10 3 ?_
  refine tk_ 2 19 10 7 ?_ (hy := by rintro w' s0; go_simp; with_reducible rfl)
  refine pu_ 3 20 10 15 ?_
  refine pu_ 4 21 10 31 ?_
  refine pu_ 5 22 10 63 ?_
  refine tk_ 6 23 10 127 ?_ (hy := by rintro w' s0; go_simp; with_reducible rfl)
  refine pu_ 7 24 10 255 ?_
  refine pu_ 8 4 10 511 ?_
  refine pu_ 9 5 10 1023 ?_
  refine done_ (done_of HT_.out (by kernel_rfl)) ?_
  try go_wp2
  first | go_ret2 | go_ret
  exact ⟨rfl, (bb_ HB.out)⟩
def impl_TorchGain.f (k : Nat) (l0_0 : List Int) (a0_1 : Int) (a0_2 : Int) : Option (Int × Bool) := (impl_IsNight.f l0_0 a0_1 a0_2).bind fun t509 => (if t509 = true then ((impl_Night_least.f k l0_0 a0_1 1 true).bind fun bt510 => ((impl_Night_least.f k l0_0 a0_1 2 true).bind fun bt512 => (if bt510.2 = true then (if bt512.2 = true then (some (wrap64 (bt510.1 - bt512.1), true)) else (some (0, false))) else (some (0, false))))) else (some (0, false)))
theorem impl_TorchGain.calls (k : Nat) (A0_0 : Option Addr) (c0_0 : Nat) (l0_0 : List Int) (a0_1 : Int) (a0_2 : Int) (r1 : Int) (r2 : Bool) (w : World) (hr0_0 : Kd.C (Kd.int .i64) w A0_0 l0_0.length l0_0) (hc0_0 : l0_0.length ≤ c0_0) (h : impl_TorchGain.f k l0_0 a0_1 a0_2 = some (r1, r2)) :
  Calls Try.prog 30 #[.agg #[.slice A0_0 l0_0.length c0_0, .int .i64 a0_1, .int .i64 a0_2]] w fun e w' => e = .returned (.tuple #[.int .i64 r1, .bool r2]) ∧ Below w.heap.size w w' := by
 have hu33 := Try.underlying33
 have HR0_0 := ak_ hr0_0
 have HC0_0 := ak_ hc0_0
 clear hr0_0 hc0_0
 have HB := ak_ (Below.refl w.heap.size w)
 have H : ((impl_IsNight.f l0_0 a0_1 a0_2).bind fun t509 => (if t509 = true then ((impl_Night_least.f k l0_0 a0_1 1 true).bind fun bt510 => ((impl_Night_least.f k l0_0 a0_1 2 true).bind fun bt512 => (if bt510.2 = true then (if bt512.2 = true then (some (wrap64 (bt510.1 - bt512.1), true)) else (some (0, false))) else (some (0, false))))) else (some (0, false)))) = some (r1, r2) := h
 clear h
 replace H := Option.bind_eq_some_iff.mp H
 obtain ⟨t509, A20, H⟩ := H
 replace H : (if t509 = true then ((impl_Night_least.f k l0_0 a0_1 1 true).bind fun bt510 => ((impl_Night_least.f k l0_0 a0_1 2 true).bind fun bt512 => (if bt510.2 = true then (if bt512.2 = true then (some (wrap64 (bt510.1 - bt512.1), true)) else (some (0, false))) else (some (0, false))))) else (some (0, false))) = some (r1, r2) := H
 have A2 := ak_ A20
 clear A20
 by_cases c3 : t509 = true
 ·
  subst c3
  have H1 : ((impl_Night_least.f k l0_0 a0_1 1 true).bind fun bt510 => ((impl_Night_least.f k l0_0 a0_1 2 true).bind fun bt512 => (if bt510.2 = true then (if bt512.2 = true then (some (wrap64 (bt510.1 - bt512.1), true)) else (some (0, false))) else (some (0, false))))) = some (r1, r2) := by rw [if_pos rfl] at H; exact H
  clear H
  have H := H1
  clear H1
  replace H := Option.bind_eq_some_iff.mp H
  obtain ⟨⟨t510, t511⟩, A40, H⟩ := H
  replace H : ((impl_Night_least.f k l0_0 a0_1 2 true).bind fun bt512 => (if t511 = true then (if bt512.2 = true then (some (wrap64 (t510 - bt512.1), true)) else (some (0, false))) else (some (0, false)))) = some (r1, r2) := H
  have A4 := ak_ A40
  clear A40
  replace H := Option.bind_eq_some_iff.mp H
  obtain ⟨⟨t512, t513⟩, A50, H⟩ := H
  replace H : (if t511 = true then (if t513 = true then (some (wrap64 (t510 - t512), true)) else (some (0, false))) else (some (0, false))) = some (r1, r2) := H
  have A5 := ak_ A50
  clear A50
  by_cases c6 : t511 = true
  ·
   subst c6
   have H1 : (if t513 = true then (some (wrap64 (t510 - t512), true)) else (some (0, false))) = some (r1, r2) := by rw [if_pos rfl] at H; exact H
   clear H
   have H := H1
   clear H1
   by_cases c7 : t513 = true
   ·
    subst c7
    have H1 : (some (wrap64 (t510 - t512), true)) = some (r1, r2) := by rw [if_pos rfl] at H; exact H
    clear H
    have H := H1
    clear H1
    simp only [Option.some.injEq, Prod.mk.injEq] at H
    obtain ⟨rfl, rfl⟩ := H
    go_enter Try.func30, Try.ntmps30
    go_wp2_with (first | ((with_reducible refine gate_dst (N := 1) rfl ?_); refine bx_ 1 #[.slice A0_0 l0_0.length c0_0, .int .i64 a0_1, .int .i64 a0_2] 33 ?_; intro gb508 hg w8 hbox hb; have BK508 := ak_ (hbox); have GW508 := ak_ ((by rw [hg]; exact (bz_ (bb_ HB.out)) : w.heap.size ≤ gb508)); replace HB := ak_ (bs_ (bb_ HB.out) hb); have GE508 := GW508; clear hb hbox hg; obtain ⟨hcz9_0, hcz9_1, hcz9_2, hfz9_0, hfz9_1, hfz9_2⟩ := c3_ BK508.out) | ((with_reducible refine gate_callee (f := 54) rfl ?_); refine goesL_ (some 9) rfl rfl Try.func54 (by kernel_rfl) rfl #[.agg #[.slice A0_0 l0_0.length c0_0, .int .i64 a0_1, .int .i64 a0_2]] rfl rs_ ?_; (with_reducible refine (impl_IsNight.calls _ _ l0_0 a0_1 a0_2 true _ ?side1 ?side2 A2.out).mono ?_); (case side1 => exact cs_ (Kd.C_below HR0_0.out HB.out)); (case side2 => exact HC0_0.out); rintro e w10 ⟨rfl, hb⟩; refine ⟨_, rfl, ?_⟩; replace BK508 := ak_ (blk_below (pk BK508.out) hb); replace HB := ak_ (bs_ bl_ hb); (try clear hb); (try clear hb2); (try clear hk); (try clear hi); obtain ⟨hcz11_0, hcz11_1, hcz11_2, hfz11_0, hfz11_1, hfz11_2⟩ := c3_ BK508.out) | ((with_reducible refine gate_callee (f := 58) rfl ?_); refine goesL_ (some 17) rfl rfl Try.func58 (by kernel_rfl) rfl #[.agg #[.slice A0_0 l0_0.length c0_0, .int .i64 a0_1, .int .i64 1], .bool true] rfl rs_ ?_; (with_reducible refine (impl_Night_least.calls k _ _ l0_0 a0_1 1 true t510 true _ ?side1 ?side2 A4.out).mono ?_); (case side1 => exact cs_ (Kd.C_below HR0_0.out HB.out)); (case side2 => exact HC0_0.out); rintro e w12 ⟨rfl, hb⟩; refine ⟨_, rfl, ?_⟩; replace BK508 := ak_ (blk_below (pk BK508.out) hb); replace HB := ak_ (bs_ bl_ hb); (try clear hb); (try clear hb2); (try clear hk); (try clear hi); obtain ⟨hcz13_0, hcz13_1, hcz13_2, hfz13_0, hfz13_1, hfz13_2⟩ := c3_ BK508.out) | ((with_reducible refine gate_callee (f := 58) rfl ?_); refine goesL_ (some 26) rfl rfl Try.func58 (by kernel_rfl) rfl #[.agg #[.slice A0_0 l0_0.length c0_0, .int .i64 a0_1, .int .i64 2], .bool true] rfl rs_ ?_; (with_reducible refine (impl_Night_least.calls k _ _ l0_0 a0_1 2 true t512 true _ ?side1 ?side2 A5.out).mono ?_); (case side1 => exact cs_ (Kd.C_below HR0_0.out HB.out)); (case side2 => exact HC0_0.out); rintro e w14 ⟨rfl, hb⟩; refine ⟨_, rfl, ?_⟩; replace BK508 := ak_ (blk_below (pk BK508.out) hb); replace HB := ak_ (bs_ bl_ hb); (try clear hb); (try clear hb2); (try clear hk); (try clear hi)))
    go_ret2
    exact ⟨rx_, bl_⟩
   ·
    replace c7 := Bool.eq_false_iff.mpr c7
    subst c7
    have H1 : (some (0, false)) = some (r1, r2) := by rw [if_neg (show ¬ (false = true) by decide)] at H; exact H
    clear H
    have H := H1
    clear H1
    simp only [Option.some.injEq, Prod.mk.injEq] at H
    obtain ⟨rfl, rfl⟩ := H
    go_enter Try.func30, Try.ntmps30
    go_wp2_with (first | ((with_reducible refine gate_dst (N := 1) rfl ?_); refine bx_ 1 #[.slice A0_0 l0_0.length c0_0, .int .i64 a0_1, .int .i64 a0_2] 33 ?_; intro gb508 hg w15 hbox hb; have BK508 := ak_ (hbox); have GW508 := ak_ ((by rw [hg]; exact (bz_ (bb_ HB.out)) : w.heap.size ≤ gb508)); replace HB := ak_ (bs_ (bb_ HB.out) hb); have GE508 := GW508; clear hb hbox hg; obtain ⟨hcz16_0, hcz16_1, hcz16_2, hfz16_0, hfz16_1, hfz16_2⟩ := c3_ BK508.out) | ((with_reducible refine gate_callee (f := 54) rfl ?_); refine goesL_ (some 9) rfl rfl Try.func54 (by kernel_rfl) rfl #[.agg #[.slice A0_0 l0_0.length c0_0, .int .i64 a0_1, .int .i64 a0_2]] rfl rs_ ?_; (with_reducible refine (impl_IsNight.calls _ _ l0_0 a0_1 a0_2 true _ ?side1 ?side2 A2.out).mono ?_); (case side1 => exact cs_ (Kd.C_below HR0_0.out HB.out)); (case side2 => exact HC0_0.out); rintro e w17 ⟨rfl, hb⟩; refine ⟨_, rfl, ?_⟩; replace BK508 := ak_ (blk_below (pk BK508.out) hb); replace HB := ak_ (bs_ bl_ hb); (try clear hb); (try clear hb2); (try clear hk); (try clear hi); obtain ⟨hcz18_0, hcz18_1, hcz18_2, hfz18_0, hfz18_1, hfz18_2⟩ := c3_ BK508.out) | ((with_reducible refine gate_callee (f := 58) rfl ?_); refine goesL_ (some 17) rfl rfl Try.func58 (by kernel_rfl) rfl #[.agg #[.slice A0_0 l0_0.length c0_0, .int .i64 a0_1, .int .i64 1], .bool true] rfl rs_ ?_; (with_reducible refine (impl_Night_least.calls k _ _ l0_0 a0_1 1 true t510 true _ ?side1 ?side2 A4.out).mono ?_); (case side1 => exact cs_ (Kd.C_below HR0_0.out HB.out)); (case side2 => exact HC0_0.out); rintro e w19 ⟨rfl, hb⟩; refine ⟨_, rfl, ?_⟩; replace BK508 := ak_ (blk_below (pk BK508.out) hb); replace HB := ak_ (bs_ bl_ hb); (try clear hb); (try clear hb2); (try clear hk); (try clear hi); obtain ⟨hcz20_0, hcz20_1, hcz20_2, hfz20_0, hfz20_1, hfz20_2⟩ := c3_ BK508.out) | ((with_reducible refine gate_callee (f := 58) rfl ?_); refine goesL_ (some 26) rfl rfl Try.func58 (by kernel_rfl) rfl #[.agg #[.slice A0_0 l0_0.length c0_0, .int .i64 a0_1, .int .i64 2], .bool true] rfl rs_ ?_; (with_reducible refine (impl_Night_least.calls k _ _ l0_0 a0_1 2 true t512 false _ ?side1 ?side2 A5.out).mono ?_); (case side1 => exact cs_ (Kd.C_below HR0_0.out HB.out)); (case side2 => exact HC0_0.out); rintro e w21 ⟨rfl, hb⟩; refine ⟨_, rfl, ?_⟩; replace BK508 := ak_ (blk_below (pk BK508.out) hb); replace HB := ak_ (bs_ bl_ hb); (try clear hb); (try clear hb2); (try clear hk); (try clear hi)))
    go_ret2
    exact ⟨rx_, bl_⟩
  ·
   replace c6 := Bool.eq_false_iff.mpr c6
   subst c6
   have H1 : (some (0, false)) = some (r1, r2) := by rw [if_neg (show ¬ (false = true) by decide)] at H; exact H
   clear H
   have H := H1
   clear H1
   simp only [Option.some.injEq, Prod.mk.injEq] at H
   obtain ⟨rfl, rfl⟩ := H
   go_enter Try.func30, Try.ntmps30
   go_wp2_with (first | ((with_reducible refine gate_dst (N := 1) rfl ?_); refine bx_ 1 #[.slice A0_0 l0_0.length c0_0, .int .i64 a0_1, .int .i64 a0_2] 33 ?_; intro gb508 hg w22 hbox hb; have BK508 := ak_ (hbox); have GW508 := ak_ ((by rw [hg]; exact (bz_ (bb_ HB.out)) : w.heap.size ≤ gb508)); replace HB := ak_ (bs_ (bb_ HB.out) hb); have GE508 := GW508; clear hb hbox hg; obtain ⟨hcz23_0, hcz23_1, hcz23_2, hfz23_0, hfz23_1, hfz23_2⟩ := c3_ BK508.out) | ((with_reducible refine gate_callee (f := 54) rfl ?_); refine goesL_ (some 9) rfl rfl Try.func54 (by kernel_rfl) rfl #[.agg #[.slice A0_0 l0_0.length c0_0, .int .i64 a0_1, .int .i64 a0_2]] rfl rs_ ?_; (with_reducible refine (impl_IsNight.calls _ _ l0_0 a0_1 a0_2 true _ ?side1 ?side2 A2.out).mono ?_); (case side1 => exact cs_ (Kd.C_below HR0_0.out HB.out)); (case side2 => exact HC0_0.out); rintro e w24 ⟨rfl, hb⟩; refine ⟨_, rfl, ?_⟩; replace BK508 := ak_ (blk_below (pk BK508.out) hb); replace HB := ak_ (bs_ bl_ hb); (try clear hb); (try clear hb2); (try clear hk); (try clear hi); obtain ⟨hcz25_0, hcz25_1, hcz25_2, hfz25_0, hfz25_1, hfz25_2⟩ := c3_ BK508.out) | ((with_reducible refine gate_callee (f := 58) rfl ?_); refine goesL_ (some 17) rfl rfl Try.func58 (by kernel_rfl) rfl #[.agg #[.slice A0_0 l0_0.length c0_0, .int .i64 a0_1, .int .i64 1], .bool true] rfl rs_ ?_; (with_reducible refine (impl_Night_least.calls k _ _ l0_0 a0_1 1 true t510 false _ ?side1 ?side2 A4.out).mono ?_); (case side1 => exact cs_ (Kd.C_below HR0_0.out HB.out)); (case side2 => exact HC0_0.out); rintro e w26 ⟨rfl, hb⟩; refine ⟨_, rfl, ?_⟩; replace BK508 := ak_ (blk_below (pk BK508.out) hb); replace HB := ak_ (bs_ bl_ hb); (try clear hb); (try clear hb2); (try clear hk); (try clear hi); obtain ⟨hcz27_0, hcz27_1, hcz27_2, hfz27_0, hfz27_1, hfz27_2⟩ := c3_ BK508.out) | ((with_reducible refine gate_callee (f := 58) rfl ?_); refine goesL_ (some 26) rfl rfl Try.func58 (by kernel_rfl) rfl #[.agg #[.slice A0_0 l0_0.length c0_0, .int .i64 a0_1, .int .i64 2], .bool true] rfl rs_ ?_; (with_reducible refine (impl_Night_least.calls k _ _ l0_0 a0_1 2 true t512 t513 _ ?side1 ?side2 A5.out).mono ?_); (case side1 => exact cs_ (Kd.C_below HR0_0.out HB.out)); (case side2 => exact HC0_0.out); rintro e w28 ⟨rfl, hb⟩; refine ⟨_, rfl, ?_⟩; replace BK508 := ak_ (blk_below (pk BK508.out) hb); replace HB := ak_ (bs_ bl_ hb); (try clear hb); (try clear hb2); (try clear hk); (try clear hi)))
   go_ret2
   exact ⟨rx_, bl_⟩
 ·
  replace c3 := Bool.eq_false_iff.mpr c3
  subst c3
  have H1 : (some (0, false)) = some (r1, r2) := by rw [if_neg (show ¬ (false = true) by decide)] at H; exact H
  clear H
  have H := H1
  clear H1
  simp only [Option.some.injEq, Prod.mk.injEq] at H
  obtain ⟨rfl, rfl⟩ := H
  go_enter Try.func30, Try.ntmps30
  go_wp2_with (first | ((with_reducible refine gate_dst (N := 1) rfl ?_); refine bx_ 1 #[.slice A0_0 l0_0.length c0_0, .int .i64 a0_1, .int .i64 a0_2] 33 ?_; intro gb508 hg w29 hbox hb; have BK508 := ak_ (hbox); have GW508 := ak_ ((by rw [hg]; exact (bz_ (bb_ HB.out)) : w.heap.size ≤ gb508)); replace HB := ak_ (bs_ (bb_ HB.out) hb); have GE508 := GW508; clear hb hbox hg; obtain ⟨hcz30_0, hcz30_1, hcz30_2, hfz30_0, hfz30_1, hfz30_2⟩ := c3_ BK508.out) | ((with_reducible refine gate_callee (f := 54) rfl ?_); refine goesL_ (some 9) rfl rfl Try.func54 (by kernel_rfl) rfl #[.agg #[.slice A0_0 l0_0.length c0_0, .int .i64 a0_1, .int .i64 a0_2]] rfl rs_ ?_; (with_reducible refine (impl_IsNight.calls _ _ l0_0 a0_1 a0_2 false _ ?side1 ?side2 A2.out).mono ?_); (case side1 => exact cs_ (Kd.C_below HR0_0.out HB.out)); (case side2 => exact HC0_0.out); rintro e w31 ⟨rfl, hb⟩; refine ⟨_, rfl, ?_⟩; replace BK508 := ak_ (blk_below (pk BK508.out) hb); replace HB := ak_ (bs_ bl_ hb); (try clear hb); (try clear hb2); (try clear hk); (try clear hi)))
  go_ret2
  exact ⟨rx_, bl_⟩
def laws_FnExactTorchGain.j0 : Nat → Bool → List Int → Int → Int → List Int → Int → Int → Option (Bool)
 | 0, _, _, _, _, _, _, _ => none
 | k + 1, x34, x515000, x515001, x515002, x529000, x529001, x529002 => if x34 = true then (none) else ((laws_toNight.f k x515000 x515001 x515002).bind fun bt531 => ((laws_eqNight.f k x529000 x529001 x529002 bt531.1 bt531.2.1 bt531.2.2).bind fun t536 => (if t536 = true then (some true) else (none))))
def laws_FnExactTorchGain.f (k : Nat) (l0_0 : List Int) (a0_1 : Int) (a0_2 : Int) : Option (Bool) := (laws_szNight.f l0_0 a0_1 a0_2 1048576).bind fun t515 => (if t515 < 0 then (some true) else ((laws_toNight.f k l0_0 a0_1 a0_2).bind fun bt516 => ((spec_TorchGain.f k bt516.1 bt516.2.1 bt516.2.2).bind fun bt521 => ((laws_toNight.f k l0_0 a0_1 a0_2).bind fun bt523 => ((impl_TorchGain.f k bt523.1 bt523.2.1 bt523.2.2).bind fun bt529 => (if bt529.1 = bt521.1 then (laws_FnExactTorchGain.j0 k (bt529.2 != bt521.2) l0_0 a0_1 a0_2 bt523.1 bt523.2.1 bt523.2.2) else (laws_FnExactTorchGain.j0 k true l0_0 a0_1 a0_2 bt523.1 bt523.2.1 bt523.2.2)))))))
theorem laws_FnExactTorchGain.calls (k : Nat) (A0_0 : Option Addr) (c0_0 : Nat) (l0_0 : List Int) (a0_1 : Int) (a0_2 : Int) (r : Bool) (w : World) (hr0_0 : Kd.C (Kd.int .i64) w A0_0 l0_0.length l0_0) (hc0_0 : l0_0.length ≤ c0_0) (h : laws_FnExactTorchGain.f k l0_0 a0_1 a0_2 = some r) :
  Calls Try.prog 7 #[.agg #[.slice A0_0 l0_0.length c0_0, .int .i64 a0_1, .int .i64 a0_2]] w fun e w' => e = .returned (.bool r) ∧ Below w.heap.size w w' := by
 have hu24 := Try.underlying24
 have hu33 := Try.underlying33
 have HR0_0 := ak_ hr0_0
 have HC0_0 := ak_ hc0_0
 clear hr0_0 hc0_0
 have HB := ak_ (Below.refl w.heap.size w)
 have H : ((laws_szNight.f l0_0 a0_1 a0_2 1048576).bind fun t515 => (if t515 < 0 then (some true) else ((laws_toNight.f k l0_0 a0_1 a0_2).bind fun bt516 => ((spec_TorchGain.f k bt516.1 bt516.2.1 bt516.2.2).bind fun bt521 => ((laws_toNight.f k l0_0 a0_1 a0_2).bind fun bt523 => ((impl_TorchGain.f k bt523.1 bt523.2.1 bt523.2.2).bind fun bt529 => (if bt529.1 = bt521.1 then (laws_FnExactTorchGain.j0 k (bt529.2 != bt521.2) l0_0 a0_1 a0_2 bt523.1 bt523.2.1 bt523.2.2) else (laws_FnExactTorchGain.j0 k true l0_0 a0_1 a0_2 bt523.1 bt523.2.1 bt523.2.2)))))))) = some r := h
 clear h
 replace H := Option.bind_eq_some_iff.mp H
 obtain ⟨t515, A20, H⟩ := H
 replace H : (if t515 < 0 then (some true) else ((laws_toNight.f k l0_0 a0_1 a0_2).bind fun bt516 => ((spec_TorchGain.f k bt516.1 bt516.2.1 bt516.2.2).bind fun bt521 => ((laws_toNight.f k l0_0 a0_1 a0_2).bind fun bt523 => ((impl_TorchGain.f k bt523.1 bt523.2.1 bt523.2.2).bind fun bt529 => (if bt529.1 = bt521.1 then (laws_FnExactTorchGain.j0 k (bt529.2 != bt521.2) l0_0 a0_1 a0_2 bt523.1 bt523.2.1 bt523.2.2) else (laws_FnExactTorchGain.j0 k true l0_0 a0_1 a0_2 bt523.1 bt523.2.1 bt523.2.2))))))) = some r := H
 have A2 := ak_ A20
 clear A20
 by_cases c3 : t515 < 0
 ·
  rw [if_pos c3] at H
  have c3b0 := decide_eq_true c3
  clear c3
  obtain rfl := Option.some.inj H
  go_enter Try.func7, Try.ntmps7
  go_wp2_with (first | ((with_reducible refine gate_dst (N := 1) rfl ?_); refine bx_ 1 #[.slice A0_0 l0_0.length c0_0, .int .i64 a0_1, .int .i64 a0_2] 24 ?_; intro gb514 hg w4 hbox hb; have BK514 := ak_ (hbox); have GW514 := ak_ ((by rw [hg]; exact (bz_ (bb_ HB.out)) : w.heap.size ≤ gb514)); replace HB := ak_ (bs_ (bb_ HB.out) hb); have GE514 := GW514; clear hb hbox hg; obtain ⟨hcz5_0, hcz5_1, hcz5_2, hfz5_0, hfz5_1, hfz5_2⟩ := c3_ BK514.out) | ((with_reducible refine gate_callee (f := 10) rfl ?_); refine goesL_ (some 11) rfl rfl Try.func10 (by kernel_rfl) rfl #[.agg #[.slice A0_0 l0_0.length c0_0, .int .i64 a0_1, .int .i64 a0_2], .int .i64 1048576] rfl rs_ ?_; (with_reducible refine (laws_szNight.calls _ _ l0_0 a0_1 a0_2 1048576 t515 _ ?side1 ?side2 A2.out).mono ?_); (case side1 => exact cs_ (Kd.C_below HR0_0.out HB.out)); (case side2 => exact HC0_0.out); rintro e w6 ⟨rfl, hb⟩; refine ⟨_, rfl, ?_⟩; replace BK514 := ak_ (blk_below (pk BK514.out) hb); replace HB := ak_ (bs_ bl_ hb); (try clear hb); (try clear hb2); (try clear hk); (try clear hi)))
  go_ret
  exact ⟨rx_, bl_⟩
 ·
  rw [if_neg c3] at H
  have c3b0 := decide_eq_false c3
  clear c3
  replace H := Option.bind_eq_some_iff.mp H
  obtain ⟨⟨t516, t519, t520⟩, A70, H⟩ := H
  replace H : ((spec_TorchGain.f k t516 t519 t520).bind fun bt521 => ((laws_toNight.f k l0_0 a0_1 a0_2).bind fun bt523 => ((impl_TorchGain.f k bt523.1 bt523.2.1 bt523.2.2).bind fun bt529 => (if bt529.1 = bt521.1 then (laws_FnExactTorchGain.j0 k (bt529.2 != bt521.2) l0_0 a0_1 a0_2 bt523.1 bt523.2.1 bt523.2.2) else (laws_FnExactTorchGain.j0 k true l0_0 a0_1 a0_2 bt523.1 bt523.2.1 bt523.2.2))))) = some r := H
  have A7 := ak_ A70
  clear A70
  replace H := Option.bind_eq_some_iff.mp H
  obtain ⟨⟨t521, t522⟩, A80, H⟩ := H
  replace H : ((laws_toNight.f k l0_0 a0_1 a0_2).bind fun bt523 => ((impl_TorchGain.f k bt523.1 bt523.2.1 bt523.2.2).bind fun bt529 => (if bt529.1 = t521 then (laws_FnExactTorchGain.j0 k (bt529.2 != t522) l0_0 a0_1 a0_2 bt523.1 bt523.2.1 bt523.2.2) else (laws_FnExactTorchGain.j0 k true l0_0 a0_1 a0_2 bt523.1 bt523.2.1 bt523.2.2)))) = some r := H
  have A8 := ak_ A80
  clear A80
  replace H := Option.bind_eq_some_iff.mp H
  obtain ⟨⟨t523, t526, t527⟩, A90, H⟩ := H
  replace H : ((impl_TorchGain.f k t523 t526 t527).bind fun bt529 => (if bt529.1 = t521 then (laws_FnExactTorchGain.j0 k (bt529.2 != t522) l0_0 a0_1 a0_2 t523 t526 t527) else (laws_FnExactTorchGain.j0 k true l0_0 a0_1 a0_2 t523 t526 t527))) = some r := H
  have A9 := ak_ A90
  clear A90
  replace H := Option.bind_eq_some_iff.mp H
  obtain ⟨⟨t529, t530⟩, A100, H⟩ := H
  replace H : (if t529 = t521 then (laws_FnExactTorchGain.j0 k (t530 != t522) l0_0 a0_1 a0_2 t523 t526 t527) else (laws_FnExactTorchGain.j0 k true l0_0 a0_1 a0_2 t523 t526 t527)) = some r := H
  have A10 := ak_ A100
  clear A100
  have HC11 := ak_ H
  clear H
  go_enter Try.func7, Try.ntmps7
  go_upto_region 8 with (first | ((with_reducible refine gate_dst (N := 1) rfl ?_); refine bx_ 1 #[.slice A0_0 l0_0.length c0_0, .int .i64 a0_1, .int .i64 a0_2] 24 ?_; intro gb514 hg w12 hbox hb; have BK514 := ak_ (hbox); have GW514 := ak_ ((by rw [hg]; exact (bz_ (bb_ HB.out)) : w.heap.size ≤ gb514)); replace HB := ak_ (bs_ (bb_ HB.out) hb); have GE514 := GW514; clear hb hbox hg; obtain ⟨hcz13_0, hcz13_1, hcz13_2, hfz13_0, hfz13_1, hfz13_2⟩ := c3_ BK514.out) | ((with_reducible refine gate_callee (f := 10) rfl ?_); refine goesL_ (some 11) rfl rfl Try.func10 (by kernel_rfl) rfl #[.agg #[.slice A0_0 l0_0.length c0_0, .int .i64 a0_1, .int .i64 a0_2], .int .i64 1048576] rfl rs_ ?_; (with_reducible refine (laws_szNight.calls _ _ l0_0 a0_1 a0_2 1048576 t515 _ ?side1 ?side2 A2.out).mono ?_); (case side1 => exact cs_ (Kd.C_below HR0_0.out HB.out)); (case side2 => exact HC0_0.out); rintro e w14 ⟨rfl, hb⟩; refine ⟨_, rfl, ?_⟩; replace BK514 := ak_ (blk_below (pk BK514.out) hb); replace HB := ak_ (bs_ bl_ hb); (try clear hb); (try clear hb2); (try clear hk); (try clear hi); obtain ⟨hcz15_0, hcz15_1, hcz15_2, hfz15_0, hfz15_1, hfz15_2⟩ := c3_ BK514.out) | ((with_reducible refine gate_callee (f := 13) rfl ?_); refine goesL_ (some 16) rfl rfl Try.func13 (by kernel_rfl) rfl #[.agg #[.slice A0_0 l0_0.length c0_0, .int .i64 a0_1, .int .i64 a0_2]] rfl rs_ ?_; (with_reducible refine (laws_toNight.calls k _ _ l0_0 a0_1 a0_2 t516 t519 t520 _ ?side1 ?side2 A7.out).mono ?_); (case side1 => exact cs_ (Kd.C_below HR0_0.out HB.out)); (case side2 => exact HC0_0.out); rintro e w16 ⟨v517, rfl, ho0, hb⟩; refine ⟨_, rfl, ?_⟩; have HO518 := ak_ (Kd.R_lower ho0 (bz_ bl_)); replace BK514 := ak_ (blk_below (pk BK514.out) hb); replace HB := ak_ (bs_ bl_ hb); (try clear hb); (try clear hb2); (try clear hk); (try clear hi); (try clear ho0); obtain ⟨Ao17, co17, eo17⟩ := Kd.R_slice HO518.out; subst eo17) | ((with_reducible refine gate_callee (f := 29) rfl ?_); refine goesL_ (some 17) rfl rfl Try.func29 (by kernel_rfl) rfl #[.agg #[.slice Ao17 t516.length co17, .int .i64 t519, .int .i64 t520]] rfl rs_ ?_; (with_reducible refine (spec_TorchGain.calls k _ _ t516 t519 t520 t521 t522 _ ?side1 ?side2 A8.out).mono ?_); (case side1 => exact cs_ ((Kd.R_reads' HO518.out).2.2)); (case side2 => exact (Kd.R_reads' HO518.out).2.1); rintro e w18 ⟨rfl, hb⟩; refine ⟨_, rfl, ?_⟩; replace HO518 := ak_ (Kd.R_below (Kd.pR HO518.out) hb); replace BK514 := ak_ (blk_below (pk BK514.out) hb); replace HB := ak_ (bs_ bl_ hb); (try clear hb); (try clear hb2); (try clear hk); (try clear hi); obtain ⟨hcz19_0, hcz19_1, hcz19_2, hfz19_0, hfz19_1, hfz19_2⟩ := c3_ BK514.out) | ((with_reducible refine gate_callee (f := 13) rfl ?_); refine goesL_ (some 21) rfl rfl Try.func13 (by kernel_rfl) rfl #[.agg #[.slice A0_0 l0_0.length c0_0, .int .i64 a0_1, .int .i64 a0_2]] rfl rs_ ?_; (with_reducible refine (laws_toNight.calls k _ _ l0_0 a0_1 a0_2 t523 t526 t527 _ ?side1 ?side2 A9.out).mono ?_); (case side1 => exact cs_ (Kd.C_below HR0_0.out HB.out)); (case side2 => exact HC0_0.out); rintro e w20 ⟨v524, rfl, ho0, hb⟩; refine ⟨_, rfl, ?_⟩; have HO525 := ak_ (Kd.R_lower (Kd.R_new' ho0 (Kd.R_lt (Kd.pR HO518.out))) (bz_ bl_)); replace HO518 := ak_ (Kd.R_elder' (Kd.pR HO518.out) (Kd.R_base ho0) hb); replace BK514 := ak_ (blk_below (pk BK514.out) hb); replace HB := ak_ (bs_ bl_ hb); (try clear hb); (try clear hb2); (try clear hk); (try clear hi); (try clear ho0)) | ((with_reducible refine gate_dst (N := 6) rfl ?_); refine bx_ 6 #[.slice none 0 0, .int .i64 0, .int .i64 0] 33 ?_; intro gb528 hg w21 hbox hb; replace HO518 := ak_ (Kd.R_below (Kd.pR HO518.out) hb); replace HO525 := ak_ (Kd.R_below (Kd.pR HO525.out) hb); have BK528 := ak_ (hbox); have GW528 := ak_ ((by rw [hg]; exact (bz_ bl_) : w.heap.size ≤ gb528)); replace HB := ak_ (bs_ bl_ hb); have GE528 := GW528; have NB514_528 := ak_ ((by rw [hg]; exact Nat.ne_of_lt (blk_lt (pk BK514.out)) : gb514 ≠ gb528)); replace BK514 := ak_ (blk_below (pk BK514.out) hb); have NB528_514 := ak_ NB514_528.out.symm; clear hb hbox hg; obtain ⟨Ao22, co22, eo22⟩ := Kd.R_slice HO525.out; subst eo22; have hnb23 := NB528_514.out; have hnc23 := NB514_528.out; obtain ⟨hcz24_0, hcz24_1, hcz24_2, hfz24_0, hfz24_1, hfz24_2⟩ := c3_ BK528.out) | ((with_reducible refine gate_callee (f := 30) rfl ?_); refine goesL_ (some 24) rfl rfl Try.func30 (by kernel_rfl) rfl #[.agg #[.slice Ao22 t523.length co22, .int .i64 t526, .int .i64 t527]] rfl rs_ ?_; (with_reducible refine (impl_TorchGain.calls k _ _ t523 t526 t527 t529 t530 _ ?side1 ?side2 A10.out).mono ?_); (case side1 => refine (Kd.R_reads' (e := 3) (base := w.heap.size) (ok := fun k_ => (True ∧ some k_ ≠ (.slice Ao17 t516.length co17 : Value).ownBlock)) (n := t523.length) (c := co22) ?_).2.2; exact (by (with_reducible repeat (first | apply Kd.R_alloc | apply Kd.R_drewN | apply Kd.R_drew)); exact (Kd.R_mono (Kd.R_far (p := ⟨gb528, 2, none⟩) (Kd.R_far (p := ⟨gb528, 1, none⟩) (Kd.R_far (p := ⟨gb528, 0, none⟩) (Kd.R_types HO525.out BK528.out (by decide)) (fun _ hk => hk.2) (.slice Ao22 t523.length co22)) (fun _ hk => hk.2) (.int .i64 t526)) (fun _ hk => hk.2) (.int .i64 t527)) (fun _ h_ => h_.1)))); (case side2 => exact (Kd.R_reads' HO525.out).2.1); rintro e w25 ⟨rfl, hb⟩; refine ⟨_, rfl, ?_⟩; replace HO518 := ak_ (Kd.R_below (by (with_reducible repeat (first | apply Kd.R_alloc | apply Kd.R_drewN | apply Kd.R_drew)); exact (Kd.R_mono (Kd.R_far (p := ⟨gb528, 2, none⟩) (Kd.R_far (p := ⟨gb528, 1, none⟩) (Kd.R_far (p := ⟨gb528, 0, none⟩) (Kd.R_types HO518.out BK528.out (by decide)) (fun _ hk => hk.2) (.slice Ao22 t523.length co22)) (fun _ hk => hk.2) (.int .i64 t526)) (fun _ hk => hk.2) (.int .i64 t527)) (fun _ h_ => h_.1))) hb); replace HO525 := ak_ (Kd.R_below (by (with_reducible repeat (first | apply Kd.R_alloc | apply Kd.R_drewN | apply Kd.R_drew)); exact (Kd.R_mono (Kd.R_far (p := ⟨gb528, 2, none⟩) (Kd.R_far (p := ⟨gb528, 1, none⟩) (Kd.R_far (p := ⟨gb528, 0, none⟩) (Kd.R_types HO525.out BK528.out (by decide)) (fun _ hk => hk.2) (.slice Ao22 t523.length co22)) (fun _ hk => hk.2) (.int .i64 t526)) (fun _ hk => hk.2) (.int .i64 t527)) (fun _ h_ => h_.1))) hb); replace BK514 := ak_ (blk_below (g := gb514) (o := .cells #[.slice A0_0 l0_0.length c0_0, .int .i64 a0_1, .int .i64 a0_2] 24 (0, 0)) (by (with_reducible repeat (first | refine kN_ ?_ _ | refine k1_ ?_ | refine ka_ ?_ _)); refine blk_far ?_ NB514_528.out _; (with_reducible repeat (first | refine kN_ ?_ _ | refine k1_ ?_ | refine ka_ ?_ _)); refine blk_far ?_ NB514_528.out _; (with_reducible repeat (first | refine kN_ ?_ _ | refine k1_ ?_ | refine ka_ ?_ _)); refine blk_far ?_ NB514_528.out _; exact pk BK514.out) hb); replace BK528 := ak_ (blk_below (g := gb528) (o := .cells #[.slice Ao22 t523.length co22, .int .i64 t526, .int .i64 t527] 33 (0, 0)) (by (with_reducible repeat (first | refine kN_ ?_ _ | refine k1_ ?_ | refine ka_ ?_ _)); refine blk_put (cs := #[.slice Ao22 t523.length co22, .int .i64 t526, .int .i64 0]) ?_ 2 _ rfl; (with_reducible repeat (first | refine kN_ ?_ _ | refine k1_ ?_ | refine ka_ ?_ _)); refine blk_put (cs := #[.slice Ao22 t523.length co22, .int .i64 0, .int .i64 0]) ?_ 1 _ rfl; (with_reducible repeat (first | refine kN_ ?_ _ | refine k1_ ?_ | refine ka_ ?_ _)); refine blk_put (cs := #[.slice none 0 0, .int .i64 0, .int .i64 0]) ?_ 0 _ rfl; exact pk BK528.out) hb); replace HB := ak_ (bs_ bl_ hb); (try clear hb); (try clear hb2); (try clear hk); (try clear hi)))
  (try simp only [Act.put, setIfInBounds_toArray, set_cons_zero, set_cons_succ])
  go_cut [34] (fun v34 wc => ∃ (kq : Nat) (x34_10 : Bool), v34 = .bool x34_10 ∧ Aside0 (laws_FnExactTorchGain.j0 kq x34_10 l0_0 a0_1 a0_2 t523 t526 t527 = some r) ∧ Aside0 (kq ≤ k) ∧ Aside0 (Kd.R (Kd.int .i64) 3 wc w.heap.size (fun _ => True) (.slice Ao22 t523.length co22) t523) ∧ Aside0 (wc.heap[gb514]? = some (.cells #[(.slice A0_0 l0_0.length c0_0), .int .i64 a0_1, .int .i64 a0_2] 24 (0, 0))) ∧ Aside0 (wc.heap[gb528]? = some (.cells #[(.slice Ao22 t523.length co22), .int .i64 t526, .int .i64 t527] 33 (0, 0))) ∧ Aside0 (Below w.heap.size w wc))
  case first =>
   have H := HC11.out
   clear HC11
   by_cases c26 : t529 = t521
   ·
    rw [if_pos c26] at H
    have c26b0 : (t529 == t521) = true := beq_iff_eq.mpr c26
    have c26b1 : (t529 != t521) = false := bne_eq_false_iff_eq.mpr c26
    clear c26
    (first | rw [c26b0] | (simp only [i64_w, i32_w]; rw [c26b0]) | rw [c26b1] | skip)
    have H' := ak_ H
    clear H
    go_wp2
    go_meet
    case rel => exact ⟨_, ((t530 != t522)), (ry_), H', ⟨by first | omega | exact Nat.le_refl _⟩, ⟨by (with_reducible repeat (first | apply Kd.R_alloc | apply Kd.R_drewN | apply Kd.R_drew)); exact Kd.R_mono HO525.out (fun _ hk => trivial)⟩, ⟨pk BK514.out⟩, ⟨pk BK528.out⟩, ⟨bl_⟩⟩
   ·
    rw [if_neg c26] at H
    have c26b0 : (t529 == t521) = false := beq_eq_false_iff_ne.mpr c26
    have c26b1 : (t529 != t521) = true := bne_iff_ne.mpr c26
    (first | rw [c26b0] | (simp only [i64_w, i32_w]; rw [c26b0]) | rw [c26b1] | skip)
    have H' := ak_ H
    clear H
    go_wp2
    go_meet
    case rel => exact ⟨_, (true), (ry_), H', ⟨by first | omega | exact Nat.le_refl _⟩, ⟨by (with_reducible repeat (first | apply Kd.R_alloc | apply Kd.R_drewN | apply Kd.R_drew)); exact Kd.R_mono HO525.out (fun _ hk => trivial)⟩, ⟨pk BK514.out⟩, ⟨pk BK528.out⟩, ⟨bl_⟩⟩
  case rest =>
   clear HC11
   try clear c1
   try clear c2
   try clear p2
   try clear c3
   try clear c3b0
   try clear c7
   try clear c10
   try clear c13
   try clear c23
   try clear c26
   try clear c26b0
   try clear c26b1
   try clear hcz13_0
   try clear hcz13_1
   try clear hcz13_2
   try clear hcz15_0
   try clear hcz15_1
   try clear hcz15_2
   try clear hcz19_0
   try clear hcz19_1
   try clear hcz19_2
   try clear hcz24_0
   try clear hcz24_1
   try clear hcz24_2
   try clear hcz5_0
   try clear hcz5_1
   try clear hcz5_2
   try clear hfz13_0
   try clear hfz13_1
   try clear hfz13_2
   try clear hfz15_0
   try clear hfz15_1
   try clear hfz15_2
   try clear hfz19_0
   try clear hfz19_1
   try clear hfz19_2
   try clear hfz24_0
   try clear hfz24_1
   try clear hfz24_2
   try clear hfz5_0
   try clear hfz5_1
   try clear hfz5_2
   obtain ⟨kq, x34_10, rfl, HA, HJ10, HO_529000, BK514, BK528, HB⟩ := hcut
   cases kq with
   | zero => exact absurd HA.out (by simp [laws_FnExactTorchGain.j0])
   | succ kj10 =>
    have H := HA.out
    clear HA
    simp only [laws_FnExactTorchGain.j0] at H
    by_cases c27 : x34_10 = true
    ·
     subst c27
     have H1 : (none) = some r := by rw [if_pos rfl] at H; exact H
     clear H
     have H := H1
     clear H1
     exact absurd H (by simp)
    ·
     replace c27 := Bool.eq_false_iff.mpr c27
     subst c27
     have H1 : ((laws_toNight.f kj10 l0_0 a0_1 a0_2).bind fun bt531 => ((laws_eqNight.f kj10 t523 t526 t527 bt531.1 bt531.2.1 bt531.2.2).bind fun t536 => (if t536 = true then (some true) else (none)))) = some r := by rw [if_neg (show ¬ (false = true) by decide)] at H; exact H
     clear H
     have H := H1
     clear H1
     replace H := Option.bind_eq_some_iff.mp H
     obtain ⟨⟨t531, t534, t535⟩, A280, H⟩ := H
     replace H : ((laws_eqNight.f kj10 t523 t526 t527 t531 t534 t535).bind fun t536 => (if t536 = true then (some true) else (none))) = some r := H
     have A28 := ak_ A280
     clear A280
     replace H := Option.bind_eq_some_iff.mp H
     obtain ⟨t536, A290, H⟩ := H
     replace H : (if t536 = true then (some true) else (none)) = some r := H
     have A29 := ak_ A290
     clear A290
     by_cases c30 : t536 = true
     ·
      subst c30
      have H1 : (some true) = some r := by rw [if_pos rfl] at H; exact H
      clear H
      have H := H1
      clear H1
      obtain rfl := Option.some.inj H
      try go_wp2
      have n0_ := ak_ (Kd.R_drew HO_529000.out)
      have n1_ := ak_ (k1_ BK514.out)
      have n2_ := ak_ (k1_ BK528.out)
      have n3_ := ak_ (b1_ HB.out)
      clear HO_529000 BK514 BK528 HB
      have HO_529000 := n0_; have BK514 := n1_; have BK528 := n2_; have HB := n3_
      clear n0_ n1_ n2_ n3_
      refine start_ (n := 5) (S := fun w' => w'.cell? ⟨gb528, 0, none⟩ = some (.slice Ao22 t523.length co22) ∧ w'.cell? ⟨gb528, 1, none⟩ = some (.int .i64 t526) ∧ w'.cell? ⟨gb528, 2, none⟩ = some (.int .i64 t527) ∧ w'.cell? ⟨gb514, 0, none⟩ = some (.slice A0_0 l0_0.length c0_0) ∧ w'.cell? ⟨gb514, 1, none⟩ = some (.int .i64 a0_1) ∧ w'.cell? ⟨gb514, 2, none⟩ = some (.int .i64 a0_2)) (ds := []) #[false, false, false, false, false] (by kernel_rfl) rfl rfl ⟨(blk_cell BK528.out 0).trans rfl, (blk_cell BK528.out 1).trans rfl, (blk_cell BK528.out 2).trans rfl, (blk_cell BK514.out 0).trans rfl, (blk_cell BK514.out 1).trans rfl, (blk_cell BK514.out 2).trans rfl⟩ (fun hHeld => ?_)
      generalize wc.drew = w31 at HO_529000 BK514 BK528 HB hHeld ⊢
      refine take_ (i := 0) (N := some 35) (v := ?_) (a' := ?_) #[true, false, false, false, false] rfl rfl (by kernel_rfl) (fun _ _ _ h => h) (Or.inl ⟨by rfl, ?_⟩) hHeld ?_ ?_
      rotate_left
      ·
       rintro w' ⟨s0, s1, s2, s3, s4, s5⟩
       go_simp
       with_reducible rfl
      rotate_left
      ·
       simp only [Act.put, setIfInBounds_toArray, set_cons_zero, set_cons_succ, i64_w, i32_w]
       rfl
      refine take_ (i := 1) (N := some 36) (v := ?_) (a' := ?_) #[true, true, false, false, false] rfl rfl (by kernel_rfl) (fun _ _ _ h => h) (Or.inl ⟨by rfl, ?_⟩) hHeld ?_ ?_
      rotate_left
      ·
       rintro w' ⟨s0, s1, s2, s3, s4, s5⟩
       go_simp
       with_reducible rfl
      rotate_left
      ·
       simp only [Act.put, setIfInBounds_toArray, set_cons_zero, set_cons_succ, i64_w, i32_w]
       rfl
      refine one_ (i := 2) (N := some 37) #[true, true, true, false, false] rfl rfl (by kernel_rfl) (by decide) (fun K hK => ?_)
      refine goes_ Try.func13 (by kernel_rfl) rfl #[.agg #[.slice A0_0 l0_0.length c0_0, .int .i64 a0_1, .int .i64 a0_2]] (by rfl) rfl rfl rs_ ?_
      with_reducible refine (laws_toNight.calls kj10 _ _ l0_0 a0_1 a0_2 t531 t534 t535 _ ?side1 ?side2 A28.out).mono ?_
      (case side1 => exact cs_ (Kd.C_below HR0_0.out HB.out))
      (case side2 => exact HC0_0.out)
      rintro e w32 ⟨v532, rfl, ho0, hb⟩
      refine ⟨_, rfl, ?_⟩
      have n0_ := ak_ (Kd.R_elder' (Kd.pR HO_529000.out) (Kd.R_base ho0) hb)
      have n1_ := ak_ (Kd.R_lower (Kd.R_new' ho0 (Kd.R_lt (Kd.pR HO_529000.out))) (bz_ bl_))
      have n2_ := ak_ (blk_below (pk BK514.out) hb)
      have n3_ := ak_ (blk_below (pk BK528.out) hb)
      have n4_ := ak_ (bs_ bl_ hb)
      clear HO_529000 BK514 BK528 HB
      have HO_529000 := n0_; have HO533 := n1_; have BK514 := n2_; have BK528 := n3_; have HB := n4_
      clear n0_ n1_ n2_ n3_ n4_
      (try clear hb)
      (try clear hb2)
      (try clear hk)
      (try clear hi)
      (try clear ho0)
      obtain ⟨Ao33, co33, eo33⟩ := Kd.R_slice HO533.out
      (first | subst eo33 | (injection eo33 with f1_ f2_ f3_; have f4_ := f1_.symm; have f5_ := f3_.symm; clear f1_ f2_ f3_; subst f4_; subst f5_))
      refine hK.out _ _ ⟨(blk_cell BK528.out 0).trans rfl, (blk_cell BK528.out 1).trans rfl, (blk_cell BK528.out 2).trans rfl, (blk_cell BK514.out 0).trans rfl, (blk_cell BK514.out 1).trans rfl, (blk_cell BK514.out 2).trans rfl⟩ (fun hHeld => ?_)
      clear hK K
      refine nm_ ?_
      refine one_ (i := 3) (N := some 38) #[true, true, true, true, false] rfl rfl (by kernel_rfl) (by decide) (fun K hK => ?_)
      refine goes_ Try.func17 (by kernel_rfl) rfl #[.agg #[.slice Ao22 t523.length co22, .int .i64 t526, .int .i64 t527], .agg #[.slice Ao33 t531.length co33, .int .i64 t534, .int .i64 t535]] (by rfl) rfl rfl rs_ ?_
      with_reducible refine (laws_eqNight.calls kj10 _ _ t523 t526 t527 _ _ t531 t534 t535 true _ ?side1 ?side2 ?side3 ?side4 A29.out).mono ?_
      (case side1 => exact cs_ ((Kd.R_reads' HO_529000.out).2.2))
      (case side2 => exact (Kd.R_reads' HO_529000.out).2.1)
      (case side3 => exact cs_ ((Kd.R_reads' HO533.out).2.2))
      (case side4 => exact (Kd.R_reads' HO533.out).2.1)
      rintro e w34 ⟨rfl, hb⟩
      refine ⟨_, rfl, ?_⟩
      have n0_ := ak_ (Kd.R_below (Kd.pR HO_529000.out) hb)
      have n1_ := ak_ (Kd.R_below (Kd.pR HO533.out) hb)
      have n2_ := ak_ (blk_below (pk BK514.out) hb)
      have n3_ := ak_ (blk_below (pk BK528.out) hb)
      have n4_ := ak_ (bs_ bl_ hb)
      clear HO_529000 HO533 BK514 BK528 HB
      have HO_529000 := n0_; have HO533 := n1_; have BK514 := n2_; have BK528 := n3_; have HB := n4_
      clear n0_ n1_ n2_ n3_ n4_
      (try clear hb)
      (try clear hb2)
      (try clear hk)
      (try clear hi)
      refine hK.out _ _ ⟨(blk_cell BK528.out 0).trans rfl, (blk_cell BK528.out 1).trans rfl, (blk_cell BK528.out 2).trans rfl, (blk_cell BK514.out 0).trans rfl, (blk_cell BK514.out 1).trans rfl, (blk_cell BK514.out 2).trans rfl⟩ (fun hHeld => ?_)
      clear hK K
      refine nm_ ?_
      refine pure_ (i := 4) (N := some 39) (v := ?_) (a' := ?_) #[true, true, true, true, true] rfl rfl (by kernel_rfl) (fun _ _ _ h => h) (Or.inl ⟨by rfl, ?_⟩) ?_ ?_
      rotate_left
      ·
       intro w'
       go_simp
       with_reducible rfl
      rotate_left
      ·
       simp only [Act.put, setIfInBounds_toArray, set_cons_zero, set_cons_succ, i64_w, i32_w]
       rfl
      refine done_ (by kernel_rfl) ?_
      try go_wp2
      go_ret
      exact ⟨rx_, bl_⟩
     ·
      replace c30 := Bool.eq_false_iff.mpr c30
      subst c30
      have H1 : (none) = some r := by rw [if_neg (show ¬ (false = true) by decide)] at H; exact H
      clear H
      have H := H1
      clear H1
      exact absurd H (by simp)
end Go.Proofs.Ytmdbhpbogbekmaa.QNt
