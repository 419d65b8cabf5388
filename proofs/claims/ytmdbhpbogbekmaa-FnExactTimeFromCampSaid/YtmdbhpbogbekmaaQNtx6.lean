/- Contracts of functions of the given program, walked. Conditions: those at each theorem. -/
import Derived.Test.YtmdbhpbogbekmaaQNtx0
import Derived.Test.YtmdbhpbogbekmaaQNtx1
import Derived.Test.YtmdbhpbogbekmaaQNtx3
namespace Go.Proofs.Ytmdbhpbogbekmaa.QNt
open Go.RowKit Go.Proofs.YtmdbhpbogbekmaaW.PrintWords Go.Proofs.YtmdbhpbogbekmaaW.PrintLast Go.Proofs.YtmdbhpbogbekmaaW.PrintMore
open List (setIfInBounds_toArray set_cons_zero set_cons_succ map_toArray map_cons map_nil)
attribute [local go_sem] max2_int min2_int max_two min_two max_three min_three max_four min_four
set_option linter.unusedVariables false
set_option maxHeartbeats 8000000
set_option maxRecDepth 100000
set_option linter.unusedSimpArgs false
mutual
def spec_toRounds.l0 : Nat → List Int → Int → Int → List Int → Int → Int → List Bool → Int → Option ((List (List (List Int))))
 | 0, _, _, _, _, _, _, _, _ => none
 | k + 1, x5, x17, x18, x265000, x265001, x265002, x266000, x266001 => if x18 < x17 then (if x5.length < 17592186044416 then (spec_toRounds.l0 k (x5 ++ [x18]) x17 (wrap64 (x18 + 1)) x265000 x265001 x265002 x266000 x266001) else (none)) else ((spec_paGroups.f k x5 ([] : List Int) 0 x265001).bind fun t269 => (spec_toRounds.l1 k t269 ([] : List (List (List Int))) t269 (t269.length : Int) 0 x265000 x265001 x265002 x266000 x266001))
def spec_toRounds.l1 : Nat → List (List Int) → List (List (List Int)) → List (List Int) → Int → Int → List Int → Int → Int → List Bool → Int → Option ((List (List (List Int))))
 | 0, _, _, _, _, _, _, _, _, _, _ => none
 | k + 1, x7, x8, x30, x31, x32, x265000, x265001, x265002, x266000, x266001 => if x32 < x31 then (if 0 ≤ x32 then (if x32 < (x30.length : Int) then ((spec_l1Own.f (rd_L2 x30 x32)).bind fun t273 => ((some (([t273] : List (List Int)) : List (List Int))).bind fun y276 => ((spec_toCan.f k x265000 x265001 x265002 x266000 x266001 y276).bind fun t279 => (if t279 = true then (if x8.length < 5864062014805 then (if 0 ≤ (wrap64 (x32 + 1)) then (if (wrap64 (x32 + 1)) ≤ (x7.length : Int) then ((some (x7.drop ((wrap64 (x32 + 1)) : Int).toNat : List (List Int))).bind fun y283 => (spec_toRounds.l2 k x7 (x8 ++ [y276]) (rd_L2 x30 x32) x30 x31 x32 y283 (y283.length : Int) 0 x265000 x265001 x265002 x266000 x266001)) else (none)) else (none)) else (none)) else (if 0 ≤ (wrap64 (x32 + 1)) then (if (wrap64 (x32 + 1)) ≤ (x7.length : Int) then ((some (x7.drop ((wrap64 (x32 + 1)) : Int).toNat : List (List Int))).bind fun y302 => (spec_toRounds.l2 k x7 x8 (rd_L2 x30 x32) x30 x31 x32 y302 (y302.length : Int) 0 x265000 x265001 x265002 x266000 x266001)) else (none)) else (none)))))) else (none)) else (none)) else (some x8)
def spec_toRounds.l2 : Nat → List (List Int) → List (List (List Int)) → List Int → List (List Int) → Int → Int → List (List Int) → Int → Int → List Int → Int → Int → List Bool → Int → Option ((List (List (List Int))))
 | 0, _, _, _, _, _, _, _, _, _, _, _, _, _, _ => none
 | k + 1, x7, x8, x10, x30, x31, x32, x51, x52, x53, x265000, x265001, x265002, x266000, x266001 => if x53 < x52 then (if 0 ≤ x53 then (if x53 < (x51.length : Int) then ((spec_l1Own.f x10).bind fun t289 => ((spec_l1Own.f (rd_L2 x51 x53)).bind fun t292 => ((some (([t289, t292] : List (List Int)) : List (List Int))).bind fun y295 => ((spec_toCan.f k x265000 x265001 x265002 x266000 x266001 y295).bind fun t298 => (if t298 = true then (if x8.length < 5864062014805 then (spec_toRounds.l2 k x7 (x8 ++ [y295]) x10 x30 x31 x32 x51 x52 (wrap64 (x53 + 1)) x265000 x265001 x265002 x266000 x266001) else (none)) else (spec_toRounds.l2 k x7 x8 x10 x30 x31 x32 x51 x52 (wrap64 (x53 + 1)) x265000 x265001 x265002 x266000 x266001)))))) else (none)) else (none)) else (spec_toRounds.l1 k x7 x8 x30 x31 (wrap64 (x32 + 1)) x265000 x265001 x265002 x266000 x266001)
end
def spec_toRounds.f (k : Nat) (l0_0 : List Int) (a0_1 : Int) (a0_2 : Int) (l1_0 : List Bool) (a1_1 : Int) : Option ((List (List (List Int)))) := spec_toRounds.l0 k ([] : List Int) (l0_0.length : Int) 0 l0_0 a0_1 a0_2 l1_0 a1_1
theorem spec_toRounds.mono_l : ∀ k, (∀ y0 y1 y2 y3 y4 y5 y6 y7, LeO (spec_toRounds.l0 k y0 y1 y2 y3 y4 y5 y6 y7) (spec_toRounds.l0 (k + 1) y0 y1 y2 y3 y4 y5 y6 y7)) ∧ (∀ y0 y1 y2 y3 y4 y5 y6 y7 y8 y9, LeO (spec_toRounds.l1 k y0 y1 y2 y3 y4 y5 y6 y7 y8 y9) (spec_toRounds.l1 (k + 1) y0 y1 y2 y3 y4 y5 y6 y7 y8 y9)) ∧ (∀ y0 y1 y2 y3 y4 y5 y6 y7 y8 y9 y10 y11 y12 y13, LeO (spec_toRounds.l2 k y0 y1 y2 y3 y4 y5 y6 y7 y8 y9 y10 y11 y12 y13) (spec_toRounds.l2 (k + 1) y0 y1 y2 y3 y4 y5 y6 y7 y8 y9 y10 y11 y12 y13))
 | 0 => ⟨fun _ _ _ _ _ _ _ _ r h => by simp [spec_toRounds.l0] at h, fun _ _ _ _ _ _ _ _ _ _ r h => by simp [spec_toRounds.l1] at h, fun _ _ _ _ _ _ _ _ _ _ _ _ _ _ r h => by simp [spec_toRounds.l2] at h⟩
 | k + 1 => by
  obtain ⟨ih0, ih1, ih2⟩ := spec_toRounds.mono_l k
  refine ⟨?_, ?_, ?_⟩
  ·intro y0 y1 y2 y3 y4 y5 y6 y7
   unfold spec_toRounds.l0
   repeat' first
   | (with_reducible first | exact ih0 _ _ _ _ _ _ _ _ | exact ih1 _ _ _ _ _ _ _ _ _ _ | exact ih2 _ _ _ _ _ _ _ _ _ _ _ _ _ _ | exact spec_paGroups.mono _ _ _ _ _ | exact spec_toCan.mono _ _ _ _ _ _ _ | exact LeO.refl _ | exact LeO.none _ | refine LeO.ite ?_ ?_ | refine LeO.bind ?_ (fun _ => ?_))
  ·intro y0 y1 y2 y3 y4 y5 y6 y7 y8 y9
   unfold spec_toRounds.l1
   repeat' first
   | (with_reducible first | exact ih0 _ _ _ _ _ _ _ _ | exact ih1 _ _ _ _ _ _ _ _ _ _ | exact ih2 _ _ _ _ _ _ _ _ _ _ _ _ _ _ | exact spec_paGroups.mono _ _ _ _ _ | exact spec_toCan.mono _ _ _ _ _ _ _ | exact LeO.refl _ | exact LeO.none _ | refine LeO.ite ?_ ?_ | refine LeO.bind ?_ (fun _ => ?_))
  ·intro y0 y1 y2 y3 y4 y5 y6 y7 y8 y9 y10 y11 y12 y13
   unfold spec_toRounds.l2
   repeat' first
   | (with_reducible first | exact ih0 _ _ _ _ _ _ _ _ | exact ih1 _ _ _ _ _ _ _ _ _ _ | exact ih2 _ _ _ _ _ _ _ _ _ _ _ _ _ _ | exact spec_paGroups.mono _ _ _ _ _ | exact spec_toCan.mono _ _ _ _ _ _ _ | exact LeO.refl _ | exact LeO.none _ | refine LeO.ite ?_ ?_ | refine LeO.bind ?_ (fun _ => ?_))
theorem spec_toRounds.mono : ∀ a0 a1 a2 a3 a4 k, LeO (spec_toRounds.f k a0 a1 a2 a3 a4) (spec_toRounds.f (k + 1) a0 a1 a2 a3 a4) := by
 intro a0 a1 a2 a3 a4 k
 obtain ⟨ih0, ih1, ih2⟩ := spec_toRounds.mono_l k
 unfold spec_toRounds.f
 repeat' first
  | (with_reducible first | exact ih0 _ _ _ _ _ _ _ _ | exact ih1 _ _ _ _ _ _ _ _ _ _ | exact ih2 _ _ _ _ _ _ _ _ _ _ _ _ _ _ | exact spec_paGroups.mono _ _ _ _ _ | exact spec_toCan.mono _ _ _ _ _ _ _ | exact LeO.refl _ | exact LeO.none _ | refine LeO.ite ?_ ?_ | refine LeO.bind ?_ (fun _ => ?_))
theorem spec_toRounds.calls (k : Nat) (A0_0 : Option Addr) (c0_0 : Nat) (l0_0 : List Int) (a0_1 : Int) (a0_2 : Int) (A1_0 : Option Addr) (c1_0 : Nat) (l1_0 : List Bool) (a1_1 : Int) (r : List (List (List Int))) (w : World) (hr0_0 : Kd.C (Kd.int .i64) w A0_0 l0_0.length l0_0) (hc0_0 : l0_0.length ≤ c0_0) (hr1_0 : Kd.C Kd.bool w A1_0 l1_0.length l1_0) (hc1_0 : l1_0.length ≤ c1_0) (h : spec_toRounds.f k l0_0 a0_1 a0_2 l1_0 a1_1 = some r) :
  Calls Try.prog 38 #[.agg #[.slice A0_0 l0_0.length c0_0, .int .i64 a0_1, .int .i64 a0_2], .agg #[.slice A1_0 l1_0.length c1_0, .int .i64 a1_1]] w fun e w' => ∃ v0_ : Value, e = .returned (v0_) ∧ Kd.N (Kd.slice 22 (Kd.slice 3 (Kd.int .i64))) 57 w' w.heap.size (fun k_ => (w.heap.size ≤ k_)) v0_ r ∧ Below w.heap.size w w' := by
 have hu33 := Try.underlying33
 have hu35 := Try.underlying35
 have HR0_0 := ak_ hr0_0
 have HC0_0 := ak_ hc0_0
 clear hr0_0 hc0_0
 have HR1_0 := ak_ hr1_0
 have HC1_0 := ak_ hc1_0
 clear hr1_0 hc1_0
 have HB := ak_ (Below.refl w.heap.size w)
 have H : (spec_toRounds.l0 k ([] : List Int) (l0_0.length : Int) 0 l0_0 a0_1 a0_2 l1_0 a1_1) = some r := h
 clear h
 have H' := ak_ H
 clear H
 go_enter Try.func38, Try.ntmps38
 go_wp2_with (first | ((with_reducible refine gate_dst (N := 2) rfl ?_); refine bx_ 2 #[.slice A0_0 l0_0.length c0_0, .int .i64 a0_1, .int .i64 a0_2] 33 ?_; intro gb264 hg w3 hbox hb; have BK264 := ak_ (hbox); have GW264 := ak_ ((by rw [hg]; exact (bz_ (bb_ HB.out)) : w.heap.size ≤ gb264)); replace HB := ak_ (bs_ (bb_ HB.out) hb); have GE264 := GW264; clear hb hbox hg) | ((with_reducible refine gate_dst (N := 3) rfl ?_); refine bx_ 3 #[.slice A1_0 l1_0.length c1_0, .int .i64 a1_1] 35 ?_; intro gb265 hg w4 hbox hb; have BK265 := ak_ (hbox); have GW265 := ak_ ((by rw [hg]; exact (bz_ bl_) : w.heap.size ≤ gb265)); replace HB := ak_ (bs_ bl_ hb); have GE265 := GW265; have NB264_265 := ak_ ((by rw [hg]; exact Nat.ne_of_lt (blk_lt (pk BK264.out)) : gb264 ≠ gb265)); replace BK264 := ak_ (blk_below (pk BK264.out) hb); have NB265_264 := ak_ NB264_265.out.symm; clear hb hbox hg; have hnb5 := NB264_265.out; have hnc5 := NB265_264.out; obtain ⟨hcz6_0, hcz6_1, hcz6_2, hfz6_0, hfz6_1, hfz6_2⟩ := c3_ BK264.out))
 go_loopg [5, 18] k (fun kq v5 v18 w' => ∃ (x5_1 : List Int) (x18_1 : Int), v18 = .int .i64 x18_1 ∧ Aside0 (spec_toRounds.l0 kq x5_1 (l0_0.length : Int) x18_1 l0_0 a0_1 a0_2 l1_0 a1_1 = some r) ∧ Aside0 (kq ≤ k) ∧ Aside0 (Kd.R (Kd.int .i64) 3 w' w.heap.size (fun k_ => (w.heap.size ≤ k_)) v5 x5_1) ∧ Aside0 (w'.heap[gb264]? = some (.cells #[(.slice A0_0 l0_0.length c0_0), .int .i64 a0_1, .int .i64 a0_2] 33 (0, 0))) ∧ Aside0 (w'.heap[gb265]? = some (.cells #[(.slice A1_0 l1_0.length c1_0), .int .i64 a1_1] 35 (0, 0))) ∧ Aside0 (Below w.heap.size w w'))
 case atStart => exact ⟨(([] : List Int)), (0), (ry_), H', ⟨Nat.le_refl _⟩, ⟨by first | exact Kd.R_nil _ _ _ _ _ | exact Kd.N_nil _ _ _ _ _ | exact Kd.V_nil _ _ _ _ _ | exact Kd.Q_nil _ _ _ _ _ | exact Kd.S_nil _ _ _ _ _⟩, ⟨pk BK264.out⟩, ⟨pk BK265.out⟩, ⟨bl_⟩⟩
 case round =>
  clear H'
  try clear c1
  try clear p2
  try clear c3
  try clear c5
  try clear hcz6_0
  try clear hcz6_1
  try clear hcz6_2
  try clear hfz6_0
  try clear hfz6_1
  try clear hfz6_2
  obtain ⟨x5_1, x18_1, rfl, HA, HK1, HO_5, BK264, BK265, HB⟩ := hrel
  cases gk with
  | zero => exact absurd HA.out (by simp [spec_toRounds.l0])
  | succ k1 =>
   have H := HA.out
   clear HA
   simp only [spec_toRounds.l0] at H
   by_cases c7 : x18_1 < (l0_0.length : Int)
   ·
    rw [if_pos c7] at H
    have c7b0 := decide_eq_true c7
    clear c7
    by_cases c8 : x5_1.length < 17592186044416
    ·
     rw [if_pos c8] at H
     have LMc8 := ak_ c8
     clear c8
     obtain ⟨y266, hy266⟩ : ∃ y_ : List Int, y_ = (x5_1 ++ [x18_1]) := ⟨_, rfl⟩
     replace H : (spec_toRounds.l0 k1 y266 (l0_0.length : Int) (wrap64 (x18_1 + 1)) l0_0 a0_1 a0_2 l1_0 a1_1) = some r := by first | (rw [hy266]; exact H) | exact H
     have Ny266 := ak_ hy266
     clear hy266
     have H' := ak_ H
     clear H
     go_wp2_with (first | ((with_reducible refine gate_builtin (b := .append) (xs := #[.tmp 21, .tmp 23]) rfl ?_); at_builtin; refine Kd.R_append (Kd.int .i64) (w0 := w) w.heap.size rfl (.tmp 21) (.tmp 23) 22 3 (.int .i64 0) 8 rfl Try.underlying22 info3 rfl (by decide) (by omega) u5 x5_1 x18_1 [.int .i64 x18_1] (fun k_ => (w.heap.size ≤ k_)) (fun _ => False) rfl rfl ?aP (fun _ hk => hk.elim) ?aF ?aO ?aB ?aS ?aL ?_; (case aP => exact rfl); (case aB => exact bl_); (case aF => exact (fun k_ hk => (Nat.le_trans (bz_ bl_) hk))); (case aO => exact (Kd.pR HO_5.out)); (case aS => exact (bz_ bl_)); (case aL => have := LMc8.out; omega); intro v267 w9 ho hb hg hat; rw [← Ny266.out] at ho; replace BK264 := ak_ (blk_grown (pk BK264.out) hg (Kd.R_ne HO_5.out BK264.out (by decide))); replace BK265 := ak_ (blk_grown (pk BK265.out) hg (Kd.R_ne HO_5.out BK265.out (by decide))); replace HB := ak_ (hb); have HO268 := ak_ (ho); clear HO_5; clear ho hb hg hat))
     go_roundg k1
     case measure => have := HK1.out; omega
     case rel => exact ⟨(y266), (wrap64 (x18_1 + 1)), (ry_), H', ⟨by have := HK1.out; omega⟩, ⟨Kd.pR HO268.out⟩, ⟨pk BK264.out⟩, ⟨pk BK265.out⟩, ⟨bl_⟩⟩
    ·
     rw [if_neg c8] at H
     exact absurd H (by simp)
   ·
    rw [if_neg c7] at H
    have c7b0 := decide_eq_false c7
    clear c7
    replace H := Option.bind_eq_some_iff.mp H
    obtain ⟨t269, A100, H⟩ := H
    replace H : (spec_toRounds.l1 k1 t269 ([] : List (List (List Int))) t269 (t269.length : Int) 0 l0_0 a0_1 a0_2 l1_0 a1_1) = some r := H
    have A10 := ak_ A100
    clear A100
    have H' := ak_ H
    clear H
    have hnb11 := NB264_265.out
    have hnc11 := NB265_264.out
    obtain ⟨hcz12_0, hcz12_1, hcz12_2, hfz12_0, hfz12_1, hfz12_2⟩ := c3_ BK264.out
    obtain ⟨Ao13, co13, eo13⟩ := Kd.R_slice HO_5.out
    subst eo13
    go_wp2_with (first | ((with_reducible refine gate_callee (f := 65) rfl ?_); refine goesL_ (some 29) rfl rfl Try.func65 (by kernel_rfl) rfl #[.slice Ao13 x5_1.length co13, .slice none 0 0, .int .i64 0, .int .i64 a0_1] rfl rs_ ?_; (refine (spec_paGroups.calls k1 _ _ x5_1 _ _ ([] : List Int) 0 a0_1 t269 _ ?side1 ?side2 ?side3 ?side4 A10.out).mono ?_); (case side1 => exact cs_ ((Kd.R_reads' HO_5.out).2.2)); (case side2 => exact (Kd.R_reads' HO_5.out).2.1); (case side3 => exact Kd.C_nil _ _); (case side4 => exact Nat.le_refl _); rintro e w14 ⟨v270, rfl, ho0, hb⟩; refine ⟨_, rfl, ?_⟩; have HO271 := ak_ (Kd.N_lower (Kd.N_mono (ok' := fun k_ => (w.heap.size ≤ k_) ∧ some k_ ≠ (.slice Ao13 x5_1.length co13 : Value).ownBlock ∧ k_ ≠ gb264 ∧ k_ ≠ gb265) ho0 (fun k_ hk_ => ⟨(Nat.le_trans (bz_ bl_) hk_), (Kd.fresh' (Kd.R_lt (Kd.pR HO_5.out)) k_ hk_), (Kd.freshB (pk BK264.out) k_ hk_), (Kd.freshB (pk BK265.out) k_ hk_)⟩)) (bz_ bl_)); replace HO_5 := ak_ (Kd.R_below (Kd.pR HO_5.out) hb); replace BK264 := ak_ (blk_below (pk BK264.out) hb); replace BK265 := ak_ (blk_below (pk BK265.out) hb); replace HB := ak_ (bs_ bl_ hb); (try clear hb); (try clear hb2); (try clear hk); (try clear hi); (try clear ho0); obtain ⟨Ao15, co15, eo15⟩ := Kd.N_slice HO271.out; subst eo15))
    go_loopg [8, 32] k1 (fun kq v8 v32 w' => ∃ (x8_2 : List (List (List Int))) (x32_2 : Int), v32 = .int .i64 x32_2 ∧ Aside0 (spec_toRounds.l1 kq t269 x8_2 t269 (t269.length : Int) x32_2 l0_0 a0_1 a0_2 l1_0 a1_1 = some r) ∧ Aside0 (kq ≤ k1) ∧ Aside0 (Kd.N (Kd.slice 3 (Kd.int .i64)) 22 w' w.heap.size (fun k_ => (w.heap.size ≤ k_) ∧ some k_ ≠ (v8 : Value).ownBlock ∧ k_ ≠ gb264 ∧ k_ ≠ gb265) (.slice Ao15 t269.length co15) t269) ∧ Aside0 (Kd.N (Kd.slice 22 (Kd.slice 3 (Kd.int .i64))) 57 w' w.heap.size (fun k_ => (w.heap.size ≤ k_) ∧ some k_ ≠ ((.slice Ao15 t269.length co15) : Value).ownBlock ∧ some k_ ≠ ((.slice Ao15 t269.length co15) : Value).ownBlock ∧ k_ ≠ gb264 ∧ k_ ≠ gb265) v8 x8_2) ∧ Aside0 (Kd.N (Kd.slice 3 (Kd.int .i64)) 22 w' w.heap.size (fun k_ => (w.heap.size ≤ k_) ∧ some k_ ≠ (v8 : Value).ownBlock ∧ k_ ≠ gb264 ∧ k_ ≠ gb265) (.slice Ao15 t269.length co15) t269) ∧ Aside0 (w'.heap[gb264]? = some (.cells #[(.slice A0_0 l0_0.length c0_0), .int .i64 a0_1, .int .i64 a0_2] 33 (0, 0))) ∧ Aside0 (w'.heap[gb265]? = some (.cells #[(.slice A1_0 l1_0.length c1_0), .int .i64 a1_1] 35 (0, 0))) ∧ Aside0 (Below w.heap.size w w'))
    case atStart => exact ⟨(([] : List (List (List Int)))), (0), (ry_), H', ⟨Nat.le_refl _⟩, ⟨by (with_reducible repeat (first | apply Kd.N_alloc | apply Kd.N_drewN | apply Kd.N_drew)); exact Kd.N_mono HO271.out (fun _ hk => ⟨hk.1, ⟨(by simp [Value.ownBlock]), ⟨hk.2.2.1, hk.2.2.2⟩⟩⟩)⟩, ⟨by first | exact Kd.R_nil _ _ _ _ _ | exact Kd.N_nil _ _ _ _ _ | exact Kd.V_nil _ _ _ _ _ | exact Kd.Q_nil _ _ _ _ _ | exact Kd.S_nil _ _ _ _ _⟩, ⟨by (with_reducible repeat (first | apply Kd.N_alloc | apply Kd.N_drewN | apply Kd.N_drew)); exact Kd.N_mono HO271.out (fun _ hk => ⟨hk.1, ⟨(by simp [Value.ownBlock]), ⟨hk.2.2.1, hk.2.2.2⟩⟩⟩)⟩, ⟨pk BK264.out⟩, ⟨pk BK265.out⟩, ⟨bl_⟩⟩
    case round =>
     clear H'
     try clear c1
     try clear p2
     try clear c3
     try clear c5
     try clear c6
     try clear p6
     try clear c7
     try clear c7b0
     try clear c8
     try clear c11
     try clear hcz12_0
     try clear hcz12_1
     try clear hcz12_2
     try clear hcz6_0
     try clear hcz6_1
     try clear hcz6_2
     try clear hfz12_0
     try clear hfz12_1
     try clear hfz12_2
     try clear hfz6_0
     try clear hfz6_1
     try clear hfz6_2
     try clear p2
     obtain ⟨x8_2, x32_2, rfl, HA, HK2, HO_7, HO_8, HO_30, BK264, BK265, HB⟩ := hrel
     cases gk with
     | zero => exact absurd HA.out (by simp [spec_toRounds.l1])
     | succ k2 =>
      have H := HA.out
      clear HA
      simp only [spec_toRounds.l1] at H
      by_cases c16 : x32_2 < (t269.length : Int)
      ·
       rw [if_pos c16] at H
       have c16b0 := decide_eq_true c16
       clear c16
       by_cases c17 : 0 ≤ x32_2
       ·
        rw [if_pos c17] at H
        have c17b0 := decide_eq_true c17
        clear c17
        by_cases c18 : x32_2 < (t269.length : Int)
        ·
         rw [if_pos c18] at H
         have c18b0 := decide_eq_true c18
         clear c18
         replace H := Option.bind_eq_some_iff.mp H
         obtain ⟨t273, A190, H⟩ := H
         replace H : ((some (([t273] : List (List Int)) : List (List Int))).bind fun y276 => ((spec_toCan.f k2 l0_0 a0_1 a0_2 l1_0 a1_1 y276).bind fun t279 => (if t279 = true then (if x8_2.length < 5864062014805 then (if 0 ≤ (wrap64 (x32_2 + 1)) then (if (wrap64 (x32_2 + 1)) ≤ (t269.length : Int) then ((some (t269.drop ((wrap64 (x32_2 + 1)) : Int).toNat : List (List Int))).bind fun y283 => (spec_toRounds.l2 k2 t269 (x8_2 ++ [y276]) (rd_L2 t269 x32_2) t269 (t269.length : Int) x32_2 y283 (y283.length : Int) 0 l0_0 a0_1 a0_2 l1_0 a1_1)) else (none)) else (none)) else (none)) else (if 0 ≤ (wrap64 (x32_2 + 1)) then (if (wrap64 (x32_2 + 1)) ≤ (t269.length : Int) then ((some (t269.drop ((wrap64 (x32_2 + 1)) : Int).toNat : List (List Int))).bind fun y302 => (spec_toRounds.l2 k2 t269 x8_2 (rd_L2 t269 x32_2) t269 (t269.length : Int) x32_2 y302 (y302.length : Int) 0 l0_0 a0_1 a0_2 l1_0 a1_1)) else (none)) else (none))))) = some r := H
         have A19 := ak_ A190
         clear A190
         obtain ⟨y276, hy276⟩ : ∃ y_ : List (List Int), y_ = (([t273] : List (List Int))) := ⟨_, rfl⟩
         replace H : ((spec_toCan.f k2 l0_0 a0_1 a0_2 l1_0 a1_1 y276).bind fun t279 => (if t279 = true then (if x8_2.length < 5864062014805 then (if 0 ≤ (wrap64 (x32_2 + 1)) then (if (wrap64 (x32_2 + 1)) ≤ (t269.length : Int) then ((some (t269.drop ((wrap64 (x32_2 + 1)) : Int).toNat : List (List Int))).bind fun y283 => (spec_toRounds.l2 k2 t269 (x8_2 ++ [y276]) (rd_L2 t269 x32_2) t269 (t269.length : Int) x32_2 y283 (y283.length : Int) 0 l0_0 a0_1 a0_2 l1_0 a1_1)) else (none)) else (none)) else (none)) else (if 0 ≤ (wrap64 (x32_2 + 1)) then (if (wrap64 (x32_2 + 1)) ≤ (t269.length : Int) then ((some (t269.drop ((wrap64 (x32_2 + 1)) : Int).toNat : List (List Int))).bind fun y302 => (spec_toRounds.l2 k2 t269 x8_2 (rd_L2 t269 x32_2) t269 (t269.length : Int) x32_2 y302 (y302.length : Int) 0 l0_0 a0_1 a0_2 l1_0 a1_1)) else (none)) else (none)))) = some r := by first | (rw [hy276]; exact H) | exact H
         have Ny276 := ak_ hy276
         clear hy276
         replace H := Option.bind_eq_some_iff.mp H
         obtain ⟨t279, A200, H⟩ := H
         replace H : (if t279 = true then (if x8_2.length < 5864062014805 then (if 0 ≤ (wrap64 (x32_2 + 1)) then (if (wrap64 (x32_2 + 1)) ≤ (t269.length : Int) then ((some (t269.drop ((wrap64 (x32_2 + 1)) : Int).toNat : List (List Int))).bind fun y283 => (spec_toRounds.l2 k2 t269 (x8_2 ++ [y276]) (rd_L2 t269 x32_2) t269 (t269.length : Int) x32_2 y283 (y283.length : Int) 0 l0_0 a0_1 a0_2 l1_0 a1_1)) else (none)) else (none)) else (none)) else (if 0 ≤ (wrap64 (x32_2 + 1)) then (if (wrap64 (x32_2 + 1)) ≤ (t269.length : Int) then ((some (t269.drop ((wrap64 (x32_2 + 1)) : Int).toNat : List (List Int))).bind fun y302 => (spec_toRounds.l2 k2 t269 x8_2 (rd_L2 t269 x32_2) t269 (t269.length : Int) x32_2 y302 (y302.length : Int) 0 l0_0 a0_1 a0_2 l1_0 a1_1)) else (none)) else (none))) = some r := H
         have A20 := ak_ A200
         clear A200
         have HC21 := ak_ H
         clear H
         have p272 : 0 ≤ (x32_2 : Int) := od_
         have q272 : x32_2 < (t269.length : Int) := od_
         obtain ⟨ad272, A272_0, c272_0, e272, hx272_0, hl272_0, hi272_0⟩ := at_L2 (Kd.N_reads' HO_30.out).2.2 x32_2 p272 q272
         cases e272
         obtain ⟨ce272, hce272, hMe272, hcc272⟩ := Kd.N_get HO_30.out [] x32_2 p272 (by first | exact q272 | exact odt_ (by assumption) | (have e_ := (Kd.N_reads' HO_30.out).1; omega))
         obtain ⟨ua272_0, uc272_0, rfl, ul272_0, ge272_0⟩ := Kd.FK_slice_open hMe272
         have hv272_0 := hcc272 0 _ rfl
         rw [Nat.add_zero, show ((Kd.slice 3 (Kd.int .i64))).sz = 1 from rfl, Nat.mul_one] at hv272_0
         replace hv272_0 := Option.some.inj (hv272_0.symm.trans hx272_0)
         injection hv272_0 with hva_ hvn_ hvc_
         rw [hva_] at ge272_0
         rw [hvc_] at ul272_0
         have HL272_0 := ak_ (show Kd.V (Kd.int .i64) 3 _ w.heap.size _ _ (rd_L2 t269 x32_2) from Kd.V_mk ul272_0 ge272_0)
         clear hva_ hvn_ hvc_ ge272_0 ul272_0 hcc272 hce272
         have HR272_0 := ak_ hi272_0
         have HC272_0 := ak_ hl272_0
         clear hi272_0 hl272_0
         replace p272 := eq_true p272
         replace q272 := eq_true q272
         go_upto_if 43 with (first | ((with_reducible refine gate_callee (f := 66) rfl ?_); refine goesL_ (some 38) rfl rfl Try.func66 (by kernel_rfl) rfl #[.slice A272_0 (rd_L2 t269 x32_2).length c272_0] rfl rs_ ?_; (with_reducible refine (spec_l1Own.calls _ _ (rd_L2 t269 x32_2) t273 _ ?side1 ?side2 A19.out).mono ?_); (case side1 => repeat (first | exact (by repeat (first | (with_reducible exact HR272_0.out) | (with_reducible refine Kd.C_alloc ?_ _) | (with_reducible refine Kd.C_drewN ?_ _) | (with_reducible refine Kd.C_drew ?_) | exact HR272_0.out)) | (with_reducible refine Kd.C_alloc ?_ _) | (with_reducible refine Kd.C_drewN ?_ _) | (with_reducible refine Kd.C_drew ?_))); (case side2 => exact HC272_0.out); rintro e w22 ⟨v274, rfl, ho0, hb⟩; refine ⟨_, rfl, ?_⟩; replace HO_7 := ak_ (Kd.N_elder' (Kd.pN HO_7.out) (Kd.R_base ho0) hb); replace HO_8 := ak_ (Kd.N_elder' (Kd.pN HO_8.out) (Kd.R_base ho0) hb); replace HO_30 := ak_ (Kd.N_elder' (Kd.pN HO_30.out) (Kd.R_base ho0) hb); replace HL272_0 := ak_ (Kd.V_elder' (Kd.pV HL272_0.out) (Kd.R_base ho0) hb); have HO275 := ak_ (Kd.R_lower (Kd.R_newM (M := fun k_ => (w.heap.size ≤ k_)) ho0 (bz_ bl_) (fun k_ h_ => h_)) (bz_ bl_)); replace BK264 := ak_ (blk_below (pk BK264.out) hb); replace BK265 := ak_ (blk_below (pk BK265.out) hb); replace HR272_0 := ak_ (Kd.C_below (by repeat (first | (with_reducible exact HR272_0.out) | (with_reducible refine Kd.C_alloc ?_ _) | (with_reducible refine Kd.C_drewN ?_ _) | (with_reducible refine Kd.C_drew ?_) | exact HR272_0.out)) hb); replace HB := ak_ (bs_ bl_ hb); (try clear hb); (try clear hb2); (try clear hk); (try clear hi); (try clear ho0); obtain ⟨Ao23, co23, eo23⟩ := Kd.R_slice HO275.out; subst eo23) | ((with_reducible refine gate_dst (N := 39) rfl ?_); refine Kd.N_lit (Kd.slice 3 (Kd.int .i64)) _ 22 ?hg (N' := 39) ?hd (xs := ([t273] : List (List Int))) (inner := [.slice Ao23 t273.length co23]) (ok := (fun k_ => (w.heap.size ≤ k_) ∧ some k_ ≠ (.slice (some ad272) t269.length co15 : Value).ownBlock ∧ some k_ ≠ (u8 : Value).ownBlock ∧ some k_ ≠ (.slice (some ad272) t269.length co15 : Value).ownBlock ∧ k_ ≠ gb264 ∧ k_ ≠ gb265)) (okp := (fun k_ => (w.heap.size ≤ k_) ∧ some k_ ≠ (.slice (some ad272) t269.length co15 : Value).ownBlock ∧ some k_ ≠ (u8 : Value).ownBlock ∧ some k_ ≠ (.slice (some ad272) t269.length co15 : Value).ownBlock ∧ k_ ≠ gb264 ∧ k_ ≠ gb265)) ?hr ?hp (fun _ hk => hk) ((show ∀ k_, w22.heap.size ≤ k_ → (fun k_ => (w.heap.size ≤ k_) ∧ some k_ ≠ (.slice (some ad272) t269.length co15 : Value).ownBlock ∧ some k_ ≠ (u8 : Value).ownBlock ∧ some k_ ≠ (.slice (some ad272) t269.length co15 : Value).ownBlock ∧ k_ ≠ gb264 ∧ k_ ≠ gb265) k_ from fun k_ hk => ⟨(Nat.le_trans (bz_ bl_) hk), Kd.fresh' (Kd.N_lt (Kd.pN HO_7.out)) k_ hk, Kd.fresh' (Kd.N_lt (Kd.pN HO_8.out)) k_ hk, Kd.fresh' (Kd.N_lt (Kd.pN HO_30.out)) k_ hk, Kd.freshB (pk BK264.out) k_ hk, Kd.freshB (pk BK265.out) k_ hk⟩) _ (Nat.le_refl _)) (Below.refl _ _) (Nat.le_refl _) (by simp) ?_; (case hd => rfl); (case hg => rfl); (case hr => go_simp <;> rfl); (case hp => exact (Reps.one (show Kd.FK (Kd.slice 3 (Kd.int .i64)) _ _ t273 [.slice Ao23 t273.length co23] from (Kd.FK_slice_mk (Kd.R_reads' (Kd.R_mono (ok' := (fun k_ => (w.heap.size ≤ k_) ∧ some k_ ≠ (.slice (some ad272) t269.length co15 : Value).ownBlock ∧ some k_ ≠ (u8 : Value).ownBlock ∧ some k_ ≠ (.slice (some ad272) t269.length co15 : Value).ownBlock ∧ k_ ≠ gb264 ∧ k_ ≠ gb265)) (Kd.R_types (Kd.R_types (Kd.R_apart' (Kd.R_apart' (Kd.R_apart' (HO275.out) (Kd.N_typed HO_7.out) (by decide)) (Kd.N_typed HO_8.out) (by decide)) (Kd.N_typed HO_30.out) (by decide)) BK264.out (by decide)) BK265.out (by decide)) (fun k_ hk => ⟨hk.1.1.1.1.1.1, ⟨hk.1.1.1.1.2, ⟨hk.1.1.1.2, ⟨hk.1.1.2, ⟨hk.1.2, hk.2⟩⟩⟩⟩⟩))).2.1 (Kd.R_F (Kd.R_mono (ok' := (fun k_ => (w.heap.size ≤ k_) ∧ some k_ ≠ (.slice (some ad272) t269.length co15 : Value).ownBlock ∧ some k_ ≠ (u8 : Value).ownBlock ∧ some k_ ≠ (.slice (some ad272) t269.length co15 : Value).ownBlock ∧ k_ ≠ gb264 ∧ k_ ≠ gb265)) (Kd.R_types (Kd.R_types (Kd.R_apart' (Kd.R_apart' (Kd.R_apart' (HO275.out) (Kd.N_typed HO_7.out) (by decide)) (Kd.N_typed HO_8.out) (by decide)) (Kd.N_typed HO_30.out) (by decide)) BK264.out (by decide)) BK265.out (by decide)) (fun k_ hk => ⟨hk.1.1.1.1.1.1, ⟨hk.1.1.1.1.2, ⟨hk.1.1.1.2, ⟨hk.1.1.2, ⟨hk.1.2, hk.2⟩⟩⟩⟩⟩))))) (Reps.none _ _))); intro v277 w24 ho25 hb hg_ hnew_; clear hg_ hnew_; (first | rw [← Ny276.out] at ho25 | (simp only [Int.reduceToNat] at ho25; rw [← Ny276.out] at ho25)); replace HO_7 := ak_ (Kd.N_elder' (Kd.pN HO_7.out) (Kd.N_base ho25) hb); replace HO_8 := ak_ (Kd.N_elder' (Kd.pN HO_8.out) (Kd.N_base ho25) hb); replace HO_30 := ak_ (Kd.N_elder' (Kd.pN HO_30.out) (Kd.N_base ho25) hb); replace HL272_0 := ak_ (Kd.V_elder' (Kd.pV HL272_0.out) (Kd.N_base ho25) hb); have HO278 := ak_ (Kd.N_lower ho25 (bz_ bl_)); replace BK264 := ak_ (blk_below (pk BK264.out) hb); replace BK265 := ak_ (blk_below (pk BK265.out) hb); replace HR272_0 := ak_ (Kd.C_below (by repeat (first | (with_reducible exact HR272_0.out) | (with_reducible refine Kd.C_alloc ?_ _) | (with_reducible refine Kd.C_drewN ?_ _) | (with_reducible refine Kd.C_drew ?_) | exact HR272_0.out)) hb); replace HB := ak_ (bs_ bl_ hb); clear HO275; clear hb ho25; have hnb26 := NB264_265.out; have hnc26 := NB265_264.out; obtain ⟨hcz27_0, hcz27_1, hcz27_2, hfz27_0, hfz27_1, hfz27_2⟩ := c3_ BK264.out; obtain ⟨hcz28_0, hcz28_1, hfz28_0, hfz28_1⟩ := c2_ BK265.out; obtain ⟨Ao29, co29, eo29⟩ := Kd.N_slice HO278.out; subst eo29) | ((with_reducible refine gate_callee (f := 67) rfl ?_); refine goesL_ (some 43) rfl rfl Try.func67 (by kernel_rfl) rfl #[.agg #[.slice A0_0 l0_0.length c0_0, .int .i64 a0_1, .int .i64 a0_2], .agg #[.slice A1_0 l1_0.length c1_0, .int .i64 a1_1], .slice Ao29 y276.length co29] rfl rs_ ?_; (with_reducible refine (spec_toCan.calls k2 _ _ l0_0 a0_1 a0_2 _ _ l1_0 a1_1 _ _ y276 t279 _ ?side1 ?side2 ?side3 ?side4 ?side5 ?side6 A20.out).mono ?_); (case side1 => exact cs_ (Kd.C_below HR0_0.out HB.out)); (case side2 => exact HC0_0.out); (case side3 => exact cs_ (Kd.C_below HR1_0.out HB.out)); (case side4 => exact HC1_0.out); (case side5 => exact cs_ ((Kd.N_reads' HO278.out).2.2)); (case side6 => exact (Kd.N_reads' HO278.out).2.1); rintro e w30 ⟨rfl, hb⟩; refine ⟨_, rfl, ?_⟩; replace HO_7 := ak_ (Kd.N_below (Kd.pN HO_7.out) hb); replace HO_8 := ak_ (Kd.N_below (Kd.pN HO_8.out) hb); replace HO_30 := ak_ (Kd.N_below (Kd.pN HO_30.out) hb); replace HL272_0 := ak_ (Kd.V_below (Kd.pV HL272_0.out) hb); replace HO278 := ak_ (Kd.N_below (Kd.pN HO278.out) hb); replace BK264 := ak_ (blk_below (pk BK264.out) hb); replace BK265 := ak_ (blk_below (pk BK265.out) hb); replace HR272_0 := ak_ (Kd.C_below (by repeat (first | (with_reducible exact HR272_0.out) | (with_reducible refine Kd.C_alloc ?_ _) | (with_reducible refine Kd.C_drewN ?_ _) | (with_reducible refine Kd.C_drew ?_) | exact HR272_0.out)) hb); replace HB := ak_ (bs_ bl_ hb); (try clear hb); (try clear hb2); (try clear hk); (try clear hi)))
         (try simp only [Act.put, setIfInBounds_toArray, set_cons_zero, set_cons_succ])
         have H := HC21.out
         clear HC21
         by_cases c31 : t279 = true
         ·
          subst c31
          have H1 : (if x8_2.length < 5864062014805 then (if 0 ≤ (wrap64 (x32_2 + 1)) then (if (wrap64 (x32_2 + 1)) ≤ (t269.length : Int) then ((some (t269.drop ((wrap64 (x32_2 + 1)) : Int).toNat : List (List Int))).bind fun y283 => (spec_toRounds.l2 k2 t269 (x8_2 ++ [y276]) (rd_L2 t269 x32_2) t269 (t269.length : Int) x32_2 y283 (y283.length : Int) 0 l0_0 a0_1 a0_2 l1_0 a1_1)) else (none)) else (none)) else (none)) = some r := by rw [if_pos rfl] at H; exact H
          clear H
          have H := H1
          clear H1
          by_cases c32 : x8_2.length < 5864062014805
          ·
           rw [if_pos c32] at H
           have LMc32 := ak_ c32
           clear c32
           obtain ⟨y280, hy280⟩ : ∃ y_ : List (List (List Int)), y_ = (x8_2 ++ [y276]) := ⟨_, rfl⟩
           replace H : (if 0 ≤ (wrap64 (x32_2 + 1)) then (if (wrap64 (x32_2 + 1)) ≤ (t269.length : Int) then ((some (t269.drop ((wrap64 (x32_2 + 1)) : Int).toNat : List (List Int))).bind fun y283 => (spec_toRounds.l2 k2 t269 y280 (rd_L2 t269 x32_2) t269 (t269.length : Int) x32_2 y283 (y283.length : Int) 0 l0_0 a0_1 a0_2 l1_0 a1_1)) else (none)) else (none)) = some r := by first | (rw [hy280]; exact H) | exact H
           have Ny280 := ak_ hy280
           clear hy280
           obtain ⟨ji33, hji33⟩ : ∃ j_ : Int, (wrap64 (x32_2 + 1)) = j_ := ⟨_, rfl⟩
           replace H : (if 0 ≤ (ji33) then (if (ji33) ≤ (t269.length : Int) then ((some (t269.drop ((ji33) : Int).toNat : List (List Int))).bind fun y283 => (spec_toRounds.l2 k2 t269 y280 (rd_L2 t269 x32_2) t269 (t269.length : Int) x32_2 y283 (y283.length : Int) 0 l0_0 a0_1 a0_2 l1_0 a1_1)) else (none)) else (none)) = some r := by first | (rw [hji33] at H; exact H) | (simp only [hji33] at H ⊢; exact H)
           have hji33w : (IntKind.i64.wrap (x32_2 + 1)) = ji33 := (i64_w _).trans hji33
           by_cases c34 : 0 ≤ (ji33)
           ·
            rw [if_pos c34] at H
            have c34b0 := eq_true c34
            have c34b1 := decide_eq_true c34
            clear c34
            by_cases c35 : (ji33) ≤ (t269.length : Int)
            ·
             rw [if_pos c35] at H
             have c35b0 := eq_true c35
             have c35b1 := decide_eq_true c35
             clear c35
             obtain ⟨y283, hy283⟩ : ∃ y_ : List (List Int), y_ = (t269.drop ((ji33) : Int).toNat) := ⟨_, rfl⟩
             replace H : (spec_toRounds.l2 k2 t269 y280 (rd_L2 t269 x32_2) t269 (t269.length : Int) x32_2 y283 (y283.length : Int) 0 l0_0 a0_1 a0_2 l1_0 a1_1) = some r := by first | (rw [hy283]; exact H) | exact H
             have Ny283 := ak_ hy283
             clear hy283
             have H' := ak_ H
             clear H
             go_wp2_with (first | ((with_reducible refine gate_builtin (b := .append) (xs := #[.tmp 44, .tmp 46]) rfl ?_); at_builtin; refine Kd.N_append (Kd.slice 22 (Kd.slice 3 (Kd.int .i64))) (w0 := w) w.heap.size rfl (.tmp 44) (.tmp 46) 30 57 (.slice none 0 0) 24 rfl Try.underlying30 info57 rfl (by decide) (by omega) u8 x8_2 y276 [.slice Ao29 y276.length co29] (fun k_ => (w.heap.size ≤ k_) ∧ some k_ ≠ (.slice (some ad272) t269.length co15 : Value).ownBlock ∧ some k_ ≠ (.slice (some ad272) t269.length co15 : Value).ownBlock ∧ k_ ≠ gb264 ∧ k_ ≠ gb265) (fun k_ => ((fun k_ => (w.heap.size ≤ k_) ∧ some k_ ≠ (.slice (some ad272) t269.length co15 : Value).ownBlock ∧ some k_ ≠ (.slice (some ad272) t269.length co15 : Value).ownBlock ∧ k_ ≠ gb264 ∧ k_ ≠ gb265)) k_ ∧ some k_ ≠ (u8 : Value).ownBlock) rfl rfl ?aP (fun _ hk => hk) ?aF ?aO ?aB ?aS ?aL ?_; (case aP => exact (Kd.FK_slice_mk (Kd.N_reads' (Kd.N_mono (ok' := (fun k_ => ((fun k_ => (w.heap.size ≤ k_) ∧ some k_ ≠ (.slice (some ad272) t269.length co15 : Value).ownBlock ∧ some k_ ≠ (.slice (some ad272) t269.length co15 : Value).ownBlock ∧ k_ ≠ gb264 ∧ k_ ≠ gb265)) k_ ∧ some k_ ≠ (u8 : Value).ownBlock)) (HO278.out) (fun k_ hk => ⟨⟨hk.1, ⟨hk.2.1, ⟨hk.2.2.2.1, ⟨hk.2.2.2.2.1, hk.2.2.2.2.2⟩⟩⟩⟩, hk.2.2.1⟩))).2.1 (Kd.N_F (Kd.N_mono (ok' := (fun k_ => ((fun k_ => (w.heap.size ≤ k_) ∧ some k_ ≠ (.slice (some ad272) t269.length co15 : Value).ownBlock ∧ some k_ ≠ (.slice (some ad272) t269.length co15 : Value).ownBlock ∧ k_ ≠ gb264 ∧ k_ ≠ gb265)) k_ ∧ some k_ ≠ (u8 : Value).ownBlock)) (HO278.out) (fun k_ hk => ⟨⟨hk.1, ⟨hk.2.1, ⟨hk.2.2.2.1, ⟨hk.2.2.2.2.1, hk.2.2.2.2.2⟩⟩⟩⟩, hk.2.2.1⟩))))); (case aB => exact bl_); (case aF => exact (fun k_ hk => ⟨(Nat.le_trans (bz_ bl_) hk), Kd.fresh' (Kd.N_lt (Kd.pN HO_7.out)) k_ hk, Kd.fresh' (Kd.N_lt (Kd.pN HO_30.out)) k_ hk, Kd.freshB (pk BK264.out) k_ hk, Kd.freshB (pk BK265.out) k_ hk⟩)); (case aO => exact (by (with_reducible repeat (first | apply Kd.N_alloc | apply Kd.N_drewN | apply Kd.N_drew)); exact Kd.N_mono HO_8.out (fun _ hk => ⟨hk.1.1.1, ⟨hk.1.1.2.1, ⟨hk.1.1.2.2.1, ⟨hk.1.1.2.2.2.1, hk.1.1.2.2.2.2⟩⟩⟩⟩))); (case aS => exact (bz_ bl_)); (case aL => have := LMc32.out; omega); intro v281 w36 ho hb hg hat; rw [← Ny280.out] at ho; replace HO_7 := ak_ (Kd.N_afterv (ok := (fun k_ => (w.heap.size ≤ k_) ∧ some k_ ≠ (.slice Ao29 y276.length co29 : Value).ownBlock ∧ k_ ≠ gb264 ∧ k_ ≠ gb265)) (by (with_reducible repeat (first | apply Kd.N_alloc | apply Kd.N_drewN | apply Kd.N_drew)); exact Kd.N_mono HO_7.out (fun _ hk => ⟨⟨hk.1.1.1, ⟨hk.2, ⟨hk.1.1.2.2.1, hk.1.1.2.2.2⟩⟩⟩, hk.1.1.2.1⟩)) hg hat); replace HO_30 := ak_ (Kd.N_afterv (ok := (fun k_ => (w.heap.size ≤ k_) ∧ some k_ ≠ (.slice Ao29 y276.length co29 : Value).ownBlock ∧ k_ ≠ gb264 ∧ k_ ≠ gb265)) (by (with_reducible repeat (first | apply Kd.N_alloc | apply Kd.N_drewN | apply Kd.N_drew)); exact Kd.N_mono HO_30.out (fun _ hk => ⟨⟨hk.1.1.1, ⟨hk.2, ⟨hk.1.1.2.2.1, hk.1.1.2.2.2⟩⟩⟩, hk.1.1.2.1⟩)) hg hat); replace BK264 := ak_ (blk_grown (pk BK264.out) hg (Kd.N_ne HO_8.out BK264.out (by decide))); replace BK265 := ak_ (blk_grown (pk BK265.out) hg (Kd.N_ne HO_8.out BK265.out (by decide))); replace HL272_0 := ak_ (Kd.V_afterv (ok := (fun k_ => (w.heap.size ≤ k_) ∧ some k_ ≠ (.slice (some ad272) t269.length co15 : Value).ownBlock ∧ some k_ ≠ (.slice Ao29 y276.length co29 : Value).ownBlock ∧ k_ ≠ gb264 ∧ k_ ≠ gb265)) (by (with_reducible repeat (first | apply Kd.V_alloc | apply Kd.V_drewN | apply Kd.V_drew)); exact Kd.V_mono HL272_0.out (fun _ hk => ⟨⟨hk.1.1.1.1, ⟨hk.1.1.2, ⟨hk.2, ⟨hk.1.1.1.2.2.1, hk.1.1.1.2.2.2⟩⟩⟩⟩, hk.1.1.1.2.1⟩)) hg hat); replace HB := ak_ (hb); have HO282 := ak_ (ho); clear HO_8 HO278; clear ho hb hg hat; have q37 : ((ji33) : Int) ≤ ((t269.length : Int) : Int) := od_; obtain ⟨i037, hi037, _, hsz37, _⟩ := info_parts info22; have hroom37 : t269.length ≤ co15 := (Kd.N_reads' HO_7.out).2.1; have hC37 : Kd.F (Kd.slice 3 (Kd.int .i64)) _ _ (some ad272) t269.length t269 := (Kd.V_at (base := w.heap.size) (Kd.N_V HO_7.out)).2.2; have q037 : (0 : Int) ≤ ((ji33) : Int) := od_; have hcut37 := cut_from (P := Try.prog) 57 22 .i64 Try.underlying57 hi037 1 hsz37 (some ad272) t269.length co15 (ji33) q037 q37; have hr37 := Kd.F_cut (m := ((ji33) : Int).toNat) (c := co15) hC37 (by omega) hroom37; obtain ⟨A37, hA37⟩ : ∃ A1, A1 = (if co15 = ((ji33) : Int).toNat then (some ad272) else ((some ad272) : Option Addr).map (·.add (((ji33) : Int).toNat * 1))) := ⟨_, rfl⟩; obtain ⟨c37, hc37⟩ : ∃ c1, c1 = co15 - ((ji33) : Int).toNat := ⟨_, rfl⟩; have hy37 : y283.length = t269.length - ((ji33) : Int).toNat := (by rw [Ny283.out, List.length_drop] <;> omega); rw [show (t269).drop ((ji33) : Int).toNat = y283 from Ny283.out.symm] at hr37; replace hr37 : Kd.F (Kd.slice 3 (Kd.int .i64)) _ _ A37 y283.length y283 := (by rw [hA37]; exact hr37); rw [← hy37, ← hA37, ← hc37] at hcut37; have HO287 := ak_ (show Kd.V (Kd.slice 3 (Kd.int .i64)) 22 _ w.heap.size _ (.slice A37 y283.length c37) y283 from Kd.V_mk (by rw [hy37, hc37]; exact Nat.sub_le_sub_right hroom37 _) hr37); have HC287 := ak_ (show y283.length ≤ c37 from by rw [hy37, hc37]; exact Nat.sub_le_sub_right hroom37 _); clear hr37 hC37 hroom37 hi037 hsz37 hc37; have KY37 := ak_ hy37; have KA37 := ak_ hA37; clear hy37 hA37; replace q37 := eq_true q37))
             go_loopg [8, 53] k2 (fun kq v8 v53 w' => ∃ (x8_3 : List (List (List Int))) (x53_3 : Int), v53 = .int .i64 x53_3 ∧ Aside0 (spec_toRounds.l2 kq t269 x8_3 (rd_L2 t269 x32_2) t269 (t269.length : Int) x32_2 y283 (y283.length : Int) x53_3 l0_0 a0_1 a0_2 l1_0 a1_1 = some r) ∧ Aside0 (kq ≤ k2) ∧ Aside0 (Kd.N (Kd.slice 3 (Kd.int .i64)) 22 w' w.heap.size (fun k_ => (w.heap.size ≤ k_) ∧ some k_ ≠ (v8 : Value).ownBlock ∧ k_ ≠ gb264 ∧ k_ ≠ gb265) (.slice (some ad272) t269.length co15) t269) ∧ Aside0 (Kd.N (Kd.slice 22 (Kd.slice 3 (Kd.int .i64))) 57 w' w.heap.size (fun k_ => (w.heap.size ≤ k_) ∧ some k_ ≠ ((.slice (some ad272) t269.length co15) : Value).ownBlock ∧ some k_ ≠ ((.slice (some ad272) t269.length co15) : Value).ownBlock ∧ k_ ≠ gb264 ∧ k_ ≠ gb265) v8 x8_3) ∧ Aside0 (Kd.N (Kd.slice 3 (Kd.int .i64)) 22 w' w.heap.size (fun k_ => (w.heap.size ≤ k_) ∧ some k_ ≠ (v8 : Value).ownBlock ∧ k_ ≠ gb264 ∧ k_ ≠ gb265) (.slice (some ad272) t269.length co15) t269) ∧ Aside0 (Kd.V (Kd.slice 3 (Kd.int .i64)) 22 w' w.heap.size (fun k_ => (w.heap.size ≤ k_) ∧ some k_ ≠ (v8 : Value).ownBlock ∧ k_ ≠ gb264 ∧ k_ ≠ gb265) (.slice A37 y283.length c37) y283) ∧ Aside0 (w'.heap[gb264]? = some (.cells #[(.slice A0_0 l0_0.length c0_0), .int .i64 a0_1, .int .i64 a0_2] 33 (0, 0))) ∧ Aside0 (w'.heap[gb265]? = some (.cells #[(.slice A1_0 l1_0.length c1_0), .int .i64 a1_1] 35 (0, 0))) ∧ Aside0 (Below w.heap.size w w') ∧ Aside0 (Kd.V (Kd.int .i64) 3 w' w.heap.size (fun k_ => (w.heap.size ≤ k_) ∧ some k_ ≠ (v8 : Value).ownBlock ∧ k_ ≠ gb264 ∧ k_ ≠ gb265) (.slice A272_0 (rd_L2 t269 x32_2).length c272_0) (rd_L2 t269 x32_2)))
             case atStart => exact ⟨(y280), (0), (ry_), H', ⟨Nat.le_refl _⟩, ⟨by (with_reducible repeat (first | apply Kd.N_alloc | apply Kd.N_drewN | apply Kd.N_drew)); exact Kd.N_mono HO_7.out (fun _ hk => ⟨hk.1.1, ⟨hk.2, ⟨hk.1.2.2.1, hk.1.2.2.2⟩⟩⟩)⟩, ⟨Kd.pN HO282.out⟩, ⟨by (with_reducible repeat (first | apply Kd.N_alloc | apply Kd.N_drewN | apply Kd.N_drew)); exact Kd.N_mono HO_30.out (fun _ hk => ⟨hk.1.1, ⟨hk.2, ⟨hk.1.2.2.1, hk.1.2.2.2⟩⟩⟩)⟩, ⟨by (with_reducible repeat (first | apply Kd.V_alloc | apply Kd.V_drewN | apply Kd.V_drew)); exact Kd.V_mono HO287.out (fun _ hk => ⟨hk.1.1, ⟨hk.2, ⟨hk.1.2.2.1, hk.1.2.2.2⟩⟩⟩)⟩, ⟨pk BK264.out⟩, ⟨pk BK265.out⟩, ⟨bl_⟩, ⟨by (with_reducible repeat (first | apply Kd.V_alloc | apply Kd.V_drewN | apply Kd.V_drew)); exact Kd.V_mono HL272_0.out (fun k_ hk => by revert hk; simp only [and_imp]; intros; repeat' (first | assumption | apply And.intro))⟩⟩
             case round =>
              clear H'
              try clear c1
              try clear c2
              try clear p2
              try clear q2
              try clear hx2
              try clear c3
              try clear q3
              try clear c5
              try clear c6
              try clear p6
              try clear c7
              try clear c7b0
              try clear c8
              try clear c11
              try clear c16
              try clear c16b0
              try clear c17
              try clear c17b0
              try clear c18
              try clear c18b0
              try clear c26
              try clear c27
              try clear p27
              try clear q27
              try clear hx27
              try clear c31
              try clear c32
              try clear c34
              try clear c34b0
              try clear c34b1
              try clear c35
              try clear c35b0
              try clear c35b1
              try clear c37
              try clear q37
              try clear hcz12_0
              try clear hcz12_1
              try clear hcz12_2
              try clear hcz27_0
              try clear hcz27_1
              try clear hcz27_2
              try clear hcz28_0
              try clear hcz28_1
              try clear hcz6_0
              try clear hcz6_1
              try clear hcz6_2
              try clear hfz12_0
              try clear hfz12_1
              try clear hfz12_2
              try clear hfz27_0
              try clear hfz27_1
              try clear hfz27_2
              try clear hfz28_0
              try clear hfz28_1
              try clear hfz6_0
              try clear hfz6_1
              try clear hfz6_2
              try clear hx272_0
              try clear p2
              try clear p272
              try clear p6
              try clear q037
              try clear q272
              try clear q37
              clear HL272_0 HR272_0
              obtain ⟨x8_3, x53_3, rfl, HA, HK3, HO_7, HO_8, HO_30, HO_51, BK264, BK265, HB, HL272_0⟩ := hrel
              cases gk with
              | zero => exact absurd HA.out (by simp [spec_toRounds.l2])
              | succ k3 =>
               have H := HA.out
               clear HA
               simp only [spec_toRounds.l2] at H
               by_cases c38 : x53_3 < (y283.length : Int)
               ·
                rw [if_pos c38] at H
                have c38b0 := decide_eq_true c38
                clear c38
                (first | rw [c38b0] | (simp only [i64_w, i32_w]; rw [c38b0]) | rw [c38b1] | skip)
                by_cases c39 : 0 ≤ x53_3
                ·
                 rw [if_pos c39] at H
                 have c39b0 := decide_eq_true c39
                 clear c39
                 by_cases c40 : x53_3 < (y283.length : Int)
                 ·
                  rw [if_pos c40] at H
                  have c40b0 := decide_eq_true c40
                  clear c40
                  replace H := Option.bind_eq_some_iff.mp H
                  obtain ⟨t289, A410, H⟩ := H
                  replace H : ((spec_l1Own.f (rd_L2 y283 x53_3)).bind fun t292 => ((some (([t289, t292] : List (List Int)) : List (List Int))).bind fun y295 => ((spec_toCan.f k3 l0_0 a0_1 a0_2 l1_0 a1_1 y295).bind fun t298 => (if t298 = true then (if x8_3.length < 5864062014805 then (spec_toRounds.l2 k3 t269 (x8_3 ++ [y295]) (rd_L2 t269 x32_2) t269 (t269.length : Int) x32_2 y283 (y283.length : Int) (wrap64 (x53_3 + 1)) l0_0 a0_1 a0_2 l1_0 a1_1) else (none)) else (spec_toRounds.l2 k3 t269 x8_3 (rd_L2 t269 x32_2) t269 (t269.length : Int) x32_2 y283 (y283.length : Int) (wrap64 (x53_3 + 1)) l0_0 a0_1 a0_2 l1_0 a1_1))))) = some r := H
                  have A41 := ak_ A410
                  clear A410
                  replace H := Option.bind_eq_some_iff.mp H
                  obtain ⟨t292, A420, H⟩ := H
                  replace H : ((some (([t289, t292] : List (List Int)) : List (List Int))).bind fun y295 => ((spec_toCan.f k3 l0_0 a0_1 a0_2 l1_0 a1_1 y295).bind fun t298 => (if t298 = true then (if x8_3.length < 5864062014805 then (spec_toRounds.l2 k3 t269 (x8_3 ++ [y295]) (rd_L2 t269 x32_2) t269 (t269.length : Int) x32_2 y283 (y283.length : Int) (wrap64 (x53_3 + 1)) l0_0 a0_1 a0_2 l1_0 a1_1) else (none)) else (spec_toRounds.l2 k3 t269 x8_3 (rd_L2 t269 x32_2) t269 (t269.length : Int) x32_2 y283 (y283.length : Int) (wrap64 (x53_3 + 1)) l0_0 a0_1 a0_2 l1_0 a1_1)))) = some r := H
                  have A42 := ak_ A420
                  clear A420
                  obtain ⟨y295, hy295⟩ : ∃ y_ : List (List Int), y_ = (([t289, t292] : List (List Int))) := ⟨_, rfl⟩
                  replace H : ((spec_toCan.f k3 l0_0 a0_1 a0_2 l1_0 a1_1 y295).bind fun t298 => (if t298 = true then (if x8_3.length < 5864062014805 then (spec_toRounds.l2 k3 t269 (x8_3 ++ [y295]) (rd_L2 t269 x32_2) t269 (t269.length : Int) x32_2 y283 (y283.length : Int) (wrap64 (x53_3 + 1)) l0_0 a0_1 a0_2 l1_0 a1_1) else (none)) else (spec_toRounds.l2 k3 t269 x8_3 (rd_L2 t269 x32_2) t269 (t269.length : Int) x32_2 y283 (y283.length : Int) (wrap64 (x53_3 + 1)) l0_0 a0_1 a0_2 l1_0 a1_1))) = some r := by first | (rw [hy295]; exact H) | exact H
                  have Ny295 := ak_ hy295
                  clear hy295
                  replace H := Option.bind_eq_some_iff.mp H
                  obtain ⟨t298, A430, H⟩ := H
                  replace H : (if t298 = true then (if x8_3.length < 5864062014805 then (spec_toRounds.l2 k3 t269 (x8_3 ++ [y295]) (rd_L2 t269 x32_2) t269 (t269.length : Int) x32_2 y283 (y283.length : Int) (wrap64 (x53_3 + 1)) l0_0 a0_1 a0_2 l1_0 a1_1) else (none)) else (spec_toRounds.l2 k3 t269 x8_3 (rd_L2 t269 x32_2) t269 (t269.length : Int) x32_2 y283 (y283.length : Int) (wrap64 (x53_3 + 1)) l0_0 a0_1 a0_2 l1_0 a1_1)) = some r := H
                  have A43 := ak_ A430
                  clear A430
                  have HC44 := ak_ H
                  clear H
                  have p288 : 0 ≤ (x53_3 : Int) := od_
                  have q288 : x53_3 < (y283.length : Int) := od_
                  obtain ⟨ad288, A288_0, c288_0, e288, hx288_0, hl288_0, hi288_0⟩ := at_L2 (Kd.V_reads' HO_51.out).2.2 x53_3 p288 q288
                  cases e288
                  obtain ⟨ce288, hce288, hMe288, hcc288⟩ := Kd.V_get HO_51.out [] x53_3 p288 (by first | exact q288 | exact odt_ (by assumption) | (have e_ := (Kd.V_reads' HO_51.out).1; omega))
                  obtain ⟨ua288_0, uc288_0, rfl, ul288_0, ge288_0⟩ := Kd.FK_slice_open hMe288
                  have hv288_0 := hcc288 0 _ rfl
                  rw [Nat.add_zero, show ((Kd.slice 3 (Kd.int .i64))).sz = 1 from rfl, Nat.mul_one] at hv288_0
                  replace hv288_0 := Option.some.inj (hv288_0.symm.trans hx288_0)
                  injection hv288_0 with hva_ hvn_ hvc_
                  rw [hva_] at ge288_0
                  rw [hvc_] at ul288_0
                  have HL288_0 := ak_ (show Kd.V (Kd.int .i64) 3 _ w.heap.size _ _ (rd_L2 y283 x53_3) from Kd.V_mk ul288_0 ge288_0)
                  clear hva_ hvn_ hvc_ ge288_0 ul288_0 hcc288 hce288
                  have HR288_0 := ak_ hi288_0
                  have HC288_0 := ak_ hl288_0
                  clear hi288_0 hl288_0
                  replace p288 := eq_true p288
                  replace q288 := eq_true q288
                  go_upto_if 65 with (first | ((with_reducible refine gate_callee (f := 66) rfl ?_); refine goesL_ (some 58) rfl rfl Try.func66 (by kernel_rfl) rfl #[.slice A272_0 (rd_L2 t269 x32_2).length c272_0] rfl rs_ ?_; (with_reducible refine (spec_l1Own.calls _ _ (rd_L2 t269 x32_2) t289 _ ?side1 ?side2 A41.out).mono ?_); (case side1 => exact cs_ ((Kd.V_reads' (Kd.pV HL272_0.out)).2.2)); (case side2 => exact HC272_0.out); rintro e w45 ⟨v290, rfl, ho0, hb⟩; refine ⟨_, rfl, ?_⟩; have n0_ := ak_ (Kd.N_elder' (Kd.pN HO_7.out) (Kd.R_base ho0) hb); have n1_ := ak_ (Kd.N_elder' (Kd.pN HO_8.out) (Kd.R_base ho0) hb); have n2_ := ak_ (Kd.N_elder' (Kd.pN HO_30.out) (Kd.R_base ho0) hb); have n3_ := ak_ (Kd.V_elder' (Kd.pV HO_51.out) (Kd.R_base ho0) hb); have mn3_ := ak_ (Kd.V_elder' (Kd.pV HL272_0.out) (Kd.R_base ho0) hb); have n4_ := ak_ (Kd.V_elder' (Kd.pV HL288_0.out) (Kd.R_base ho0) hb); have n5_ := ak_ (Kd.R_lower (Kd.R_newM (M := fun k_ => (w.heap.size ≤ k_)) ho0 (bz_ bl_) (fun k_ h_ => h_)) (bz_ bl_)); have n6_ := ak_ (blk_below (pk BK264.out) hb); have n7_ := ak_ (blk_below (pk BK265.out) hb); have n8_ := ak_ (Kd.C_below (by repeat (first | (with_reducible exact HR288_0.out) | (with_reducible refine Kd.C_alloc ?_ _) | (with_reducible refine Kd.C_drewN ?_ _) | (with_reducible refine Kd.C_drew ?_) | exact HR288_0.out)) hb); have n9_ := ak_ (bs_ bl_ hb); clear HO_7; clear HO_8; clear HO_30; clear HO_51; clear HL288_0; clear BK264; clear BK265; clear HR288_0; clear HB; have HO_7 := n0_; have HO_8 := n1_; have HO_30 := n2_; clear HL272_0; have HL272_0 := mn3_; clear mn3_; have HO_51 := n3_; have HL288_0 := n4_; have HO291 := n5_; have BK264 := n6_; have BK265 := n7_; have HR288_0 := n8_; have HB := n9_; clear n0_ n1_ n2_ n3_ n4_ n5_ n6_ n7_ n8_ n9_; (try clear hb); (try clear hb2); (try clear hk); (try clear hi); (try clear ho0)) | ((with_reducible refine gate_callee (f := 66) rfl ?_); refine goesL_ (some 60) rfl rfl Try.func66 (by kernel_rfl) rfl #[.slice A288_0 (rd_L2 y283 x53_3).length c288_0] rfl rs_ ?_; (with_reducible refine (spec_l1Own.calls _ _ (rd_L2 y283 x53_3) t292 _ ?side1 ?side2 A42.out).mono ?_); (case side1 => repeat (first | exact (by repeat (first | (with_reducible exact HR288_0.out) | (with_reducible refine Kd.C_alloc ?_ _) | (with_reducible refine Kd.C_drewN ?_ _) | (with_reducible refine Kd.C_drew ?_) | exact HR288_0.out)) | (with_reducible refine Kd.C_alloc ?_ _) | (with_reducible refine Kd.C_drewN ?_ _) | (with_reducible refine Kd.C_drew ?_))); (case side2 => exact HC288_0.out); rintro e w46 ⟨v293, rfl, ho0, hb⟩; refine ⟨_, rfl, ?_⟩; have n0_ := ak_ (Kd.N_elder' (Kd.pN HO_7.out) (Kd.R_base ho0) hb); have n1_ := ak_ (Kd.N_elder' (Kd.pN HO_8.out) (Kd.R_base ho0) hb); have n2_ := ak_ (Kd.N_elder' (Kd.pN HO_30.out) (Kd.R_base ho0) hb); have n3_ := ak_ (Kd.V_elder' (Kd.pV HO_51.out) (Kd.R_base ho0) hb); have mn3_ := ak_ (Kd.V_elder' (Kd.pV HL272_0.out) (Kd.R_base ho0) hb); have n4_ := ak_ (Kd.V_elder' (Kd.pV HL288_0.out) (Kd.R_base ho0) hb); have n5_ := ak_ (Kd.R_elder' (Kd.pR HO291.out) (Kd.R_base ho0) hb); have n6_ := ak_ (Kd.R_lower (Kd.R_new' (Kd.R_newM (M := fun k_ => (w.heap.size ≤ k_)) ho0 (bz_ bl_) (fun k_ h_ => h_)) (Kd.R_lt (Kd.pR HO291.out))) (bz_ bl_)); have n7_ := ak_ (blk_below (pk BK264.out) hb); have n8_ := ak_ (blk_below (pk BK265.out) hb); have n9_ := ak_ (Kd.C_below (by repeat (first | (with_reducible exact HR288_0.out) | (with_reducible refine Kd.C_alloc ?_ _) | (with_reducible refine Kd.C_drewN ?_ _) | (with_reducible refine Kd.C_drew ?_) | exact HR288_0.out)) hb); have n10_ := ak_ (bs_ bl_ hb); clear HO_7; clear HO_8; clear HO_30; clear HO_51; clear HL288_0; clear HO291; clear BK264; clear BK265; clear HR288_0; clear HB; have HO_7 := n0_; have HO_8 := n1_; have HO_30 := n2_; clear HL272_0; have HL272_0 := mn3_; clear mn3_; have HO_51 := n3_; have HL288_0 := n4_; have HO291 := n5_; have HO294 := n6_; have BK264 := n7_; have BK265 := n8_; have HR288_0 := n9_; have HB := n10_; clear n0_ n1_ n2_ n3_ n4_ n5_ n6_ n7_ n8_ n9_ n10_; (try clear hb); (try clear hb2); (try clear hk); (try clear hi); (try clear ho0); obtain ⟨Ao47, co47, eo47⟩ := Kd.R_slice HO291.out; subst eo47; obtain ⟨Ao48, co48, eo48⟩ := Kd.R_slice HO294.out; subst eo48) | ((with_reducible refine gate_dst (N := 61) rfl ?_); refine Kd.N_lit (Kd.slice 3 (Kd.int .i64)) _ 22 ?hg (N' := 61) ?hd (xs := ([t289, t292] : List (List Int))) (inner := [.slice Ao47 t289.length co47, .slice Ao48 t292.length co48]) (ok := (fun k_ => (w.heap.size ≤ k_) ∧ some k_ ≠ (.slice (some ad272) t269.length co15 : Value).ownBlock ∧ some k_ ≠ (u8 : Value).ownBlock ∧ some k_ ≠ (.slice (some ad272) t269.length co15 : Value).ownBlock ∧ k_ ≠ gb264 ∧ k_ ≠ gb265)) (okp := (fun k_ => (w.heap.size ≤ k_) ∧ some k_ ≠ (.slice (some ad272) t269.length co15 : Value).ownBlock ∧ some k_ ≠ (u8 : Value).ownBlock ∧ some k_ ≠ (.slice (some ad272) t269.length co15 : Value).ownBlock ∧ k_ ≠ gb264 ∧ k_ ≠ gb265)) ?hr ?hp (fun _ hk => hk) ((show ∀ k_, w46.heap.size ≤ k_ → (fun k_ => (w.heap.size ≤ k_) ∧ some k_ ≠ (.slice (some ad272) t269.length co15 : Value).ownBlock ∧ some k_ ≠ (u8 : Value).ownBlock ∧ some k_ ≠ (.slice (some ad272) t269.length co15 : Value).ownBlock ∧ k_ ≠ gb264 ∧ k_ ≠ gb265) k_ from fun k_ hk => ⟨(Nat.le_trans (bz_ bl_) hk), Kd.fresh' (Kd.N_lt (Kd.pN HO_7.out)) k_ hk, Kd.fresh' (Kd.N_lt (Kd.pN HO_8.out)) k_ hk, Kd.fresh' (Kd.N_lt (Kd.pN HO_30.out)) k_ hk, Kd.freshB (pk BK264.out) k_ hk, Kd.freshB (pk BK265.out) k_ hk⟩) _ (Nat.le_refl _)) (Below.refl _ _) (Nat.le_refl _) (by simp) ?_; (case hd => rfl); (case hg => rfl); (case hr => go_simp <;> rfl); (case hp => exact (Reps.one (show Kd.FK (Kd.slice 3 (Kd.int .i64)) _ _ t289 [.slice Ao47 t289.length co47] from (Kd.FK_slice_mk (Kd.R_reads' (Kd.R_mono (ok' := (fun k_ => (w.heap.size ≤ k_) ∧ some k_ ≠ (.slice (some ad272) t269.length co15 : Value).ownBlock ∧ some k_ ≠ (u8 : Value).ownBlock ∧ some k_ ≠ (.slice (some ad272) t269.length co15 : Value).ownBlock ∧ k_ ≠ gb264 ∧ k_ ≠ gb265)) (Kd.R_types (Kd.R_types (Kd.R_apart' (Kd.R_apart' (Kd.R_apart' (HO291.out) (Kd.N_typed HO_7.out) (by decide)) (Kd.N_typed HO_8.out) (by decide)) (Kd.N_typed HO_30.out) (by decide)) BK264.out (by decide)) BK265.out (by decide)) (fun k_ hk => ⟨hk.1.1.1.1.1.1.1, ⟨hk.1.1.1.1.2, ⟨hk.1.1.1.2, ⟨hk.1.1.2, ⟨hk.1.2, hk.2⟩⟩⟩⟩⟩))).2.1 (Kd.R_F (Kd.R_mono (ok' := (fun k_ => (w.heap.size ≤ k_) ∧ some k_ ≠ (.slice (some ad272) t269.length co15 : Value).ownBlock ∧ some k_ ≠ (u8 : Value).ownBlock ∧ some k_ ≠ (.slice (some ad272) t269.length co15 : Value).ownBlock ∧ k_ ≠ gb264 ∧ k_ ≠ gb265)) (Kd.R_types (Kd.R_types (Kd.R_apart' (Kd.R_apart' (Kd.R_apart' (HO291.out) (Kd.N_typed HO_7.out) (by decide)) (Kd.N_typed HO_8.out) (by decide)) (Kd.N_typed HO_30.out) (by decide)) BK264.out (by decide)) BK265.out (by decide)) (fun k_ hk => ⟨hk.1.1.1.1.1.1.1, ⟨hk.1.1.1.1.2, ⟨hk.1.1.1.2, ⟨hk.1.1.2, ⟨hk.1.2, hk.2⟩⟩⟩⟩⟩))))) (Reps.one (show Kd.FK (Kd.slice 3 (Kd.int .i64)) _ _ t292 [.slice Ao48 t292.length co48] from (Kd.FK_slice_mk (Kd.R_reads' (Kd.R_mono (ok' := (fun k_ => (w.heap.size ≤ k_) ∧ some k_ ≠ (.slice (some ad272) t269.length co15 : Value).ownBlock ∧ some k_ ≠ (u8 : Value).ownBlock ∧ some k_ ≠ (.slice (some ad272) t269.length co15 : Value).ownBlock ∧ k_ ≠ gb264 ∧ k_ ≠ gb265)) (Kd.R_types (Kd.R_types (Kd.R_apart' (Kd.R_apart' (Kd.R_apart' (HO294.out) (Kd.N_typed HO_7.out) (by decide)) (Kd.N_typed HO_8.out) (by decide)) (Kd.N_typed HO_30.out) (by decide)) BK264.out (by decide)) BK265.out (by decide)) (fun k_ hk => ⟨hk.1.1.1.1.1.1.1, ⟨hk.1.1.1.1.2, ⟨hk.1.1.1.2, ⟨hk.1.1.2, ⟨hk.1.2, hk.2⟩⟩⟩⟩⟩))).2.1 (Kd.R_F (Kd.R_mono (ok' := (fun k_ => (w.heap.size ≤ k_) ∧ some k_ ≠ (.slice (some ad272) t269.length co15 : Value).ownBlock ∧ some k_ ≠ (u8 : Value).ownBlock ∧ some k_ ≠ (.slice (some ad272) t269.length co15 : Value).ownBlock ∧ k_ ≠ gb264 ∧ k_ ≠ gb265)) (Kd.R_types (Kd.R_types (Kd.R_apart' (Kd.R_apart' (Kd.R_apart' (HO294.out) (Kd.N_typed HO_7.out) (by decide)) (Kd.N_typed HO_8.out) (by decide)) (Kd.N_typed HO_30.out) (by decide)) BK264.out (by decide)) BK265.out (by decide)) (fun k_ hk => ⟨hk.1.1.1.1.1.1.1, ⟨hk.1.1.1.1.2, ⟨hk.1.1.1.2, ⟨hk.1.1.2, ⟨hk.1.2, hk.2⟩⟩⟩⟩⟩))))) (Reps.none _ _)))); intro v296 w49 ho50 hb hg_ hnew_; clear hg_ hnew_; (first | rw [← Ny295.out] at ho50 | (simp only [Int.reduceToNat] at ho50; rw [← Ny295.out] at ho50)); have n0_ := ak_ (Kd.N_elder' (Kd.pN HO_7.out) (Kd.N_base ho50) hb); have n1_ := ak_ (Kd.N_elder' (Kd.pN HO_8.out) (Kd.N_base ho50) hb); have n2_ := ak_ (Kd.N_elder' (Kd.pN HO_30.out) (Kd.N_base ho50) hb); have n3_ := ak_ (Kd.V_elder' (Kd.pV HO_51.out) (Kd.N_base ho50) hb); have mn3_ := ak_ (Kd.V_elder' (Kd.pV HL272_0.out) (Kd.N_base ho50) hb); have n4_ := ak_ (Kd.V_elder' (Kd.pV HL288_0.out) (Kd.N_base ho50) hb); have n5_ := ak_ (Kd.N_lower ho50 (bz_ bl_)); have n6_ := ak_ (blk_below (pk BK264.out) hb); have n7_ := ak_ (blk_below (pk BK265.out) hb); have n8_ := ak_ (Kd.C_below (by repeat (first | (with_reducible exact HR288_0.out) | (with_reducible refine Kd.C_alloc ?_ _) | (with_reducible refine Kd.C_drewN ?_ _) | (with_reducible refine Kd.C_drew ?_) | exact HR288_0.out)) hb); have n9_ := ak_ (bs_ bl_ hb); clear HO_7; clear HO_8; clear HO_30; clear HO_51; clear HL288_0; clear BK264; clear BK265; clear HR288_0; clear HB; clear HO291; clear HO294; have HO_7 := n0_; have HO_8 := n1_; have HO_30 := n2_; clear HL272_0; have HL272_0 := mn3_; clear mn3_; have HO_51 := n3_; have HL288_0 := n4_; have HO297 := n5_; have BK264 := n6_; have BK265 := n7_; have HR288_0 := n8_; have HB := n9_; clear n0_ n1_ n2_ n3_ n4_ n5_ n6_ n7_ n8_ n9_; clear hb ho50; have hnb51 := NB264_265.out; have hnc51 := NB265_264.out; obtain ⟨hcz52_0, hcz52_1, hcz52_2, hfz52_0, hfz52_1, hfz52_2⟩ := c3_ BK264.out; obtain ⟨hcz53_0, hcz53_1, hfz53_0, hfz53_1⟩ := c2_ BK265.out; obtain ⟨Ao54, co54, eo54⟩ := Kd.N_slice HO297.out; subst eo54) | ((with_reducible refine gate_callee (f := 67) rfl ?_); refine goesL_ (some 65) rfl rfl Try.func67 (by kernel_rfl) rfl #[.agg #[.slice A0_0 l0_0.length c0_0, .int .i64 a0_1, .int .i64 a0_2], .agg #[.slice A1_0 l1_0.length c1_0, .int .i64 a1_1], .slice Ao54 y295.length co54] rfl rs_ ?_; (with_reducible refine (spec_toCan.calls k3 _ _ l0_0 a0_1 a0_2 _ _ l1_0 a1_1 _ _ y295 t298 _ ?side1 ?side2 ?side3 ?side4 ?side5 ?side6 A43.out).mono ?_); (case side1 => exact cs_ (Kd.C_below HR0_0.out HB.out)); (case side2 => exact HC0_0.out); (case side3 => exact cs_ (Kd.C_below HR1_0.out HB.out)); (case side4 => exact HC1_0.out); (case side5 => exact cs_ ((Kd.N_reads' HO297.out).2.2)); (case side6 => exact (Kd.N_reads' HO297.out).2.1); rintro e w55 ⟨rfl, hb⟩; refine ⟨_, rfl, ?_⟩; have n0_ := ak_ (Kd.N_below (Kd.pN HO_7.out) hb); have n1_ := ak_ (Kd.N_below (Kd.pN HO_8.out) hb); have n2_ := ak_ (Kd.N_below (Kd.pN HO_30.out) hb); have n3_ := ak_ (Kd.V_below (Kd.pV HO_51.out) hb); have mn3_ := ak_ (Kd.V_below (Kd.pV HL272_0.out) hb); have n4_ := ak_ (Kd.V_below (Kd.pV HL288_0.out) hb); have n5_ := ak_ (Kd.N_below (Kd.pN HO297.out) hb); have n6_ := ak_ (blk_below (pk BK264.out) hb); have n7_ := ak_ (blk_below (pk BK265.out) hb); have n8_ := ak_ (Kd.C_below (by repeat (first | (with_reducible exact HR288_0.out) | (with_reducible refine Kd.C_alloc ?_ _) | (with_reducible refine Kd.C_drewN ?_ _) | (with_reducible refine Kd.C_drew ?_) | exact HR288_0.out)) hb); have n9_ := ak_ (bs_ bl_ hb); clear HO_7; clear HO_8; clear HO_30; clear HO_51; clear HL288_0; clear HO297; clear BK264; clear BK265; clear HR288_0; clear HB; have HO_7 := n0_; have HO_8 := n1_; have HO_30 := n2_; clear HL272_0; have HL272_0 := mn3_; clear mn3_; have HO_51 := n3_; have HL288_0 := n4_; have HO297 := n5_; have BK264 := n6_; have BK265 := n7_; have HR288_0 := n8_; have HB := n9_; clear n0_ n1_ n2_ n3_ n4_ n5_ n6_ n7_ n8_ n9_; (try clear hb); (try clear hb2); (try clear hk); (try clear hi)))
                  (try simp only [Act.put, setIfInBounds_toArray, set_cons_zero, set_cons_succ])
                  have H := HC44.out
                  clear HC44
                  by_cases c56 : t298 = true
                  ·
                   subst c56
                   have H1 : (if x8_3.length < 5864062014805 then (spec_toRounds.l2 k3 t269 (x8_3 ++ [y295]) (rd_L2 t269 x32_2) t269 (t269.length : Int) x32_2 y283 (y283.length : Int) (wrap64 (x53_3 + 1)) l0_0 a0_1 a0_2 l1_0 a1_1) else (none)) = some r := by rw [if_pos rfl] at H; exact H
                   clear H
                   have H := H1
                   clear H1
                   by_cases c57 : x8_3.length < 5864062014805
                   ·
                    rw [if_pos c57] at H
                    have LMc57 := ak_ c57
                    clear c57
                    obtain ⟨y299, hy299⟩ : ∃ y_ : List (List (List Int)), y_ = (x8_3 ++ [y295]) := ⟨_, rfl⟩
                    replace H : (spec_toRounds.l2 k3 t269 y299 (rd_L2 t269 x32_2) t269 (t269.length : Int) x32_2 y283 (y283.length : Int) (wrap64 (x53_3 + 1)) l0_0 a0_1 a0_2 l1_0 a1_1) = some r := by first | (rw [hy299]; exact H) | exact H
                    have Ny299 := ak_ hy299
                    clear hy299
                    have H' := ak_ H
                    clear H
                    go_wp2_with (first | ((with_reducible refine gate_builtin (b := .append) (xs := #[.tmp 66, .tmp 68]) rfl ?_); at_builtin; refine Kd.N_append (Kd.slice 22 (Kd.slice 3 (Kd.int .i64))) (w0 := w) w.heap.size rfl (.tmp 66) (.tmp 68) 30 57 (.slice none 0 0) 24 rfl Try.underlying30 info57 rfl (by decide) (by omega) u8 x8_3 y295 [.slice Ao54 y295.length co54] (fun k_ => (w.heap.size ≤ k_) ∧ some k_ ≠ (.slice (some ad272) t269.length co15 : Value).ownBlock ∧ some k_ ≠ (.slice (some ad272) t269.length co15 : Value).ownBlock ∧ k_ ≠ gb264 ∧ k_ ≠ gb265) (fun k_ => ((fun k_ => (w.heap.size ≤ k_) ∧ some k_ ≠ (.slice (some ad272) t269.length co15 : Value).ownBlock ∧ some k_ ≠ (.slice (some ad272) t269.length co15 : Value).ownBlock ∧ k_ ≠ gb264 ∧ k_ ≠ gb265)) k_ ∧ some k_ ≠ (u8 : Value).ownBlock) rfl rfl ?aP (fun _ hk => hk) ?aF ?aO ?aB ?aS ?aL ?_; (case aP => exact (Kd.FK_slice_mk (Kd.N_reads' (Kd.N_mono (ok' := (fun k_ => ((fun k_ => (w.heap.size ≤ k_) ∧ some k_ ≠ (.slice (some ad272) t269.length co15 : Value).ownBlock ∧ some k_ ≠ (.slice (some ad272) t269.length co15 : Value).ownBlock ∧ k_ ≠ gb264 ∧ k_ ≠ gb265)) k_ ∧ some k_ ≠ (u8 : Value).ownBlock)) (HO297.out) (fun k_ hk => ⟨⟨hk.1, ⟨hk.2.1, ⟨hk.2.2.2.1, ⟨hk.2.2.2.2.1, hk.2.2.2.2.2⟩⟩⟩⟩, hk.2.2.1⟩))).2.1 (Kd.N_F (Kd.N_mono (ok' := (fun k_ => ((fun k_ => (w.heap.size ≤ k_) ∧ some k_ ≠ (.slice (some ad272) t269.length co15 : Value).ownBlock ∧ some k_ ≠ (.slice (some ad272) t269.length co15 : Value).ownBlock ∧ k_ ≠ gb264 ∧ k_ ≠ gb265)) k_ ∧ some k_ ≠ (u8 : Value).ownBlock)) (HO297.out) (fun k_ hk => ⟨⟨hk.1, ⟨hk.2.1, ⟨hk.2.2.2.1, ⟨hk.2.2.2.2.1, hk.2.2.2.2.2⟩⟩⟩⟩, hk.2.2.1⟩))))); (case aB => exact bl_); (case aF => exact (fun k_ hk => ⟨(Nat.le_trans (bz_ bl_) hk), Kd.fresh' (Kd.N_lt (Kd.pN HO_7.out)) k_ hk, Kd.fresh' (Kd.N_lt (Kd.pN HO_30.out)) k_ hk, Kd.freshB (pk BK264.out) k_ hk, Kd.freshB (pk BK265.out) k_ hk⟩)); (case aO => exact (by (with_reducible repeat (first | apply Kd.N_alloc | apply Kd.N_drewN | apply Kd.N_drew)); exact Kd.N_mono HO_8.out (fun _ hk => ⟨hk.1.1.1.1, ⟨hk.1.1.1.2.1, ⟨hk.1.1.1.2.2.1, ⟨hk.1.1.1.2.2.2.1, hk.1.1.1.2.2.2.2⟩⟩⟩⟩))); (case aS => exact (bz_ bl_)); (case aL => have := LMc57.out; omega); intro v300 w58 ho hb hg hat; rw [← Ny299.out] at ho; have n0_ := ak_ (Kd.N_afterv (ok := (fun k_ => (w.heap.size ≤ k_) ∧ some k_ ≠ (.slice Ao54 y295.length co54 : Value).ownBlock ∧ k_ ≠ gb264 ∧ k_ ≠ gb265)) (by (with_reducible repeat (first | apply Kd.N_alloc | apply Kd.N_drewN | apply Kd.N_drew)); exact Kd.N_mono HO_7.out (fun _ hk => ⟨⟨hk.1.1.1.1, ⟨hk.2, ⟨hk.1.1.1.2.2.1, hk.1.1.1.2.2.2⟩⟩⟩, hk.1.1.1.2.1⟩)) hg hat); have n1_ := ak_ (Kd.N_afterv (ok := (fun k_ => (w.heap.size ≤ k_) ∧ some k_ ≠ (.slice Ao54 y295.length co54 : Value).ownBlock ∧ k_ ≠ gb264 ∧ k_ ≠ gb265)) (by (with_reducible repeat (first | apply Kd.N_alloc | apply Kd.N_drewN | apply Kd.N_drew)); exact Kd.N_mono HO_30.out (fun _ hk => ⟨⟨hk.1.1.1.1, ⟨hk.2, ⟨hk.1.1.1.2.2.1, hk.1.1.1.2.2.2⟩⟩⟩, hk.1.1.1.2.1⟩)) hg hat); have n2_ := ak_ (Kd.V_afterv (ok := (fun k_ => (w.heap.size ≤ k_) ∧ some k_ ≠ (.slice Ao54 y295.length co54 : Value).ownBlock ∧ k_ ≠ gb264 ∧ k_ ≠ gb265)) (by (with_reducible repeat (first | apply Kd.V_alloc | apply Kd.V_drewN | apply Kd.V_drew)); exact Kd.V_mono HO_51.out (fun _ hk => ⟨⟨hk.1.1.1.1, ⟨hk.2, ⟨hk.1.1.1.2.2.1, hk.1.1.1.2.2.2⟩⟩⟩, hk.1.1.1.2.1⟩)) hg hat); have mn2_ := ak_ (Kd.V_afterv (ok := (fun k_ => (w.heap.size ≤ k_) ∧ some k_ ≠ (.slice Ao54 y295.length co54 : Value).ownBlock ∧ k_ ≠ gb264 ∧ k_ ≠ gb265)) (by (with_reducible repeat (first | apply Kd.V_alloc | apply Kd.V_drewN | apply Kd.V_drew)); exact Kd.V_mono HL272_0.out (fun _ hk => ⟨⟨hk.1.1.1.1, ⟨hk.2, ⟨hk.1.1.1.2.2.1, hk.1.1.1.2.2.2⟩⟩⟩, hk.1.1.1.2.1⟩)) hg hat); have n3_ := ak_ (blk_grown (pk BK264.out) hg (Kd.N_ne HO_8.out BK264.out (by decide))); have n4_ := ak_ (blk_grown (pk BK265.out) hg (Kd.N_ne HO_8.out BK265.out (by decide))); have n5_ := ak_ (Kd.V_afterv (ok := (fun k_ => (w.heap.size ≤ k_) ∧ some k_ ≠ (.slice Ao54 y295.length co54 : Value).ownBlock ∧ k_ ≠ gb264 ∧ k_ ≠ gb265)) (by (with_reducible repeat (first | apply Kd.V_alloc | apply Kd.V_drewN | apply Kd.V_drew)); exact Kd.V_mono HL288_0.out (fun _ hk => ⟨⟨hk.1.1.1.1, ⟨hk.2, ⟨hk.1.1.1.2.2.1, hk.1.1.1.2.2.2⟩⟩⟩, hk.1.1.1.2.1⟩)) hg hat); have n6_ := ak_ (hb); have n7_ := ak_ (ho); clear HO_7; clear HO_30; clear HO_51; clear BK264; clear BK265; clear HL288_0; clear HB; clear HO_8; clear HO297; have HO_7 := n0_; have HO_30 := n1_; clear HL272_0; have HL272_0 := mn2_; clear mn2_; have HO_51 := n2_; have BK264 := n3_; have BK265 := n4_; have HL288_0 := n5_; have HB := n6_; have HO301 := n7_; clear n0_ n1_ n2_ n3_ n4_ n5_ n6_ n7_; clear ho hb hg hat))
                    go_roundg k3
                    case measure => have := HK1.out; have := HK2.out; have := HK3.out; omega
                    case rel => exact ⟨(y299), (wrap64 (x53_3 + 1)), (ry_), H', ⟨by have := HK1.out; have := HK2.out; have := HK3.out; omega⟩, ⟨by (with_reducible repeat (first | apply Kd.N_alloc | apply Kd.N_drewN | apply Kd.N_drew)); exact Kd.N_mono HO_7.out (fun _ hk => ⟨hk.1.1, ⟨hk.2, ⟨hk.1.2.2.1, hk.1.2.2.2⟩⟩⟩)⟩, ⟨Kd.pN HO301.out⟩, ⟨by (with_reducible repeat (first | apply Kd.N_alloc | apply Kd.N_drewN | apply Kd.N_drew)); exact Kd.N_mono HO_30.out (fun _ hk => ⟨hk.1.1, ⟨hk.2, ⟨hk.1.2.2.1, hk.1.2.2.2⟩⟩⟩)⟩, ⟨by (with_reducible repeat (first | apply Kd.V_alloc | apply Kd.V_drewN | apply Kd.V_drew)); exact Kd.V_mono HO_51.out (fun _ hk => ⟨hk.1.1, ⟨hk.2, ⟨hk.1.2.2.1, hk.1.2.2.2⟩⟩⟩)⟩, ⟨pk BK264.out⟩, ⟨pk BK265.out⟩, ⟨bl_⟩, ⟨by (with_reducible repeat (first | apply Kd.V_alloc | apply Kd.V_drewN | apply Kd.V_drew)); exact Kd.V_mono HL272_0.out (fun _ hk => ⟨hk.1.1, ⟨hk.2, ⟨hk.1.2.2.1, hk.1.2.2.2⟩⟩⟩)⟩⟩
                   ·
                    rw [if_neg c57] at H
                    exact absurd H (by simp)
                  ·
                   replace c56 := Bool.eq_false_iff.mpr c56
                   subst c56
                   have H1 : (spec_toRounds.l2 k3 t269 x8_3 (rd_L2 t269 x32_2) t269 (t269.length : Int) x32_2 y283 (y283.length : Int) (wrap64 (x53_3 + 1)) l0_0 a0_1 a0_2 l1_0 a1_1) = some r := by rw [if_neg (show ¬ (false = true) by decide)] at H; exact H
                   clear H
                   have H := H1
                   clear H1
                   have H' := ak_ H
                   clear H
                   go_wp2
                   go_roundg k3
                   case measure => have := HK1.out; have := HK2.out; have := HK3.out; omega
                   case rel => exact ⟨(x8_3), (wrap64 (x53_3 + 1)), (ry_), H', ⟨by have := HK1.out; have := HK2.out; have := HK3.out; omega⟩, ⟨by (with_reducible repeat (first | apply Kd.N_alloc | apply Kd.N_drewN | apply Kd.N_drew)); exact Kd.N_mono HO_7.out (fun _ hk => ⟨hk.1.1.1.1, ⟨hk.1.1.1.2.1, ⟨hk.1.1.1.2.2.1, hk.1.1.1.2.2.2⟩⟩⟩)⟩, ⟨by (with_reducible repeat (first | apply Kd.N_alloc | apply Kd.N_drewN | apply Kd.N_drew)); exact Kd.N_mono HO_8.out (fun _ hk => ⟨hk.1.1.1.1, ⟨hk.1.1.1.2.1, ⟨hk.1.1.1.2.2.1, ⟨hk.1.1.1.2.2.2.1, hk.1.1.1.2.2.2.2⟩⟩⟩⟩)⟩, ⟨by (with_reducible repeat (first | apply Kd.N_alloc | apply Kd.N_drewN | apply Kd.N_drew)); exact Kd.N_mono HO_30.out (fun _ hk => ⟨hk.1.1.1.1, ⟨hk.1.1.1.2.1, ⟨hk.1.1.1.2.2.1, hk.1.1.1.2.2.2⟩⟩⟩)⟩, ⟨by (with_reducible repeat (first | apply Kd.V_alloc | apply Kd.V_drewN | apply Kd.V_drew)); exact Kd.V_mono HO_51.out (fun _ hk => ⟨hk.1.1.1.1, ⟨hk.1.1.1.2.1, ⟨hk.1.1.1.2.2.1, hk.1.1.1.2.2.2⟩⟩⟩)⟩, ⟨pk BK264.out⟩, ⟨pk BK265.out⟩, ⟨bl_⟩, ⟨by (with_reducible repeat (first | apply Kd.V_alloc | apply Kd.V_drewN | apply Kd.V_drew)); exact Kd.V_mono HL272_0.out (fun _ hk => ⟨hk.1.1.1.1, ⟨hk.1.1.1.2.1, ⟨hk.1.1.1.2.2.1, hk.1.1.1.2.2.2⟩⟩⟩)⟩⟩
                 ·
                  rw [if_neg c40] at H
                  exact absurd H (by simp)
                ·
                 rw [if_neg c39] at H
                 exact absurd H (by simp)
               ·
                rw [if_neg c38] at H
                have c38b0 := decide_eq_false c38
                clear c38
                (first | rw [c38b0] | (simp only [i64_w, i32_w]; rw [c38b0]) | rw [c38b1] | skip)
                have H' := ak_ H
                clear H
                go_wp2
                go_roundg k3
                case measure => have := HK1.out; have := HK2.out; have := HK3.out; omega
                case rel => exact ⟨(x8_3), (wrap64 (x32_2 + 1)), (ry_), H', ⟨by have := HK1.out; have := HK2.out; have := HK3.out; omega⟩, ⟨Kd.pN HO_7.out⟩, ⟨Kd.pN HO_8.out⟩, ⟨Kd.pN HO_30.out⟩, ⟨pk BK264.out⟩, ⟨pk BK265.out⟩, ⟨bl_⟩⟩
            ·
             rw [if_neg c35] at H
             exact absurd H (by simp)
           ·
            rw [if_neg c34] at H
            exact absurd H (by simp)
          ·
           rw [if_neg c32] at H
           exact absurd H (by simp)
         ·
          replace c31 := Bool.eq_false_iff.mpr c31
          subst c31
          have H1 : (if 0 ≤ (wrap64 (x32_2 + 1)) then (if (wrap64 (x32_2 + 1)) ≤ (t269.length : Int) then ((some (t269.drop ((wrap64 (x32_2 + 1)) : Int).toNat : List (List Int))).bind fun y302 => (spec_toRounds.l2 k2 t269 x8_2 (rd_L2 t269 x32_2) t269 (t269.length : Int) x32_2 y302 (y302.length : Int) 0 l0_0 a0_1 a0_2 l1_0 a1_1)) else (none)) else (none)) = some r := by rw [if_neg (show ¬ (false = true) by decide)] at H; exact H
          clear H
          have H := H1
          clear H1
          obtain ⟨ji59, hji59⟩ : ∃ j_ : Int, (wrap64 (x32_2 + 1)) = j_ := ⟨_, rfl⟩
          replace H : (if 0 ≤ (ji59) then (if (ji59) ≤ (t269.length : Int) then ((some (t269.drop ((ji59) : Int).toNat : List (List Int))).bind fun y302 => (spec_toRounds.l2 k2 t269 x8_2 (rd_L2 t269 x32_2) t269 (t269.length : Int) x32_2 y302 (y302.length : Int) 0 l0_0 a0_1 a0_2 l1_0 a1_1)) else (none)) else (none)) = some r := by first | (rw [hji59] at H; exact H) | (simp only [hji59] at H ⊢; exact H)
          have hji59w : (IntKind.i64.wrap (x32_2 + 1)) = ji59 := (i64_w _).trans hji59
          by_cases c60 : 0 ≤ (ji59)
          ·
           rw [if_pos c60] at H
           have c60b0 := eq_true c60
           have c60b1 := decide_eq_true c60
           clear c60
           by_cases c61 : (ji59) ≤ (t269.length : Int)
           ·
            rw [if_pos c61] at H
            have c61b0 := eq_true c61
            have c61b1 := decide_eq_true c61
            clear c61
            obtain ⟨y302, hy302⟩ : ∃ y_ : List (List Int), y_ = (t269.drop ((ji59) : Int).toNat) := ⟨_, rfl⟩
            replace H : (spec_toRounds.l2 k2 t269 x8_2 (rd_L2 t269 x32_2) t269 (t269.length : Int) x32_2 y302 (y302.length : Int) 0 l0_0 a0_1 a0_2 l1_0 a1_1) = some r := by first | (rw [hy302]; exact H) | exact H
            have Ny302 := ak_ hy302
            clear hy302
            have H' := ak_ H
            clear H
            have q62 : ((ji59) : Int) ≤ ((t269.length : Int) : Int) := od_
            obtain ⟨i062, hi062, _, hsz62, _⟩ := info_parts info22
            have hroom62 : t269.length ≤ co15 := (Kd.N_reads' HO_7.out).2.1
            have hC62 : Kd.F (Kd.slice 3 (Kd.int .i64)) _ _ (some ad272) t269.length t269 := (Kd.V_at (base := w.heap.size) (Kd.N_V HO_7.out)).2.2
            have q062 : (0 : Int) ≤ ((ji59) : Int) := od_
            have hcut62 := cut_from (P := Try.prog) 57 22 .i64 Try.underlying57 hi062 1 hsz62 (some ad272) t269.length co15 (ji59) q062 q62
            have hr62 := Kd.F_cut (m := ((ji59) : Int).toNat) (c := co15) hC62 (by omega) hroom62
            obtain ⟨A62, hA62⟩ : ∃ A1, A1 = (if co15 = ((ji59) : Int).toNat then (some ad272) else ((some ad272) : Option Addr).map (·.add (((ji59) : Int).toNat * 1))) := ⟨_, rfl⟩
            obtain ⟨c62, hc62⟩ : ∃ c1, c1 = co15 - ((ji59) : Int).toNat := ⟨_, rfl⟩
            have hy62 : y302.length = t269.length - ((ji59) : Int).toNat := (by rw [Ny302.out, List.length_drop] <;> omega)
            rw [show (t269).drop ((ji59) : Int).toNat = y302 from Ny302.out.symm] at hr62
            replace hr62 : Kd.F (Kd.slice 3 (Kd.int .i64)) _ _ A62 y302.length y302 := (by rw [hA62]; exact hr62)
            rw [← hy62, ← hA62, ← hc62] at hcut62
            have HO306 := ak_ (show Kd.V (Kd.slice 3 (Kd.int .i64)) 22 _ w.heap.size _ (.slice A62 y302.length c62) y302 from Kd.V_mk (by rw [hy62, hc62]; exact Nat.sub_le_sub_right hroom62 _) hr62)
            have HC306 := ak_ (show y302.length ≤ c62 from by rw [hy62, hc62]; exact Nat.sub_le_sub_right hroom62 _)
            clear hr62 hC62 hroom62 hi062 hsz62 hc62
            have KY62 := ak_ hy62
            have KA62 := ak_ hA62
            clear hy62 hA62
            replace q62 := eq_true q62
            go_wp2
            go_loopg [8, 53] k2 (fun kq v8 v53 w' => ∃ (x8_3 : List (List (List Int))) (x53_3 : Int), v53 = .int .i64 x53_3 ∧ Aside0 (spec_toRounds.l2 kq t269 x8_3 (rd_L2 t269 x32_2) t269 (t269.length : Int) x32_2 y302 (y302.length : Int) x53_3 l0_0 a0_1 a0_2 l1_0 a1_1 = some r) ∧ Aside0 (kq ≤ k2) ∧ Aside0 (Kd.N (Kd.slice 3 (Kd.int .i64)) 22 w' w.heap.size (fun k_ => (w.heap.size ≤ k_) ∧ some k_ ≠ (v8 : Value).ownBlock ∧ k_ ≠ gb264 ∧ k_ ≠ gb265) (.slice (some ad272) t269.length co15) t269) ∧ Aside0 (Kd.N (Kd.slice 22 (Kd.slice 3 (Kd.int .i64))) 57 w' w.heap.size (fun k_ => (w.heap.size ≤ k_) ∧ some k_ ≠ ((.slice (some ad272) t269.length co15) : Value).ownBlock ∧ some k_ ≠ ((.slice (some ad272) t269.length co15) : Value).ownBlock ∧ k_ ≠ gb264 ∧ k_ ≠ gb265) v8 x8_3) ∧ Aside0 (Kd.N (Kd.slice 3 (Kd.int .i64)) 22 w' w.heap.size (fun k_ => (w.heap.size ≤ k_) ∧ some k_ ≠ (v8 : Value).ownBlock ∧ k_ ≠ gb264 ∧ k_ ≠ gb265) (.slice (some ad272) t269.length co15) t269) ∧ Aside0 (Kd.V (Kd.slice 3 (Kd.int .i64)) 22 w' w.heap.size (fun k_ => (w.heap.size ≤ k_) ∧ some k_ ≠ (v8 : Value).ownBlock ∧ k_ ≠ gb264 ∧ k_ ≠ gb265) (.slice A62 y302.length c62) y302) ∧ Aside0 (w'.heap[gb264]? = some (.cells #[(.slice A0_0 l0_0.length c0_0), .int .i64 a0_1, .int .i64 a0_2] 33 (0, 0))) ∧ Aside0 (w'.heap[gb265]? = some (.cells #[(.slice A1_0 l1_0.length c1_0), .int .i64 a1_1] 35 (0, 0))) ∧ Aside0 (Below w.heap.size w w') ∧ Aside0 (Kd.V (Kd.int .i64) 3 w' w.heap.size (fun k_ => (w.heap.size ≤ k_) ∧ some k_ ≠ (v8 : Value).ownBlock ∧ k_ ≠ gb264 ∧ k_ ≠ gb265) (.slice A272_0 (rd_L2 t269 x32_2).length c272_0) (rd_L2 t269 x32_2)))
            case atStart => exact ⟨(x8_2), (0), (ry_), H', ⟨Nat.le_refl _⟩, ⟨by (with_reducible repeat (first | apply Kd.N_alloc | apply Kd.N_drewN | apply Kd.N_drew)); exact Kd.N_mono HO_7.out (fun _ hk => ⟨hk.1.1.1, ⟨hk.1.1.2.1, ⟨hk.1.1.2.2.1, hk.1.1.2.2.2⟩⟩⟩)⟩, ⟨by (with_reducible repeat (first | apply Kd.N_alloc | apply Kd.N_drewN | apply Kd.N_drew)); exact Kd.N_mono HO_8.out (fun _ hk => ⟨hk.1.1.1, ⟨hk.1.1.2.1, ⟨hk.1.1.2.2.1, ⟨hk.1.1.2.2.2.1, hk.1.1.2.2.2.2⟩⟩⟩⟩)⟩, ⟨by (with_reducible repeat (first | apply Kd.N_alloc | apply Kd.N_drewN | apply Kd.N_drew)); exact Kd.N_mono HO_30.out (fun _ hk => ⟨hk.1.1.1, ⟨hk.1.1.2.1, ⟨hk.1.1.2.2.1, hk.1.1.2.2.2⟩⟩⟩)⟩, ⟨by (with_reducible repeat (first | apply Kd.V_alloc | apply Kd.V_drewN | apply Kd.V_drew)); exact Kd.V_mono HO306.out (fun _ hk => ⟨hk.1.1.1, ⟨hk.1.1.2.1, ⟨hk.1.1.2.2.1, hk.1.1.2.2.2⟩⟩⟩)⟩, ⟨pk BK264.out⟩, ⟨pk BK265.out⟩, ⟨bl_⟩, ⟨by (with_reducible repeat (first | apply Kd.V_alloc | apply Kd.V_drewN | apply Kd.V_drew)); exact Kd.V_mono HL272_0.out (fun k_ hk => by revert hk; simp only [and_imp]; intros; repeat' (first | assumption | apply And.intro))⟩⟩
            case round =>
             clear H'
             try clear c1
             try clear c2
             try clear p2
             try clear q2
             try clear hx2
             try clear c3
             try clear q3
             try clear c4
             try clear c5
             try clear c6
             try clear p6
             try clear q6
             try clear c7
             try clear c7b0
             try clear c8
             try clear c11
             try clear c16
             try clear c16b0
             try clear c17
             try clear c17b0
             try clear c18
             try clear c18b0
             try clear c26
             try clear c27
             try clear p27
             try clear q27
             try clear hx27
             try clear c28
             try clear p28
             try clear q28
             try clear hx28
             try clear c31
             try clear c32
             try clear c34
             try clear c34b0
             try clear c34b1
             try clear c35
             try clear c35b0
             try clear c35b1
             try clear c37
             try clear q37
             try clear c38
             try clear c38b0
             try clear c39
             try clear c39b0
             try clear c40
             try clear c40b0
             try clear c51
             try clear c56
             try clear c57
             try clear c60
             try clear c60b0
             try clear c60b1
             try clear c61
             try clear c61b0
             try clear c61b1
             try clear c62
             try clear q62
             try clear hcz12_0
             try clear hcz12_1
             try clear hcz12_2
             try clear hcz27_0
             try clear hcz27_1
             try clear hcz27_2
             try clear hcz28_0
             try clear hcz28_1
             try clear hcz52_0
             try clear hcz52_1
             try clear hcz52_2
             try clear hcz53_0
             try clear hcz53_1
             try clear hcz6_0
             try clear hcz6_1
             try clear hcz6_2
             try clear hfz12_0
             try clear hfz12_1
             try clear hfz12_2
             try clear hfz27_0
             try clear hfz27_1
             try clear hfz27_2
             try clear hfz28_0
             try clear hfz28_1
             try clear hfz52_0
             try clear hfz52_1
             try clear hfz52_2
             try clear hfz53_0
             try clear hfz53_1
             try clear hfz6_0
             try clear hfz6_1
             try clear hfz6_2
             try clear hx272_0
             try clear hx288_0
             try clear p2
             try clear p27
             try clear p272
             try clear p288
             try clear p6
             try clear q037
             try clear q062
             try clear q2
             try clear q27
             try clear q272
             try clear q288
             try clear q3
             try clear q37
             try clear q62
             clear HL272_0 HR272_0
             obtain ⟨x8_3, x53_3, rfl, HA, HK3, HO_7, HO_8, HO_30, HO_51, BK264, BK265, HB, HL272_0⟩ := hrel
             cases gk with
             | zero => exact absurd HA.out (by simp [spec_toRounds.l2])
             | succ k3 =>
              have H := HA.out
              clear HA
              simp only [spec_toRounds.l2] at H
              by_cases c63 : x53_3 < (y302.length : Int)
              ·
               rw [if_pos c63] at H
               have c63b0 := decide_eq_true c63
               clear c63
               by_cases c64 : 0 ≤ x53_3
               ·
                rw [if_pos c64] at H
                have c64b0 := decide_eq_true c64
                clear c64
                by_cases c65 : x53_3 < (y302.length : Int)
                ·
                 rw [if_pos c65] at H
                 have c65b0 := decide_eq_true c65
                 clear c65
                 replace H := Option.bind_eq_some_iff.mp H
                 obtain ⟨t289, A660, H⟩ := H
                 replace H : ((spec_l1Own.f (rd_L2 y302 x53_3)).bind fun t292 => ((some (([t289, t292] : List (List Int)) : List (List Int))).bind fun y295 => ((spec_toCan.f k3 l0_0 a0_1 a0_2 l1_0 a1_1 y295).bind fun t298 => (if t298 = true then (if x8_3.length < 5864062014805 then (spec_toRounds.l2 k3 t269 (x8_3 ++ [y295]) (rd_L2 t269 x32_2) t269 (t269.length : Int) x32_2 y302 (y302.length : Int) (wrap64 (x53_3 + 1)) l0_0 a0_1 a0_2 l1_0 a1_1) else (none)) else (spec_toRounds.l2 k3 t269 x8_3 (rd_L2 t269 x32_2) t269 (t269.length : Int) x32_2 y302 (y302.length : Int) (wrap64 (x53_3 + 1)) l0_0 a0_1 a0_2 l1_0 a1_1))))) = some r := H
                 have A66 := ak_ A660
                 clear A660
                 replace H := Option.bind_eq_some_iff.mp H
                 obtain ⟨t292, A670, H⟩ := H
                 replace H : ((some (([t289, t292] : List (List Int)) : List (List Int))).bind fun y295 => ((spec_toCan.f k3 l0_0 a0_1 a0_2 l1_0 a1_1 y295).bind fun t298 => (if t298 = true then (if x8_3.length < 5864062014805 then (spec_toRounds.l2 k3 t269 (x8_3 ++ [y295]) (rd_L2 t269 x32_2) t269 (t269.length : Int) x32_2 y302 (y302.length : Int) (wrap64 (x53_3 + 1)) l0_0 a0_1 a0_2 l1_0 a1_1) else (none)) else (spec_toRounds.l2 k3 t269 x8_3 (rd_L2 t269 x32_2) t269 (t269.length : Int) x32_2 y302 (y302.length : Int) (wrap64 (x53_3 + 1)) l0_0 a0_1 a0_2 l1_0 a1_1)))) = some r := H
                 have A67 := ak_ A670
                 clear A670
                 obtain ⟨y295, hy295⟩ : ∃ y_ : List (List Int), y_ = (([t289, t292] : List (List Int))) := ⟨_, rfl⟩
                 replace H : ((spec_toCan.f k3 l0_0 a0_1 a0_2 l1_0 a1_1 y295).bind fun t298 => (if t298 = true then (if x8_3.length < 5864062014805 then (spec_toRounds.l2 k3 t269 (x8_3 ++ [y295]) (rd_L2 t269 x32_2) t269 (t269.length : Int) x32_2 y302 (y302.length : Int) (wrap64 (x53_3 + 1)) l0_0 a0_1 a0_2 l1_0 a1_1) else (none)) else (spec_toRounds.l2 k3 t269 x8_3 (rd_L2 t269 x32_2) t269 (t269.length : Int) x32_2 y302 (y302.length : Int) (wrap64 (x53_3 + 1)) l0_0 a0_1 a0_2 l1_0 a1_1))) = some r := by first | (rw [hy295]; exact H) | exact H
                 have Ny295 := ak_ hy295
                 clear hy295
                 replace H := Option.bind_eq_some_iff.mp H
                 obtain ⟨t298, A680, H⟩ := H
                 replace H : (if t298 = true then (if x8_3.length < 5864062014805 then (spec_toRounds.l2 k3 t269 (x8_3 ++ [y295]) (rd_L2 t269 x32_2) t269 (t269.length : Int) x32_2 y302 (y302.length : Int) (wrap64 (x53_3 + 1)) l0_0 a0_1 a0_2 l1_0 a1_1) else (none)) else (spec_toRounds.l2 k3 t269 x8_3 (rd_L2 t269 x32_2) t269 (t269.length : Int) x32_2 y302 (y302.length : Int) (wrap64 (x53_3 + 1)) l0_0 a0_1 a0_2 l1_0 a1_1)) = some r := H
                 have A68 := ak_ A680
                 clear A680
                 have HC69 := ak_ H
                 clear H
                 have p288 : 0 ≤ (x53_3 : Int) := od_
                 have q288 : x53_3 < (y302.length : Int) := od_
                 obtain ⟨ad288, A288_0, c288_0, e288, hx288_0, hl288_0, hi288_0⟩ := at_L2 (Kd.V_reads' HO_51.out).2.2 x53_3 p288 q288
                 cases e288
                 obtain ⟨ce288, hce288, hMe288, hcc288⟩ := Kd.V_get HO_51.out [] x53_3 p288 (by first | exact q288 | exact odt_ (by assumption) | (have e_ := (Kd.V_reads' HO_51.out).1; omega))
                 obtain ⟨ua288_0, uc288_0, rfl, ul288_0, ge288_0⟩ := Kd.FK_slice_open hMe288
                 have hv288_0 := hcc288 0 _ rfl
                 rw [Nat.add_zero, show ((Kd.slice 3 (Kd.int .i64))).sz = 1 from rfl, Nat.mul_one] at hv288_0
                 replace hv288_0 := Option.some.inj (hv288_0.symm.trans hx288_0)
                 injection hv288_0 with hva_ hvn_ hvc_
                 rw [hva_] at ge288_0
                 rw [hvc_] at ul288_0
                 have HL288_0 := ak_ (show Kd.V (Kd.int .i64) 3 _ w.heap.size _ _ (rd_L2 y302 x53_3) from Kd.V_mk ul288_0 ge288_0)
                 clear hva_ hvn_ hvc_ ge288_0 ul288_0 hcc288 hce288
                 have HR288_0 := ak_ hi288_0
                 have HC288_0 := ak_ hl288_0
                 clear hi288_0 hl288_0
                 replace p288 := eq_true p288
                 replace q288 := eq_true q288
                 go_upto_if 65 with (first | ((with_reducible refine gate_callee (f := 66) rfl ?_); refine goesL_ (some 58) rfl rfl Try.func66 (by kernel_rfl) rfl #[.slice A272_0 (rd_L2 t269 x32_2).length c272_0] rfl rs_ ?_; (with_reducible refine (spec_l1Own.calls _ _ (rd_L2 t269 x32_2) t289 _ ?side1 ?side2 A66.out).mono ?_); (case side1 => exact cs_ ((Kd.V_reads' (Kd.pV HL272_0.out)).2.2)); (case side2 => exact HC272_0.out); rintro e w70 ⟨v290, rfl, ho0, hb⟩; refine ⟨_, rfl, ?_⟩; have n0_ := ak_ (Kd.N_elder' (Kd.pN HO_7.out) (Kd.R_base ho0) hb); have n1_ := ak_ (Kd.N_elder' (Kd.pN HO_8.out) (Kd.R_base ho0) hb); have n2_ := ak_ (Kd.N_elder' (Kd.pN HO_30.out) (Kd.R_base ho0) hb); have n3_ := ak_ (Kd.V_elder' (Kd.pV HO_51.out) (Kd.R_base ho0) hb); have mn3_ := ak_ (Kd.V_elder' (Kd.pV HL272_0.out) (Kd.R_base ho0) hb); have n4_ := ak_ (Kd.V_elder' (Kd.pV HL288_0.out) (Kd.R_base ho0) hb); have n5_ := ak_ (Kd.R_lower (Kd.R_newM (M := fun k_ => (w.heap.size ≤ k_)) ho0 (bz_ bl_) (fun k_ h_ => h_)) (bz_ bl_)); have n6_ := ak_ (blk_below (pk BK264.out) hb); have n7_ := ak_ (blk_below (pk BK265.out) hb); have n8_ := ak_ (Kd.C_below (by repeat (first | (with_reducible exact HR288_0.out) | (with_reducible refine Kd.C_alloc ?_ _) | (with_reducible refine Kd.C_drewN ?_ _) | (with_reducible refine Kd.C_drew ?_) | exact HR288_0.out)) hb); have n9_ := ak_ (bs_ bl_ hb); clear HO_7; clear HO_8; clear HO_30; clear HO_51; clear HL288_0; clear BK264; clear BK265; clear HR288_0; clear HB; have HO_7 := n0_; have HO_8 := n1_; have HO_30 := n2_; clear HL272_0; have HL272_0 := mn3_; clear mn3_; have HO_51 := n3_; have HL288_0 := n4_; have HO291 := n5_; have BK264 := n6_; have BK265 := n7_; have HR288_0 := n8_; have HB := n9_; clear n0_ n1_ n2_ n3_ n4_ n5_ n6_ n7_ n8_ n9_; (try clear hb); (try clear hb2); (try clear hk); (try clear hi); (try clear ho0)) | ((with_reducible refine gate_callee (f := 66) rfl ?_); refine goesL_ (some 60) rfl rfl Try.func66 (by kernel_rfl) rfl #[.slice A288_0 (rd_L2 y302 x53_3).length c288_0] rfl rs_ ?_; (with_reducible refine (spec_l1Own.calls _ _ (rd_L2 y302 x53_3) t292 _ ?side1 ?side2 A67.out).mono ?_); (case side1 => repeat (first | exact (by repeat (first | (with_reducible exact HR288_0.out) | (with_reducible refine Kd.C_alloc ?_ _) | (with_reducible refine Kd.C_drewN ?_ _) | (with_reducible refine Kd.C_drew ?_) | exact HR288_0.out)) | (with_reducible refine Kd.C_alloc ?_ _) | (with_reducible refine Kd.C_drewN ?_ _) | (with_reducible refine Kd.C_drew ?_))); (case side2 => exact HC288_0.out); rintro e w71 ⟨v293, rfl, ho0, hb⟩; refine ⟨_, rfl, ?_⟩; have n0_ := ak_ (Kd.N_elder' (Kd.pN HO_7.out) (Kd.R_base ho0) hb); have n1_ := ak_ (Kd.N_elder' (Kd.pN HO_8.out) (Kd.R_base ho0) hb); have n2_ := ak_ (Kd.N_elder' (Kd.pN HO_30.out) (Kd.R_base ho0) hb); have n3_ := ak_ (Kd.V_elder' (Kd.pV HO_51.out) (Kd.R_base ho0) hb); have mn3_ := ak_ (Kd.V_elder' (Kd.pV HL272_0.out) (Kd.R_base ho0) hb); have n4_ := ak_ (Kd.V_elder' (Kd.pV HL288_0.out) (Kd.R_base ho0) hb); have n5_ := ak_ (Kd.R_elder' (Kd.pR HO291.out) (Kd.R_base ho0) hb); have n6_ := ak_ (Kd.R_lower (Kd.R_new' (Kd.R_newM (M := fun k_ => (w.heap.size ≤ k_)) ho0 (bz_ bl_) (fun k_ h_ => h_)) (Kd.R_lt (Kd.pR HO291.out))) (bz_ bl_)); have n7_ := ak_ (blk_below (pk BK264.out) hb); have n8_ := ak_ (blk_below (pk BK265.out) hb); have n9_ := ak_ (Kd.C_below (by repeat (first | (with_reducible exact HR288_0.out) | (with_reducible refine Kd.C_alloc ?_ _) | (with_reducible refine Kd.C_drewN ?_ _) | (with_reducible refine Kd.C_drew ?_) | exact HR288_0.out)) hb); have n10_ := ak_ (bs_ bl_ hb); clear HO_7; clear HO_8; clear HO_30; clear HO_51; clear HL288_0; clear HO291; clear BK264; clear BK265; clear HR288_0; clear HB; have HO_7 := n0_; have HO_8 := n1_; have HO_30 := n2_; clear HL272_0; have HL272_0 := mn3_; clear mn3_; have HO_51 := n3_; have HL288_0 := n4_; have HO291 := n5_; have HO294 := n6_; have BK264 := n7_; have BK265 := n8_; have HR288_0 := n9_; have HB := n10_; clear n0_ n1_ n2_ n3_ n4_ n5_ n6_ n7_ n8_ n9_ n10_; (try clear hb); (try clear hb2); (try clear hk); (try clear hi); (try clear ho0); obtain ⟨Ao72, co72, eo72⟩ := Kd.R_slice HO291.out; subst eo72; obtain ⟨Ao73, co73, eo73⟩ := Kd.R_slice HO294.out; subst eo73) | ((with_reducible refine gate_dst (N := 61) rfl ?_); refine Kd.N_lit (Kd.slice 3 (Kd.int .i64)) _ 22 ?hg (N' := 61) ?hd (xs := ([t289, t292] : List (List Int))) (inner := [.slice Ao72 t289.length co72, .slice Ao73 t292.length co73]) (ok := (fun k_ => (w.heap.size ≤ k_) ∧ some k_ ≠ (.slice (some ad272) t269.length co15 : Value).ownBlock ∧ some k_ ≠ (u8 : Value).ownBlock ∧ some k_ ≠ (.slice (some ad272) t269.length co15 : Value).ownBlock ∧ k_ ≠ gb264 ∧ k_ ≠ gb265)) (okp := (fun k_ => (w.heap.size ≤ k_) ∧ some k_ ≠ (.slice (some ad272) t269.length co15 : Value).ownBlock ∧ some k_ ≠ (u8 : Value).ownBlock ∧ some k_ ≠ (.slice (some ad272) t269.length co15 : Value).ownBlock ∧ k_ ≠ gb264 ∧ k_ ≠ gb265)) ?hr ?hp (fun _ hk => hk) ((show ∀ k_, w71.heap.size ≤ k_ → (fun k_ => (w.heap.size ≤ k_) ∧ some k_ ≠ (.slice (some ad272) t269.length co15 : Value).ownBlock ∧ some k_ ≠ (u8 : Value).ownBlock ∧ some k_ ≠ (.slice (some ad272) t269.length co15 : Value).ownBlock ∧ k_ ≠ gb264 ∧ k_ ≠ gb265) k_ from fun k_ hk => ⟨(Nat.le_trans (bz_ bl_) hk), Kd.fresh' (Kd.N_lt (Kd.pN HO_7.out)) k_ hk, Kd.fresh' (Kd.N_lt (Kd.pN HO_8.out)) k_ hk, Kd.fresh' (Kd.N_lt (Kd.pN HO_30.out)) k_ hk, Kd.freshB (pk BK264.out) k_ hk, Kd.freshB (pk BK265.out) k_ hk⟩) _ (Nat.le_refl _)) (Below.refl _ _) (Nat.le_refl _) (by simp) ?_; (case hd => rfl); (case hg => rfl); (case hr => go_simp <;> rfl); (case hp => exact (Reps.one (show Kd.FK (Kd.slice 3 (Kd.int .i64)) _ _ t289 [.slice Ao72 t289.length co72] from (Kd.FK_slice_mk (Kd.R_reads' (Kd.R_mono (ok' := (fun k_ => (w.heap.size ≤ k_) ∧ some k_ ≠ (.slice (some ad272) t269.length co15 : Value).ownBlock ∧ some k_ ≠ (u8 : Value).ownBlock ∧ some k_ ≠ (.slice (some ad272) t269.length co15 : Value).ownBlock ∧ k_ ≠ gb264 ∧ k_ ≠ gb265)) (Kd.R_types (Kd.R_types (Kd.R_apart' (Kd.R_apart' (Kd.R_apart' (HO291.out) (Kd.N_typed HO_7.out) (by decide)) (Kd.N_typed HO_8.out) (by decide)) (Kd.N_typed HO_30.out) (by decide)) BK264.out (by decide)) BK265.out (by decide)) (fun k_ hk => ⟨hk.1.1.1.1.1.1.1, ⟨hk.1.1.1.1.2, ⟨hk.1.1.1.2, ⟨hk.1.1.2, ⟨hk.1.2, hk.2⟩⟩⟩⟩⟩))).2.1 (Kd.R_F (Kd.R_mono (ok' := (fun k_ => (w.heap.size ≤ k_) ∧ some k_ ≠ (.slice (some ad272) t269.length co15 : Value).ownBlock ∧ some k_ ≠ (u8 : Value).ownBlock ∧ some k_ ≠ (.slice (some ad272) t269.length co15 : Value).ownBlock ∧ k_ ≠ gb264 ∧ k_ ≠ gb265)) (Kd.R_types (Kd.R_types (Kd.R_apart' (Kd.R_apart' (Kd.R_apart' (HO291.out) (Kd.N_typed HO_7.out) (by decide)) (Kd.N_typed HO_8.out) (by decide)) (Kd.N_typed HO_30.out) (by decide)) BK264.out (by decide)) BK265.out (by decide)) (fun k_ hk => ⟨hk.1.1.1.1.1.1.1, ⟨hk.1.1.1.1.2, ⟨hk.1.1.1.2, ⟨hk.1.1.2, ⟨hk.1.2, hk.2⟩⟩⟩⟩⟩))))) (Reps.one (show Kd.FK (Kd.slice 3 (Kd.int .i64)) _ _ t292 [.slice Ao73 t292.length co73] from (Kd.FK_slice_mk (Kd.R_reads' (Kd.R_mono (ok' := (fun k_ => (w.heap.size ≤ k_) ∧ some k_ ≠ (.slice (some ad272) t269.length co15 : Value).ownBlock ∧ some k_ ≠ (u8 : Value).ownBlock ∧ some k_ ≠ (.slice (some ad272) t269.length co15 : Value).ownBlock ∧ k_ ≠ gb264 ∧ k_ ≠ gb265)) (Kd.R_types (Kd.R_types (Kd.R_apart' (Kd.R_apart' (Kd.R_apart' (HO294.out) (Kd.N_typed HO_7.out) (by decide)) (Kd.N_typed HO_8.out) (by decide)) (Kd.N_typed HO_30.out) (by decide)) BK264.out (by decide)) BK265.out (by decide)) (fun k_ hk => ⟨hk.1.1.1.1.1.1.1, ⟨hk.1.1.1.1.2, ⟨hk.1.1.1.2, ⟨hk.1.1.2, ⟨hk.1.2, hk.2⟩⟩⟩⟩⟩))).2.1 (Kd.R_F (Kd.R_mono (ok' := (fun k_ => (w.heap.size ≤ k_) ∧ some k_ ≠ (.slice (some ad272) t269.length co15 : Value).ownBlock ∧ some k_ ≠ (u8 : Value).ownBlock ∧ some k_ ≠ (.slice (some ad272) t269.length co15 : Value).ownBlock ∧ k_ ≠ gb264 ∧ k_ ≠ gb265)) (Kd.R_types (Kd.R_types (Kd.R_apart' (Kd.R_apart' (Kd.R_apart' (HO294.out) (Kd.N_typed HO_7.out) (by decide)) (Kd.N_typed HO_8.out) (by decide)) (Kd.N_typed HO_30.out) (by decide)) BK264.out (by decide)) BK265.out (by decide)) (fun k_ hk => ⟨hk.1.1.1.1.1.1.1, ⟨hk.1.1.1.1.2, ⟨hk.1.1.1.2, ⟨hk.1.1.2, ⟨hk.1.2, hk.2⟩⟩⟩⟩⟩))))) (Reps.none _ _)))); intro v296 w74 ho75 hb hg_ hnew_; clear hg_ hnew_; (first | rw [← Ny295.out] at ho75 | (simp only [Int.reduceToNat] at ho75; rw [← Ny295.out] at ho75)); have n0_ := ak_ (Kd.N_elder' (Kd.pN HO_7.out) (Kd.N_base ho75) hb); have n1_ := ak_ (Kd.N_elder' (Kd.pN HO_8.out) (Kd.N_base ho75) hb); have n2_ := ak_ (Kd.N_elder' (Kd.pN HO_30.out) (Kd.N_base ho75) hb); have n3_ := ak_ (Kd.V_elder' (Kd.pV HO_51.out) (Kd.N_base ho75) hb); have mn3_ := ak_ (Kd.V_elder' (Kd.pV HL272_0.out) (Kd.N_base ho75) hb); have n4_ := ak_ (Kd.V_elder' (Kd.pV HL288_0.out) (Kd.N_base ho75) hb); have n5_ := ak_ (Kd.N_lower ho75 (bz_ bl_)); have n6_ := ak_ (blk_below (pk BK264.out) hb); have n7_ := ak_ (blk_below (pk BK265.out) hb); have n8_ := ak_ (Kd.C_below (by repeat (first | (with_reducible exact HR288_0.out) | (with_reducible refine Kd.C_alloc ?_ _) | (with_reducible refine Kd.C_drewN ?_ _) | (with_reducible refine Kd.C_drew ?_) | exact HR288_0.out)) hb); have n9_ := ak_ (bs_ bl_ hb); clear HO_7; clear HO_8; clear HO_30; clear HO_51; clear HL288_0; clear BK264; clear BK265; clear HR288_0; clear HB; clear HO291; clear HO294; have HO_7 := n0_; have HO_8 := n1_; have HO_30 := n2_; clear HL272_0; have HL272_0 := mn3_; clear mn3_; have HO_51 := n3_; have HL288_0 := n4_; have HO297 := n5_; have BK264 := n6_; have BK265 := n7_; have HR288_0 := n8_; have HB := n9_; clear n0_ n1_ n2_ n3_ n4_ n5_ n6_ n7_ n8_ n9_; clear hb ho75; have hnb76 := NB264_265.out; have hnc76 := NB265_264.out; obtain ⟨hcz77_0, hcz77_1, hcz77_2, hfz77_0, hfz77_1, hfz77_2⟩ := c3_ BK264.out; obtain ⟨hcz78_0, hcz78_1, hfz78_0, hfz78_1⟩ := c2_ BK265.out; obtain ⟨Ao79, co79, eo79⟩ := Kd.N_slice HO297.out; subst eo79) | ((with_reducible refine gate_callee (f := 67) rfl ?_); refine goesL_ (some 65) rfl rfl Try.func67 (by kernel_rfl) rfl #[.agg #[.slice A0_0 l0_0.length c0_0, .int .i64 a0_1, .int .i64 a0_2], .agg #[.slice A1_0 l1_0.length c1_0, .int .i64 a1_1], .slice Ao79 y295.length co79] rfl rs_ ?_; (with_reducible refine (spec_toCan.calls k3 _ _ l0_0 a0_1 a0_2 _ _ l1_0 a1_1 _ _ y295 t298 _ ?side1 ?side2 ?side3 ?side4 ?side5 ?side6 A68.out).mono ?_); (case side1 => exact cs_ (Kd.C_below HR0_0.out HB.out)); (case side2 => exact HC0_0.out); (case side3 => exact cs_ (Kd.C_below HR1_0.out HB.out)); (case side4 => exact HC1_0.out); (case side5 => exact cs_ ((Kd.N_reads' HO297.out).2.2)); (case side6 => exact (Kd.N_reads' HO297.out).2.1); rintro e w80 ⟨rfl, hb⟩; refine ⟨_, rfl, ?_⟩; have n0_ := ak_ (Kd.N_below (Kd.pN HO_7.out) hb); have n1_ := ak_ (Kd.N_below (Kd.pN HO_8.out) hb); have n2_ := ak_ (Kd.N_below (Kd.pN HO_30.out) hb); have n3_ := ak_ (Kd.V_below (Kd.pV HO_51.out) hb); have mn3_ := ak_ (Kd.V_below (Kd.pV HL272_0.out) hb); have n4_ := ak_ (Kd.V_below (Kd.pV HL288_0.out) hb); have n5_ := ak_ (Kd.N_below (Kd.pN HO297.out) hb); have n6_ := ak_ (blk_below (pk BK264.out) hb); have n7_ := ak_ (blk_below (pk BK265.out) hb); have n8_ := ak_ (Kd.C_below (by repeat (first | (with_reducible exact HR288_0.out) | (with_reducible refine Kd.C_alloc ?_ _) | (with_reducible refine Kd.C_drewN ?_ _) | (with_reducible refine Kd.C_drew ?_) | exact HR288_0.out)) hb); have n9_ := ak_ (bs_ bl_ hb); clear HO_7; clear HO_8; clear HO_30; clear HO_51; clear HL288_0; clear HO297; clear BK264; clear BK265; clear HR288_0; clear HB; have HO_7 := n0_; have HO_8 := n1_; have HO_30 := n2_; clear HL272_0; have HL272_0 := mn3_; clear mn3_; have HO_51 := n3_; have HL288_0 := n4_; have HO297 := n5_; have BK264 := n6_; have BK265 := n7_; have HR288_0 := n8_; have HB := n9_; clear n0_ n1_ n2_ n3_ n4_ n5_ n6_ n7_ n8_ n9_; (try clear hb); (try clear hb2); (try clear hk); (try clear hi)))
                 (try simp only [Act.put, setIfInBounds_toArray, set_cons_zero, set_cons_succ])
                 have H := HC69.out
                 clear HC69
                 by_cases c81 : t298 = true
                 ·
                  subst c81
                  have H1 : (if x8_3.length < 5864062014805 then (spec_toRounds.l2 k3 t269 (x8_3 ++ [y295]) (rd_L2 t269 x32_2) t269 (t269.length : Int) x32_2 y302 (y302.length : Int) (wrap64 (x53_3 + 1)) l0_0 a0_1 a0_2 l1_0 a1_1) else (none)) = some r := by rw [if_pos rfl] at H; exact H
                  clear H
                  have H := H1
                  clear H1
                  by_cases c82 : x8_3.length < 5864062014805
                  ·
                   rw [if_pos c82] at H
                   have LMc82 := ak_ c82
                   clear c82
                   obtain ⟨y299, hy299⟩ : ∃ y_ : List (List (List Int)), y_ = (x8_3 ++ [y295]) := ⟨_, rfl⟩
                   replace H : (spec_toRounds.l2 k3 t269 y299 (rd_L2 t269 x32_2) t269 (t269.length : Int) x32_2 y302 (y302.length : Int) (wrap64 (x53_3 + 1)) l0_0 a0_1 a0_2 l1_0 a1_1) = some r := by first | (rw [hy299]; exact H) | exact H
                   have Ny299 := ak_ hy299
                   clear hy299
                   have H' := ak_ H
                   clear H
                   go_wp2_with (first | ((with_reducible refine gate_builtin (b := .append) (xs := #[.tmp 66, .tmp 68]) rfl ?_); at_builtin; refine Kd.N_append (Kd.slice 22 (Kd.slice 3 (Kd.int .i64))) (w0 := w) w.heap.size rfl (.tmp 66) (.tmp 68) 30 57 (.slice none 0 0) 24 rfl Try.underlying30 info57 rfl (by decide) (by omega) u8 x8_3 y295 [.slice Ao79 y295.length co79] (fun k_ => (w.heap.size ≤ k_) ∧ some k_ ≠ (.slice (some ad272) t269.length co15 : Value).ownBlock ∧ some k_ ≠ (.slice (some ad272) t269.length co15 : Value).ownBlock ∧ k_ ≠ gb264 ∧ k_ ≠ gb265) (fun k_ => ((fun k_ => (w.heap.size ≤ k_) ∧ some k_ ≠ (.slice (some ad272) t269.length co15 : Value).ownBlock ∧ some k_ ≠ (.slice (some ad272) t269.length co15 : Value).ownBlock ∧ k_ ≠ gb264 ∧ k_ ≠ gb265)) k_ ∧ some k_ ≠ (u8 : Value).ownBlock) rfl rfl ?aP (fun _ hk => hk) ?aF ?aO ?aB ?aS ?aL ?_; (case aP => exact (Kd.FK_slice_mk (Kd.N_reads' (Kd.N_mono (ok' := (fun k_ => ((fun k_ => (w.heap.size ≤ k_) ∧ some k_ ≠ (.slice (some ad272) t269.length co15 : Value).ownBlock ∧ some k_ ≠ (.slice (some ad272) t269.length co15 : Value).ownBlock ∧ k_ ≠ gb264 ∧ k_ ≠ gb265)) k_ ∧ some k_ ≠ (u8 : Value).ownBlock)) (HO297.out) (fun k_ hk => ⟨⟨hk.1, ⟨hk.2.1, ⟨hk.2.2.2.1, ⟨hk.2.2.2.2.1, hk.2.2.2.2.2⟩⟩⟩⟩, hk.2.2.1⟩))).2.1 (Kd.N_F (Kd.N_mono (ok' := (fun k_ => ((fun k_ => (w.heap.size ≤ k_) ∧ some k_ ≠ (.slice (some ad272) t269.length co15 : Value).ownBlock ∧ some k_ ≠ (.slice (some ad272) t269.length co15 : Value).ownBlock ∧ k_ ≠ gb264 ∧ k_ ≠ gb265)) k_ ∧ some k_ ≠ (u8 : Value).ownBlock)) (HO297.out) (fun k_ hk => ⟨⟨hk.1, ⟨hk.2.1, ⟨hk.2.2.2.1, ⟨hk.2.2.2.2.1, hk.2.2.2.2.2⟩⟩⟩⟩, hk.2.2.1⟩))))); (case aB => exact bl_); (case aF => exact (fun k_ hk => ⟨(Nat.le_trans (bz_ bl_) hk), Kd.fresh' (Kd.N_lt (Kd.pN HO_7.out)) k_ hk, Kd.fresh' (Kd.N_lt (Kd.pN HO_30.out)) k_ hk, Kd.freshB (pk BK264.out) k_ hk, Kd.freshB (pk BK265.out) k_ hk⟩)); (case aO => exact (by (with_reducible repeat (first | apply Kd.N_alloc | apply Kd.N_drewN | apply Kd.N_drew)); exact Kd.N_mono HO_8.out (fun _ hk => ⟨hk.1.1.1.1, ⟨hk.1.1.1.2.1, ⟨hk.1.1.1.2.2.1, ⟨hk.1.1.1.2.2.2.1, hk.1.1.1.2.2.2.2⟩⟩⟩⟩))); (case aS => exact (bz_ bl_)); (case aL => have := LMc82.out; omega); intro v300 w83 ho hb hg hat; rw [← Ny299.out] at ho; have n0_ := ak_ (Kd.N_afterv (ok := (fun k_ => (w.heap.size ≤ k_) ∧ some k_ ≠ (.slice Ao79 y295.length co79 : Value).ownBlock ∧ k_ ≠ gb264 ∧ k_ ≠ gb265)) (by (with_reducible repeat (first | apply Kd.N_alloc | apply Kd.N_drewN | apply Kd.N_drew)); exact Kd.N_mono HO_7.out (fun _ hk => ⟨⟨hk.1.1.1.1, ⟨hk.2, ⟨hk.1.1.1.2.2.1, hk.1.1.1.2.2.2⟩⟩⟩, hk.1.1.1.2.1⟩)) hg hat); have n1_ := ak_ (Kd.N_afterv (ok := (fun k_ => (w.heap.size ≤ k_) ∧ some k_ ≠ (.slice Ao79 y295.length co79 : Value).ownBlock ∧ k_ ≠ gb264 ∧ k_ ≠ gb265)) (by (with_reducible repeat (first | apply Kd.N_alloc | apply Kd.N_drewN | apply Kd.N_drew)); exact Kd.N_mono HO_30.out (fun _ hk => ⟨⟨hk.1.1.1.1, ⟨hk.2, ⟨hk.1.1.1.2.2.1, hk.1.1.1.2.2.2⟩⟩⟩, hk.1.1.1.2.1⟩)) hg hat); have n2_ := ak_ (Kd.V_afterv (ok := (fun k_ => (w.heap.size ≤ k_) ∧ some k_ ≠ (.slice Ao79 y295.length co79 : Value).ownBlock ∧ k_ ≠ gb264 ∧ k_ ≠ gb265)) (by (with_reducible repeat (first | apply Kd.V_alloc | apply Kd.V_drewN | apply Kd.V_drew)); exact Kd.V_mono HO_51.out (fun _ hk => ⟨⟨hk.1.1.1.1, ⟨hk.2, ⟨hk.1.1.1.2.2.1, hk.1.1.1.2.2.2⟩⟩⟩, hk.1.1.1.2.1⟩)) hg hat); have mn2_ := ak_ (Kd.V_afterv (ok := (fun k_ => (w.heap.size ≤ k_) ∧ some k_ ≠ (.slice Ao79 y295.length co79 : Value).ownBlock ∧ k_ ≠ gb264 ∧ k_ ≠ gb265)) (by (with_reducible repeat (first | apply Kd.V_alloc | apply Kd.V_drewN | apply Kd.V_drew)); exact Kd.V_mono HL272_0.out (fun _ hk => ⟨⟨hk.1.1.1.1, ⟨hk.2, ⟨hk.1.1.1.2.2.1, hk.1.1.1.2.2.2⟩⟩⟩, hk.1.1.1.2.1⟩)) hg hat); have n3_ := ak_ (blk_grown (pk BK264.out) hg (Kd.N_ne HO_8.out BK264.out (by decide))); have n4_ := ak_ (blk_grown (pk BK265.out) hg (Kd.N_ne HO_8.out BK265.out (by decide))); have n5_ := ak_ (Kd.V_afterv (ok := (fun k_ => (w.heap.size ≤ k_) ∧ some k_ ≠ (.slice Ao79 y295.length co79 : Value).ownBlock ∧ k_ ≠ gb264 ∧ k_ ≠ gb265)) (by (with_reducible repeat (first | apply Kd.V_alloc | apply Kd.V_drewN | apply Kd.V_drew)); exact Kd.V_mono HL288_0.out (fun _ hk => ⟨⟨hk.1.1.1.1, ⟨hk.2, ⟨hk.1.1.1.2.2.1, hk.1.1.1.2.2.2⟩⟩⟩, hk.1.1.1.2.1⟩)) hg hat); have n6_ := ak_ (hb); have n7_ := ak_ (ho); clear HO_7; clear HO_30; clear HO_51; clear BK264; clear BK265; clear HL288_0; clear HB; clear HO_8; clear HO297; have HO_7 := n0_; have HO_30 := n1_; clear HL272_0; have HL272_0 := mn2_; clear mn2_; have HO_51 := n2_; have BK264 := n3_; have BK265 := n4_; have HL288_0 := n5_; have HB := n6_; have HO301 := n7_; clear n0_ n1_ n2_ n3_ n4_ n5_ n6_ n7_; clear ho hb hg hat))
                   go_roundg k3
                   case measure => have := HK1.out; have := HK2.out; have := HK3.out; omega
                   case rel => exact ⟨(y299), (wrap64 (x53_3 + 1)), (ry_), H', ⟨by have := HK1.out; have := HK2.out; have := HK3.out; omega⟩, ⟨by (with_reducible repeat (first | apply Kd.N_alloc | apply Kd.N_drewN | apply Kd.N_drew)); exact Kd.N_mono HO_7.out (fun _ hk => ⟨hk.1.1, ⟨hk.2, ⟨hk.1.2.2.1, hk.1.2.2.2⟩⟩⟩)⟩, ⟨Kd.pN HO301.out⟩, ⟨by (with_reducible repeat (first | apply Kd.N_alloc | apply Kd.N_drewN | apply Kd.N_drew)); exact Kd.N_mono HO_30.out (fun _ hk => ⟨hk.1.1, ⟨hk.2, ⟨hk.1.2.2.1, hk.1.2.2.2⟩⟩⟩)⟩, ⟨by (with_reducible repeat (first | apply Kd.V_alloc | apply Kd.V_drewN | apply Kd.V_drew)); exact Kd.V_mono HO_51.out (fun _ hk => ⟨hk.1.1, ⟨hk.2, ⟨hk.1.2.2.1, hk.1.2.2.2⟩⟩⟩)⟩, ⟨pk BK264.out⟩, ⟨pk BK265.out⟩, ⟨bl_⟩, ⟨by (with_reducible repeat (first | apply Kd.V_alloc | apply Kd.V_drewN | apply Kd.V_drew)); exact Kd.V_mono HL272_0.out (fun _ hk => ⟨hk.1.1, ⟨hk.2, ⟨hk.1.2.2.1, hk.1.2.2.2⟩⟩⟩)⟩⟩
                  ·
                   rw [if_neg c82] at H
                   exact absurd H (by simp)
                 ·
                  replace c81 := Bool.eq_false_iff.mpr c81
                  subst c81
                  have H1 : (spec_toRounds.l2 k3 t269 x8_3 (rd_L2 t269 x32_2) t269 (t269.length : Int) x32_2 y302 (y302.length : Int) (wrap64 (x53_3 + 1)) l0_0 a0_1 a0_2 l1_0 a1_1) = some r := by rw [if_neg (show ¬ (false = true) by decide)] at H; exact H
                  clear H
                  have H := H1
                  clear H1
                  have H' := ak_ H
                  clear H
                  go_wp2
                  go_roundg k3
                  case measure => have := HK1.out; have := HK2.out; have := HK3.out; omega
                  case rel => exact ⟨(x8_3), (wrap64 (x53_3 + 1)), (ry_), H', ⟨by have := HK1.out; have := HK2.out; have := HK3.out; omega⟩, ⟨by (with_reducible repeat (first | apply Kd.N_alloc | apply Kd.N_drewN | apply Kd.N_drew)); exact Kd.N_mono HO_7.out (fun _ hk => ⟨hk.1.1.1.1, ⟨hk.1.1.1.2.1, ⟨hk.1.1.1.2.2.1, hk.1.1.1.2.2.2⟩⟩⟩)⟩, ⟨by (with_reducible repeat (first | apply Kd.N_alloc | apply Kd.N_drewN | apply Kd.N_drew)); exact Kd.N_mono HO_8.out (fun _ hk => ⟨hk.1.1.1.1, ⟨hk.1.1.1.2.1, ⟨hk.1.1.1.2.2.1, ⟨hk.1.1.1.2.2.2.1, hk.1.1.1.2.2.2.2⟩⟩⟩⟩)⟩, ⟨by (with_reducible repeat (first | apply Kd.N_alloc | apply Kd.N_drewN | apply Kd.N_drew)); exact Kd.N_mono HO_30.out (fun _ hk => ⟨hk.1.1.1.1, ⟨hk.1.1.1.2.1, ⟨hk.1.1.1.2.2.1, hk.1.1.1.2.2.2⟩⟩⟩)⟩, ⟨by (with_reducible repeat (first | apply Kd.V_alloc | apply Kd.V_drewN | apply Kd.V_drew)); exact Kd.V_mono HO_51.out (fun _ hk => ⟨hk.1.1.1.1, ⟨hk.1.1.1.2.1, ⟨hk.1.1.1.2.2.1, hk.1.1.1.2.2.2⟩⟩⟩)⟩, ⟨pk BK264.out⟩, ⟨pk BK265.out⟩, ⟨bl_⟩, ⟨by (with_reducible repeat (first | apply Kd.V_alloc | apply Kd.V_drewN | apply Kd.V_drew)); exact Kd.V_mono HL272_0.out (fun _ hk => ⟨hk.1.1.1.1, ⟨hk.1.1.1.2.1, ⟨hk.1.1.1.2.2.1, hk.1.1.1.2.2.2⟩⟩⟩)⟩⟩
                ·
                 rw [if_neg c65] at H
                 exact absurd H (by simp)
               ·
                rw [if_neg c64] at H
                exact absurd H (by simp)
              ·
               rw [if_neg c63] at H
               have c63b0 := decide_eq_false c63
               clear c63
               have H' := ak_ H
               clear H
               go_wp2
               go_roundg k3
               case measure => have := HK1.out; have := HK2.out; have := HK3.out; omega
               case rel => exact ⟨(x8_3), (wrap64 (x32_2 + 1)), (ry_), H', ⟨by have := HK1.out; have := HK2.out; have := HK3.out; omega⟩, ⟨Kd.pN HO_7.out⟩, ⟨Kd.pN HO_8.out⟩, ⟨Kd.pN HO_30.out⟩, ⟨pk BK264.out⟩, ⟨pk BK265.out⟩, ⟨bl_⟩⟩
           ·
            rw [if_neg c61] at H
            exact absurd H (by simp)
          ·
           rw [if_neg c60] at H
           exact absurd H (by simp)
        ·
         rw [if_neg c18] at H
         exact absurd H (by simp)
       ·
        rw [if_neg c17] at H
        exact absurd H (by simp)
      ·
       rw [if_neg c16] at H
       have c16b0 := decide_eq_false c16
       clear c16
       obtain rfl := Option.some.inj H
       go_wp2
       go_ret
       exact ⟨_, rx_, by (with_reducible repeat (first | apply Kd.N_alloc | apply Kd.N_drewN | apply Kd.N_drew)); exact Kd.N_mono HO_8.out (fun _ hk => hk.1), bl_⟩
def spec_toCampOf.l0 : Nat → Int → Int → Int → List Int → Int → Int → List Bool → Int → Option (List Bool × Int)
 | 0, _, _, _, _, _, _, _, _ => none
 | k + 1, x1, x15, x16, x308000, x308001, x308002, x310000, x310001 => if x16 < x15 then (if (wrap64 (x308002 + 1)) = 0 then (none) else (if 0 ≤ x16 then (if x310000.length < 140737488355328 then (spec_toCampOf.l0 k x1 x15 (wrap64 (x16 + 1)) x308000 x308001 x308002 (x310000 ++ [((Int.tmod (shr .i64 (wrap64 (Int.tdiv x1 (wrap64 (x308002 + 1)))) x16) 2) == 1)]) x310001) else (none)) else (none))) else (some (x310000, x310001))
def spec_toCampOf.f (k : Nat) (l0_0 : List Int) (a0_1 : Int) (a0_2 : Int) (a1 : Int) : Option (List Bool × Int) := if (wrap64 (a0_2 + 1)) = 0 then (none) else (spec_toCampOf.l0 k a1 (l0_0.length : Int) 0 l0_0 a0_1 a0_2 ([] : List Bool) (Int.tmod a1 (wrap64 (a0_2 + 1))))
theorem spec_toCampOf.mono_l : ∀ k, (∀ y0 y1 y2 y3 y4 y5 y6 y7, LeO (spec_toCampOf.l0 k y0 y1 y2 y3 y4 y5 y6 y7) (spec_toCampOf.l0 (k + 1) y0 y1 y2 y3 y4 y5 y6 y7))
 | 0 => fun _ _ _ _ _ _ _ _ r h => by simp [spec_toCampOf.l0] at h
 | k + 1 => by
  have ih0 := spec_toCampOf.mono_l k
  ·intro y0 y1 y2 y3 y4 y5 y6 y7
   unfold spec_toCampOf.l0
   repeat' first
   | (with_reducible first | exact ih0 _ _ _ _ _ _ _ _ | exact LeO.refl _ | exact LeO.none _ | refine LeO.ite ?_ ?_ | refine LeO.bind ?_ (fun _ => ?_))
theorem spec_toCampOf.mono : ∀ a0 a1 a2 a3 k, LeO (spec_toCampOf.f k a0 a1 a2 a3) (spec_toCampOf.f (k + 1) a0 a1 a2 a3) := by
 intro a0 a1 a2 a3 k
 have ih0 := spec_toCampOf.mono_l k
 unfold spec_toCampOf.f
 repeat' first
  | (with_reducible first | exact ih0 _ _ _ _ _ _ _ _ | exact LeO.refl _ | exact LeO.none _ | refine LeO.ite ?_ ?_ | refine LeO.bind ?_ (fun _ => ?_))
def spec_toCampOf.T5 : Bool × List (List Nat × List Nat) := (true, [([], []), ([0], [0]), ([], []), ([], []), ([3], [3]), ([4], [4]), ([2, 5], [2, 5]), ([], []), ([6, 7], [6, 7]), ([8], [8]), ([9], [9]), ([10], [10]), ([1, 11], [1, 11]), ([0, 1, 2, 3, 4, 5, 6, 7, 8, 9, 10, 11, 12], []), ([13, 12, 12, 0, 1, 2, 3, 4, 5, 6, 7, 8, 9, 10, 11, 12], [12, 13])])
def spec_toCampOf.B5 : List Nat := [0, 1, 0, 0, 8, 24, 60, 0, 252, 508, 1020, 2044, 4095, 8191, 16383]
theorem spec_toCampOf.tab5 : rtab .any (opsOf Try.f51 5) = spec_toCampOf.T5 := by kernel_rfl
theorem spec_toCampOf.bits5 : waitsOk spec_toCampOf.T5.2 spec_toCampOf.B5 = true := by kernel_rfl
theorem spec_toCampOf.calls (k : Nat) (A0_0 : Option Addr) (c0_0 : Nat) (l0_0 : List Int) (a0_1 : Int) (a0_2 : Int) (a1 : Int) (r1 : List Bool) (r2 : Int) (w : World) (hr0_0 : Kd.C (Kd.int .i64) w A0_0 l0_0.length l0_0) (hc0_0 : l0_0.length ≤ c0_0) (h : spec_toCampOf.f k l0_0 a0_1 a0_2 a1 = some (r1, r2)) :
  Calls Try.prog 51 #[.agg #[.slice A0_0 l0_0.length c0_0, .int .i64 a0_1, .int .i64 a0_2], .int .i64 a1] w fun e w' => ∃ v0_ : Value, e = .returned (.agg #[v0_, .int .i64 r2]) ∧ Kd.R Kd.bool 4 w' w.heap.size (fun _ => True) v0_ r1 ∧ Below w.heap.size w w' := by
 have hu33 := Try.underlying33
 have hu35 := Try.underlying35
 have HR0_0 := ak_ hr0_0
 have HC0_0 := ak_ hc0_0
 clear hr0_0 hc0_0
 have HB := ak_ (Below.refl w.heap.size w)
 have H : (if (wrap64 (a0_2 + 1)) = 0 then (none) else (spec_toCampOf.l0 k a1 (l0_0.length : Int) 0 l0_0 a0_1 a0_2 ([] : List Bool) (Int.tmod a1 (wrap64 (a0_2 + 1))))) = some (r1, r2) := h
 clear h
 by_cases c3 : (wrap64 (a0_2 + 1)) = 0
 ·
  rw [if_pos c3] at H
  exact absurd H (by simp)
 ·
  rw [if_neg c3] at H
  have c3b0 : ((wrap64 (a0_2 + 1)) == 0) = false := beq_eq_false_iff_ne.mpr c3
  have c3b1 : ((wrap64 (a0_2 + 1)) != 0) = true := bne_iff_ne.mpr c3
  have H' := ak_ H
  clear H
  go_enter Try.func51, Try.ntmps51
  go_wp2_with (first | ((with_reducible refine gate_dst (N := 2) rfl ?_); refine bx_ 2 #[.slice A0_0 l0_0.length c0_0, .int .i64 a0_1, .int .i64 a0_2] 33 ?_; intro gb307 hg w4 hbox hb; have BK307 := ak_ (hbox); have GW307 := ak_ ((by rw [hg]; exact (bz_ (bb_ HB.out)) : w.heap.size ≤ gb307)); replace HB := ak_ (bs_ (bb_ HB.out) hb); have GE307 := GW307; clear hb hbox hg) | ((with_reducible refine gate_dst (N := 4) rfl ?_); refine bx_ 4 #[.slice none 0 0, .int .i64 0] 35 ?_; intro gb308 hg w5 hbox hb; have BK308 := ak_ (hbox); have GW308 := ak_ ((by rw [hg]; exact (bz_ bl_) : w.heap.size ≤ gb308)); replace HB := ak_ (bs_ bl_ hb); have GE308 := GW308; have NB307_308 := ak_ ((by rw [hg]; exact Nat.ne_of_lt (blk_lt (pk BK307.out)) : gb307 ≠ gb308)); replace BK307 := ak_ (blk_below (pk BK307.out) hb); have NB308_307 := ak_ NB307_308.out.symm; clear hb hbox hg; have hnb6 := NB307_308.out; have hnc6 := NB308_307.out; obtain ⟨hcz7_0, hcz7_1, hcz7_2, hfz7_0, hfz7_1, hfz7_2⟩ := c3_ BK307.out) | ((with_reducible refine gate_dst (N := 5) rfl ?_); refine bx_ 5 #[.slice none 0 0, .int .i64 0] 35 ?_; intro gb309 hg w8 hbox hb; have BK309 := ak_ (hbox); have GW309 := ak_ ((by rw [hg]; exact (bz_ bl_) : w.heap.size ≤ gb309)); replace HB := ak_ (bs_ bl_ hb); have GE309 := GW309; have NB307_309 := ak_ ((by rw [hg]; exact Nat.ne_of_lt (blk_lt (pk BK307.out)) : gb307 ≠ gb309)); replace BK307 := ak_ (blk_below (pk BK307.out) hb); have NB309_307 := ak_ NB307_309.out.symm; have NB308_309 := ak_ ((by rw [hg]; exact Nat.ne_of_lt (blk_lt (pk BK308.out)) : gb308 ≠ gb309)); replace BK308 := ak_ (blk_below (pk BK308.out) hb); have NB309_308 := ak_ NB308_309.out.symm; clear hb hbox hg; have hnb9 := NB309_307.out; have hnc9 := NB307_309.out; have hnb10 := NB309_308.out; have hnc10 := NB308_309.out; obtain ⟨hcz11_0, hcz11_1, hfz11_0, hfz11_1⟩ := c2_ BK309.out; obtain ⟨hcz12_0, hcz12_1, hcz12_2, hfz12_0, hfz12_1, hfz12_2⟩ := c3_ BK307.out))
  go_loopg [16] k (fun kq v16 w' => ∃ (x16_1 : Int) (x310000_1 : List Bool) (u310000 : Value), v16 = .int .i64 x16_1 ∧ Aside0 (spec_toCampOf.l0 kq a1 (l0_0.length : Int) x16_1 l0_0 a0_1 a0_2 x310000_1 (Int.tmod a1 (wrap64 (a0_2 + 1))) = some (r1, r2)) ∧ Aside0 (kq ≤ k) ∧ Aside0 (Kd.R Kd.bool 4 w' w.heap.size (fun _ => True) u310000 x310000_1) ∧ Aside0 (w'.heap[gb307]? = some (.cells #[(.slice A0_0 l0_0.length c0_0), .int .i64 a0_1, .int .i64 a0_2] 33 (0, 0))) ∧ Aside0 (w'.heap[gb308]? = some (.cells #[(.slice none 0 0), .int .i64 0] 35 (0, 0))) ∧ Aside0 (w'.heap[gb309]? = some (.cells #[u310000, .int .i64 (Int.tmod a1 (wrap64 (a0_2 + 1)))] 35 (0, 0))) ∧ Aside0 (Below w.heap.size w w'))
  case atStart => exact ⟨(0), (([] : List Bool)), (.slice none 0 0), (ry_), H', ⟨Nat.le_refl _⟩, ⟨by first | exact Kd.R_nil _ _ _ _ _ | exact Kd.N_nil _ _ _ _ _ | exact Kd.V_nil _ _ _ _ _ | exact Kd.Q_nil _ _ _ _ _ | exact Kd.S_nil _ _ _ _ _⟩, ⟨by (with_reducible repeat (first | refine kN_ ?_ _ | refine k1_ ?_ | refine ka_ ?_ _)); refine blk_far ?_ NB307_309.out _; (with_reducible repeat (first | refine kN_ ?_ _ | refine k1_ ?_ | refine ka_ ?_ _)); refine blk_far ?_ NB307_309.out _; exact pk BK307.out⟩, ⟨by (with_reducible repeat (first | refine kN_ ?_ _ | refine k1_ ?_ | refine ka_ ?_ _)); refine blk_far ?_ NB308_309.out _; (with_reducible repeat (first | refine kN_ ?_ _ | refine k1_ ?_ | refine ka_ ?_ _)); refine blk_far ?_ NB308_309.out _; exact pk BK308.out⟩, ⟨by (with_reducible repeat (first | refine kN_ ?_ _ | refine k1_ ?_ | refine ka_ ?_ _)); refine blk_put (cs := #[.slice none 0 0, .int .i64 0]) ?_ 1 _ rfl; (with_reducible repeat (first | refine kN_ ?_ _ | refine k1_ ?_ | refine ka_ ?_ _)); refine blk_put (cs := #[.slice none 0 0, .int .i64 0]) ?_ 0 _ rfl; exact pk BK309.out⟩, ⟨bl_⟩⟩
  case round =>
   clear H'
   try clear c1
   try clear p2
   try clear c3
   try clear c3b0
   try clear c3b1
   try clear c5
   try clear c6
   try clear p6
   try clear c9
   try clear c10
   try clear hcz11_0
   try clear hcz11_1
   try clear hcz12_0
   try clear hcz12_1
   try clear hcz12_2
   try clear hcz7_0
   try clear hcz7_1
   try clear hcz7_2
   try clear hfz11_0
   try clear hfz11_1
   try clear hfz12_0
   try clear hfz12_1
   try clear hfz12_2
   try clear hfz7_0
   try clear hfz7_1
   try clear hfz7_2
   obtain ⟨x16_1, x310000_1, u310000, rfl, HA, HK1, HO_310000, BK307, BK308, BK309, HB⟩ := hrel
   cases gk with
   | zero => exact absurd HA.out (by simp [spec_toCampOf.l0])
   | succ k1 =>
    have H := HA.out
    clear HA
    simp only [spec_toCampOf.l0] at H
    by_cases c13 : x16_1 < (l0_0.length : Int)
    ·
     rw [if_pos c13] at H
     have c13b0 := decide_eq_true c13
     clear c13
     by_cases c14 : (wrap64 (a0_2 + 1)) = 0
     ·
      rw [if_pos c14] at H
      exact absurd H (by simp)
     ·
      rw [if_neg c14] at H
      have c14b0 : ((wrap64 (a0_2 + 1)) == 0) = false := beq_eq_false_iff_ne.mpr c14
      have c14b1 : ((wrap64 (a0_2 + 1)) != 0) = true := bne_iff_ne.mpr c14
      by_cases c15 : 0 ≤ x16_1
      ·
       rw [if_pos c15] at H
       have c15b0 := eq_true c15
       have c15b1 := decide_eq_true c15
       clear c15
       obtain ⟨ji16, hji16⟩ : ∃ j_ : Int, (shr .i64 (wrap64 (Int.tdiv a1 (wrap64 (a0_2 + 1)))) x16_1) = j_ := ⟨_, rfl⟩
       replace H : (if x310000_1.length < 140737488355328 then (spec_toCampOf.l0 k1 a1 (l0_0.length : Int) (wrap64 (x16_1 + 1)) l0_0 a0_1 a0_2 (x310000_1 ++ [((Int.tmod (ji16) 2) == 1)]) (Int.tmod a1 (wrap64 (a0_2 + 1)))) else (none)) = some (r1, r2) := by first | (rw [hji16] at H; exact H) | (simp only [hji16] at H ⊢; exact H)
       have hji16_ : ((wrap64 (Int.tdiv a1 (wrap64 (a0_2 + 1)))) / 2 ^ min x16_1.toNat 64) = ji16 := hji16
       have hji16z : x16_1 ≤ 64 → ((wrap64 (Int.tdiv a1 (wrap64 (a0_2 + 1)))) / 2 ^ x16_1.toNat) = ji16 := shr_small hji16
       by_cases c17 : x310000_1.length < 140737488355328
       ·
        rw [if_pos c17] at H
        have LMc17 := ak_ c17
        clear c17
        obtain ⟨y310, hy310⟩ : ∃ y_ : List Bool, y_ = (x310000_1 ++ [((Int.tmod (ji16) 2) == 1)]) := ⟨_, rfl⟩
        replace H : (spec_toCampOf.l0 k1 a1 (l0_0.length : Int) (wrap64 (x16_1 + 1)) l0_0 a0_1 a0_2 y310 (Int.tmod a1 (wrap64 (a0_2 + 1)))) = some (r1, r2) := by first | (rw [hy310]; exact H) | exact H
        have Ny310 := ak_ hy310
        clear hy310
        have H' := ak_ H
        clear H
        try go_wp2
        have n0_ := ak_ (Kd.R_drew HO_310000.out)
        have n1_ := ak_ (k1_ BK307.out)
        have n2_ := ak_ (k1_ BK308.out)
        have n3_ := ak_ (k1_ BK309.out)
        have n4_ := ak_ (b1_ HB.out)
        clear HO_310000 BK307 BK308 BK309 HB
        have HO_310000 := n0_; have BK307 := n1_; have BK308 := n2_; have BK309 := n3_; have HB := n4_
        clear n0_ n1_ n2_ n3_ n4_
        refine start_ (n := 15) (S := fun w' => w'.cell? ⟨gb309, 0, none⟩ = some (u310000) ∧ w'.cell? ⟨gb309, 1, none⟩ = some (.int .i64 (Int.tmod a1 (wrap64 (a0_2 + 1)))) ∧ w'.cell? ⟨gb307, 0, none⟩ = some (.slice A0_0 l0_0.length c0_0) ∧ w'.cell? ⟨gb307, 1, none⟩ = some (.int .i64 a0_1) ∧ w'.cell? ⟨gb307, 2, none⟩ = some (.int .i64 a0_2)) (ds := [14]) (mb_ 15 0) (by kernel_rfl) rfl rfl ⟨(blk_cell BK309.out 0).trans rfl, (blk_cell BK309.out 1).trans rfl, (blk_cell BK307.out 0).trans rfl, (blk_cell BK307.out 1).trans rfl, (blk_cell BK307.out 2).trans rfl⟩ (fun hHeld => ?_); refine with_tabW spec_toCampOf.tab5 spec_toCampOf.bits5 (fun HT_ HW_ => ?_)
        generalize wr.drew = w18 at HO_310000 BK307 BK308 BK309 HB hHeld ⊢
        refine pu_ 0 19 15 1 ?_
        refine pu_ 2 21 15 5 ?_
        refine pu_ 3 22 15 13 ?_
        refine pu_ 7 26 15 141 ?_
        refine tk_ 1 20 15 143 ?_ (hy := by rintro w' ⟨s0, s1, s2, s3, s4⟩; go_simp; with_reducible rfl)
        refine tk_ 4 23 15 159 ?_ (hy := by rintro w' ⟨s0, s1, s2, s3, s4⟩; go_simp; with_reducible rfl)
        refine pu_ 5 24 15 191 ?_
        refine pu_ 6 25 15 255 ?_
        refine pu_ 8 27 15 511 ?_
        refine pu_ 9 28 15 1023 ?_
        refine pu_ 10 29 15 2047 ?_
        refine on_ 11 30 15 4095 (fun K hK => ?_)
        refine value_ (w1 := ?_) (v := ?_) (by rfl) rfl ?_ ?_
        rotate_left 2
        ·
         go_simp
         constructor
         ·
          rfl
         ·
          rfl
        refine hK.out _ _ ⟨(blk_cell (ka_ BK309.out _) 0).trans rfl, (blk_cell (ka_ BK309.out _) 1).trans rfl, (blk_cell (ka_ BK307.out _) 0).trans rfl, (blk_cell (ka_ BK307.out _) 1).trans rfl, (blk_cell (ka_ BK307.out _) 2).trans rfl⟩ (fun hHeld => ?_)
        clear hK K
        refine nm_ ?_
        refine on_ 12 31 15 8191 (fun K hK => ?_)
        refine Kd.R_append_step Kd.bool (w0 := w) w.heap.size (by rfl) (.tmp 20) (.tmp 30) 25 4 (.bool false) 1 rfl Try.underlying25 info4 rfl (by decide) (by omega) u310000 x310000_1 ((Int.tmod (ji16) 2) == 1) [.bool ((Int.tmod (ji16) 2) == 1)] (fun _ => True) (fun _ => False) rfl rfl ?aP (fun _ hk => hk.elim) ?aF ?aO ?aB ?aS ?aL ?_
        (case aP => exact rfl)
        (case aB => exact bl_)
        (case aF => exact (fun _ _ => trivial))
        (case aO => exact (Kd.pR HO_310000.out))
        (case aS => exact (bz_ bl_))
        (case aL => have := LMc17.out; omega)
        intro v311 w19 ho hb hg hat
        rw [← Ny310.out] at ho
        have n0_ := ak_ (blk_grown (pk BK307.out) hg (Kd.R_ne HO_310000.out BK307.out (by decide)))
        have n1_ := ak_ (blk_grown (pk BK308.out) hg (Kd.R_ne HO_310000.out BK308.out (by decide)))
        have n2_ := ak_ (blk_grown (pk BK309.out) hg (Kd.R_ne HO_310000.out BK309.out (by decide)))
        have n3_ := ak_ (hb)
        have n4_ := ak_ (ho)
        clear BK307 BK308 BK309 HB HO_310000
        have BK307 := n0_; have BK308 := n1_; have BK309 := n2_; have HB := n3_; have HO312 := n4_
        clear n0_ n1_ n2_ n3_ n4_ ho hb hg hat
        obtain ⟨Ao20, co20, eo20⟩ := Kd.R_slice HO312.out
        (first | subst eo20 | (injection eo20 with f1_ f2_ f3_; have f4_ := f1_.symm; have f5_ := f3_.symm; clear f1_ f2_ f3_; subst f4_; subst f5_))
        refine hK.out _ _ ⟨(blk_cell BK309.out 0).trans rfl, (blk_cell BK309.out 1).trans rfl, (blk_cell BK307.out 0).trans rfl, (blk_cell BK307.out 1).trans rfl, (blk_cell BK307.out 2).trans rfl⟩ (fun hHeld => ?_)
        clear hK K
        refine nm_ ?_
        refine pu_ 13 32 15 16383 ?_
        refine last_ (i := 14) (N := none) (mb_ 15 32767) rfl rfl (one_of HT_.out (by kernel_rfl)) (by decide) (fun K hK => ?_)
        have hs21 : w19.cell? ⟨gb309, 0, none⟩ = some (u310000) := (blk_cell BK309.out 0).trans rfl
        have hfs21 := blk_frozen BK309.out 0
        have hns21_0 := NB307_309.out
        have hns21_1 := NB308_309.out
        have hms21_0 := NB309_307.out
        have hms21_1 := NB309_308.out
        refine skip_ (w1 := ?_) (by rfl) rfl ?_ ?_
        rotate_left
        ·
         go_simp
         rfl
        refine hK.out _ _ ?_
        clear hK K
        refine done_ (done_of HT_.out (by kernel_rfl)) ?_
        try go_wp2
        go_roundg k1
        case measure => have := HK1.out; omega
        case rel => exact ⟨(wrap64 (x16_1 + 1)), (y310), (.slice Ao20 y310.length co20), (ry_), H', ⟨by have := HK1.out; omega⟩, ⟨by (with_reducible repeat (first | apply Kd.R_alloc | apply Kd.R_drewN | apply Kd.R_drew)); exact Kd.R_mono (Kd.R_far (p := ⟨gb309, 0, none⟩) (Kd.R_types HO312.out BK309.out (by decide)) (fun _ hk => hk.2) (.slice Ao20 y310.length co20)) (fun _ hk => trivial)⟩, ⟨by (with_reducible repeat (first | refine kN_ ?_ _ | refine k1_ ?_ | refine ka_ ?_ _)); refine blk_far ?_ NB307_309.out _; exact pk BK307.out⟩, ⟨by (with_reducible repeat (first | refine kN_ ?_ _ | refine k1_ ?_ | refine ka_ ?_ _)); refine blk_far ?_ NB308_309.out _; exact pk BK308.out⟩, ⟨by (with_reducible repeat (first | refine kN_ ?_ _ | refine k1_ ?_ | refine ka_ ?_ _)); refine blk_put (cs := #[u310000, .int .i64 (Int.tmod a1 (wrap64 (a0_2 + 1)))]) ?_ 0 _ rfl; exact pk BK309.out⟩, ⟨bl_⟩⟩
       ·
        rw [if_neg c17] at H
        exact absurd H (by simp)
      ·
       rw [if_neg c15] at H
       exact absurd H (by simp)
    ·
     rw [if_neg c13] at H
     have c13b0 := decide_eq_false c13
     clear c13
     simp only [Option.some.injEq, Prod.mk.injEq] at H
     obtain ⟨rfl, rfl⟩ := H
     have hnb22 := NB309_307.out
     have hnc22 := NB307_309.out
     have hnb23 := NB309_308.out
     have hnc23 := NB308_309.out
     obtain ⟨hcz24_0, hcz24_1, hfz24_0, hfz24_1⟩ := c2_ BK309.out
     obtain ⟨Ao25, co25, eo25⟩ := Kd.R_slice HO_310000.out
     subst eo25
     have hnb26 := NB308_307.out
     have hnc26 := NB307_308.out
     obtain ⟨hcz27_0, hcz27_1, hfz27_0, hfz27_1⟩ := c2_ BK308.out
     go_wp2
     refine bodyPost_ret (results_cell_row rfl _ _ gb308 35 #[.slice Ao25 x310000_1.length co25, .int .i64 (Int.tmod a1 (wrap64 (a0_2 + 1)))] (0, 0) _ rfl (by (with_reducible repeat (first | refine kN_ ?_ _ | refine k1_ ?_ | refine ka_ ?_ _)); refine blk_put (cs := #[.slice Ao25 x310000_1.length co25, .int .i64 0]) ?_ 1 _ rfl; (with_reducible repeat (first | refine kN_ ?_ _ | refine k1_ ?_ | refine ka_ ?_ _)); refine blk_put (cs := #[.slice none 0 0, .int .i64 0]) ?_ 0 _ rfl; exact pk BK308.out) Try.underlying35 rfl (by kernel_rfl)) rfl ?_
     exact ⟨_, rx_, by (with_reducible repeat (first | apply Kd.R_alloc | apply Kd.R_drewN | apply Kd.R_drew)); exact Kd.R_mono (Kd.R_far (p := ⟨gb308, 1, none⟩) (Kd.R_far (p := ⟨gb308, 0, none⟩) (Kd.R_types HO_310000.out BK308.out (by decide)) (fun _ hk => hk.2) (.slice Ao25 x310000_1.length co25)) (fun _ hk => hk.2) (.int .i64 (Int.tmod a1 (wrap64 (a0_2 + 1))))) (fun _ hk => trivial), bl_⟩
end Go.Proofs.Ytmdbhpbogbekmaa.QNt
