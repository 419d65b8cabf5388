/- Contracts of functions of the given program, walked. Conditions: those at each theorem. -/
import Derived.Test.YtmdbhpbogbekmaaQNtx0
import Derived.Test.YtmdbhpbogbekmaaQNtx1
import Derived.Test.YtmdbhpbogbekmaaQNtx4
namespace Go.Proofs.Ytmdbhpbogbekmaa.QNt
open Go.RowKit Go.Proofs.YtmdbhpbogbekmaaW.PrintWords Go.Proofs.YtmdbhpbogbekmaaW.PrintLast Go.Proofs.YtmdbhpbogbekmaaW.PrintMore
open List (setIfInBounds_toArray set_cons_zero set_cons_succ map_toArray map_cons map_nil)
attribute [local go_sem] max2_int min2_int max_two min_two max_three min_three max_four min_four
set_option linter.unusedVariables false
set_option maxHeartbeats 8000000
set_option maxRecDepth 100000
set_option linter.unusedSimpArgs false
mutual
def spec_toRounds.l0 : Nat → List Int → Int → Int → List Int → Int → Int → List Bool → Int → Option ((List (List (List Int))))
 | 0, _, _, _, _, _, _, _, _ => none
 | k + 1, x5, x17, x18, x240000, x240001, x240002, x241000, x241001 => if x18 < x17 then (if x5.length < 17592186044416 then (spec_toRounds.l0 k (x5 ++ [x18]) x17 (wrap64 (x18 + 1)) x240000 x240001 x240002 x241000 x241001) else (none)) else ((spec_paGroups.f k x5 ([] : List Int) 0 x240001).bind fun t244 => (spec_toRounds.l1 k t244 ([] : List (List (List Int))) t244 (t244.length : Int) 0 x240000 x240001 x240002 x241000 x241001))
def spec_toRounds.l1 : Nat → List (List Int) → List (List (List Int)) → List (List Int) → Int → Int → List Int → Int → Int → List Bool → Int → Option ((List (List (List Int))))
 | 0, _, _, _, _, _, _, _, _, _, _ => none
 | k + 1, x7, x8, x30, x31, x32, x240000, x240001, x240002, x241000, x241001 => if x32 < x31 then (if 0 ≤ x32 then (if x32 < (x30.length : Int) then ((spec_l1Own.f (rd_L1 x30 x32)).bind fun t248 => ((some (([t248] : List (List Int)) : List (List Int))).bind fun y251 => ((spec_toCan.f k x240000 x240001 x240002 x241000 x241001 y251).bind fun t254 => (if t254 = true then (if x8.length < 5864062014805 then (if 0 ≤ (wrap64 (x32 + 1)) then (if (wrap64 (x32 + 1)) ≤ (x7.length : Int) then ((some (x7.drop ((wrap64 (x32 + 1)) : Int).toNat : List (List Int))).bind fun y258 => (spec_toRounds.l2 k x7 (x8 ++ [y251]) (rd_L1 x30 x32) x30 x31 x32 y258 (y258.length : Int) 0 x240000 x240001 x240002 x241000 x241001)) else (none)) else (none)) else (none)) else (if 0 ≤ (wrap64 (x32 + 1)) then (if (wrap64 (x32 + 1)) ≤ (x7.length : Int) then ((some (x7.drop ((wrap64 (x32 + 1)) : Int).toNat : List (List Int))).bind fun y277 => (spec_toRounds.l2 k x7 x8 (rd_L1 x30 x32) x30 x31 x32 y277 (y277.length : Int) 0 x240000 x240001 x240002 x241000 x241001)) else (none)) else (none)))))) else (none)) else (none)) else (some x8)
def spec_toRounds.l2 : Nat → List (List Int) → List (List (List Int)) → List Int → List (List Int) → Int → Int → List (List Int) → Int → Int → List Int → Int → Int → List Bool → Int → Option ((List (List (List Int))))
 | 0, _, _, _, _, _, _, _, _, _, _, _, _, _, _ => none
 | k + 1, x7, x8, x10, x30, x31, x32, x51, x52, x53, x240000, x240001, x240002, x241000, x241001 => if x53 < x52 then (if 0 ≤ x53 then (if x53 < (x51.length : Int) then ((spec_l1Own.f x10).bind fun t264 => ((spec_l1Own.f (rd_L1 x51 x53)).bind fun t267 => ((some (([t264, t267] : List (List Int)) : List (List Int))).bind fun y270 => ((spec_toCan.f k x240000 x240001 x240002 x241000 x241001 y270).bind fun t273 => (if t273 = true then (if x8.length < 5864062014805 then (spec_toRounds.l2 k x7 (x8 ++ [y270]) x10 x30 x31 x32 x51 x52 (wrap64 (x53 + 1)) x240000 x240001 x240002 x241000 x241001) else (none)) else (spec_toRounds.l2 k x7 x8 x10 x30 x31 x32 x51 x52 (wrap64 (x53 + 1)) x240000 x240001 x240002 x241000 x241001)))))) else (none)) else (none)) else (spec_toRounds.l1 k x7 x8 x30 x31 (wrap64 (x32 + 1)) x240000 x240001 x240002 x241000 x241001)
end
def spec_toRounds.f (k : Nat) (l0_0 : List Int) (a0_1 : Int) (a0_2 : Int) (l1_0 : List Bool) (a1_1 : Int) : Option ((List (List (List Int)))) := spec_toRounds.l0 k ([] : List Int) (l0_0.length : Int) 0 l0_0 a0_1 a0_2 l1_0 a1_1
theorem spec_toRounds.mono_l : ∀ k, (∀ y0 y1 y2 y3 y4 y5 y6 y7, LeO (spec_toRounds.l0 k y0 y1 y2 y3 y4 y5 y6 y7) (spec_toRounds.l0 (k + 1) y0 y1 y2 y3 y4 y5 y6 y7)) ∧ (∀ y0 y1 y2 y3 y4 y5 y6 y7 y8 y9, LeO (spec_toRounds.l1 k y0 y1 y2 y3 y4 y5 y6 y7 y8 y9) (spec_toRounds.l1 (k + 1) y0 y1 y2 y3 y4 y5 y6 y7 y8 y9)) ∧ (∀ y0 y1 y2 y3 y4 y5 y6 y7 y8 y9 y10 y11 y12 y13, LeO (spec_toRounds.l2 k y0 y1 y2 y3 y4 y5 y6 y7 y8 y9 y10 y11 y12 y13) (spec_toRounds.l2 (k + 1) y0 y1 y2 y3 y4 y5 y6 y7 y8 y9 y10 y11 y12 y13))
 | 0 => ⟨fun _ _ _ _ _ _ _ _ r h => by simp [spec_toRounds.l0] at h, fun _ _ _ _ _ _ _ _ _ _ r h => by simp [spec_toRounds.l1] at h, fun _ _ _ _ _ _ _ _ _ _ _ _ _ _ r h => by simp [spec_toRounds.l2] at h⟩
 | k + 1 => by
  obtain ⟨ih0, ih1, ih2⟩ := spec_toRounds.mono_l k
  refine ⟨?_, ?_, ?_⟩
  ·intro y0 y1 y2 y3 y4 y5 y6 y7
   unfold spec_toRounds.l0
   repeat' first
   | (with_reducible first | exact ih0 _ _ _ _ _ _ _ _ | exact ih1 _ _ _ _ _ _ _ _ _ _ | exact ih2 _ _ _ _ _ _ _ _ _ _ _ _ _ _ | exact spec_paGroups.mono _ _ _ _ _ | exact spec_toCan.mono _ _ _ _ _ _ _ | exact LeO.refl _ | exact LeO.none _ | refine LeO.ite ?_ ?_ | refine LeO.bind ?_ (fun _ => ?_))
  ·intro y0 y1 y2 y3 y4 y5 y6 y7 y8 y9
   unfold spec_toRounds.l1
   repeat' first
   | (with_reducible first | exact ih0 _ _ _ _ _ _ _ _ | exact ih1 _ _ _ _ _ _ _ _ _ _ | exact ih2 _ _ _ _ _ _ _ _ _ _ _ _ _ _ | exact spec_paGroups.mono _ _ _ _ _ | exact spec_toCan.mono _ _ _ _ _ _ _ | exact LeO.refl _ | exact LeO.none _ | refine LeO.ite ?_ ?_ | refine LeO.bind ?_ (fun _ => ?_))
  ·intro y0 y1 y2 y3 y4 y5 y6 y7 y8 y9 y10 y11 y12 y13
   unfold spec_toRounds.l2
   repeat' first
   | (with_reducible first | exact ih0 _ _ _ _ _ _ _ _ | exact ih1 _ _ _ _ _ _ _ _ _ _ | exact ih2 _ _ _ _ _ _ _ _ _ _ _ _ _ _ | exact spec_paGroups.mono _ _ _ _ _ | exact spec_toCan.mono _ _ _ _ _ _ _ | exact LeO.refl _ | exact LeO.none _ | refine LeO.ite ?_ ?_ | refine LeO.bind ?_ (fun _ => ?_))
theorem spec_toRounds.mono : ∀ a0 a1 a2 a3 a4 k, LeO (spec_toRounds.f k a0 a1 a2 a3 a4) (spec_toRounds.f (k + 1) a0 a1 a2 a3 a4) := by
 intro a0 a1 a2 a3 a4 k
 obtain ⟨ih0, ih1, ih2⟩ := spec_toRounds.mono_l k
 unfold spec_toRounds.f
 repeat' first
  | (with_reducible first | exact ih0 _ _ _ _ _ _ _ _ | exact ih1 _ _ _ _ _ _ _ _ _ _ | exact ih2 _ _ _ _ _ _ _ _ _ _ _ _ _ _ | exact spec_paGroups.mono _ _ _ _ _ | exact spec_toCan.mono _ _ _ _ _ _ _ | exact LeO.refl _ | exact LeO.none _ | refine LeO.ite ?_ ?_ | refine LeO.bind ?_ (fun _ => ?_))
theorem spec_toRounds.calls (k : Nat) (A0_0 : Option Addr) (c0_0 : Nat) (l0_0 : List Int) (a0_1 : Int) (a0_2 : Int) (A1_0 : Option Addr) (c1_0 : Nat) (l1_0 : List Bool) (a1_1 : Int) (r : List (List (List Int))) (w : World) (hr0_0 : Kd.C (Kd.int .i64) w A0_0 l0_0.length l0_0) (hc0_0 : l0_0.length ≤ c0_0) (hr1_0 : Kd.C Kd.bool w A1_0 l1_0.length l1_0) (hc1_0 : l1_0.length ≤ c1_0) (h : spec_toRounds.f k l0_0 a0_1 a0_2 l1_0 a1_1 = some r) :
  Calls Try.prog 38 #[.agg #[.slice A0_0 l0_0.length c0_0, .int .i64 a0_1, .int .i64 a0_2], .agg #[.slice A1_0 l1_0.length c1_0, .int .i64 a1_1]] w fun e w' => ∃ v0_ : Value, e = .returned (v0_) ∧ Kd.N (Kd.slice 22 (Kd.slice 3 (Kd.int .i64))) 57 w' w.heap.size (fun k_ => (w.heap.size ≤ k_)) v0_ r ∧ Below w.heap.size w w' := by
 have hu33 := Try.underlying33
 have hu35 := Try.underlying35
 have HR0_0 := ak_ hr0_0
 have HC0_0 := ak_ hc0_0
 clear hr0_0 hc0_0
 have HR1_0 := ak_ hr1_0
 have HC1_0 := ak_ hc1_0
 clear hr1_0 hc1_0
 have HB := ak_ (Below.refl w.heap.size w)
 have H : (spec_toRounds.l0 k ([] : List Int) (l0_0.length : Int) 0 l0_0 a0_1 a0_2 l1_0 a1_1) = some r := h
 clear h
 have H' := ak_ H
 clear H
 go_enter Try.func38, Try.ntmps38
 go_wp2_with (first | ((with_reducible refine gate_dst (N := 2) rfl ?_); refine bx_ 2 #[.slice A0_0 l0_0.length c0_0, .int .i64 a0_1, .int .i64 a0_2] 33 ?_; intro gb239 hg w3 hbox hb; have BK239 := ak_ (hbox); have GW239 := ak_ ((by rw [hg]; exact (bz_ (bb_ HB.out)) : w.heap.size ≤ gb239)); replace HB := ak_ (bs_ (bb_ HB.out) hb); have GE239 := GW239; clear hb hbox hg) | ((with_reducible refine gate_dst (N := 3) rfl ?_); refine bx_ 3 #[.slice A1_0 l1_0.length c1_0, .int .i64 a1_1] 35 ?_; intro gb240 hg w4 hbox hb; have BK240 := ak_ (hbox); have GW240 := ak_ ((by rw [hg]; exact (bz_ bl_) : w.heap.size ≤ gb240)); replace HB := ak_ (bs_ bl_ hb); have GE240 := GW240; have NB239_240 := ak_ ((by rw [hg]; exact Nat.ne_of_lt (blk_lt (pk BK239.out)) : gb239 ≠ gb240)); replace BK239 := ak_ (blk_below (pk BK239.out) hb); have NB240_239 := ak_ NB239_240.out.symm; clear hb hbox hg; have hnb5 := NB239_240.out; have hnc5 := NB240_239.out; obtain ⟨hcz6_0, hcz6_1, hcz6_2, hfz6_0, hfz6_1, hfz6_2⟩ := c3_ BK239.out))
 go_loopg [5, 18] k (fun kq v5 v18 w' => ∃ (x5_1 : List Int) (x18_1 : Int), v18 = .int .i64 x18_1 ∧ Aside0 (spec_toRounds.l0 kq x5_1 (l0_0.length : Int) x18_1 l0_0 a0_1 a0_2 l1_0 a1_1 = some r) ∧ Aside0 (kq ≤ k) ∧ Aside0 (Kd.R (Kd.int .i64) 3 w' w.heap.size (fun k_ => (w.heap.size ≤ k_)) v5 x5_1) ∧ Aside0 (w'.heap[gb239]? = some (.cells #[(.slice A0_0 l0_0.length c0_0), .int .i64 a0_1, .int .i64 a0_2] 33 (0, 0))) ∧ Aside0 (w'.heap[gb240]? = some (.cells #[(.slice A1_0 l1_0.length c1_0), .int .i64 a1_1] 35 (0, 0))) ∧ Aside0 (Below w.heap.size w w'))
 case atStart => exact ⟨(([] : List Int)), (0), (ry_), H', ⟨Nat.le_refl _⟩, ⟨by first | exact Kd.R_nil _ _ _ _ _ | exact Kd.N_nil _ _ _ _ _ | exact Kd.V_nil _ _ _ _ _ | exact Kd.Q_nil _ _ _ _ _ | exact Kd.S_nil _ _ _ _ _⟩, ⟨pk BK239.out⟩, ⟨pk BK240.out⟩, ⟨bl_⟩⟩
 case round =>
  clear H'
  try clear c1
  try clear p2
  try clear c3
  try clear c5
  try clear hcz6_0
  try clear hcz6_1
  try clear hcz6_2
  try clear hfz6_0
  try clear hfz6_1
  try clear hfz6_2
  obtain ⟨x5_1, x18_1, rfl, HA, HK1, HO_5, BK239, BK240, HB⟩ := hrel
  cases gk with
  | zero => exact absurd HA.out (by simp [spec_toRounds.l0])
  | succ k1 =>
   have H := HA.out
   clear HA
   simp only [spec_toRounds.l0] at H
   by_cases c7 : x18_1 < (l0_0.length : Int)
   ·
    rw [if_pos c7] at H
    have c7b0 := decide_eq_true c7
    clear c7
    by_cases c8 : x5_1.length < 17592186044416
    ·
     rw [if_pos c8] at H
     have LMc8 := ak_ c8
     clear c8
     obtain ⟨y241, hy241⟩ : ∃ y_ : List Int, y_ = (x5_1 ++ [x18_1]) := ⟨_, rfl⟩
     replace H : (spec_toRounds.l0 k1 y241 (l0_0.length : Int) (wrap64 (x18_1 + 1)) l0_0 a0_1 a0_2 l1_0 a1_1) = some r := by first | (rw [hy241]; exact H) | exact H
     have Ny241 := ak_ hy241
     clear hy241
     have H' := ak_ H
     clear H
     go_wp2_with (first | ((with_reducible refine gate_builtin (b := .append) (xs := #[.tmp 21, .tmp 23]) rfl ?_); at_builtin; refine Kd.R_append (Kd.int .i64) (w0 := w) w.heap.size rfl (.tmp 21) (.tmp 23) 22 3 (.int .i64 0) 8 rfl Try.underlying22 info3 rfl (by decide) (by omega) u5 x5_1 x18_1 [.int .i64 x18_1] (fun k_ => (w.heap.size ≤ k_)) (fun _ => False) rfl rfl ?aP (fun _ hk => hk.elim) ?aF ?aO ?aB ?aS ?aL ?_; (case aP => exact rfl); (case aB => exact bl_); (case aF => exact (fun k_ hk => (Nat.le_trans (bz_ bl_) hk))); (case aO => exact (Kd.pR HO_5.out)); (case aS => exact (bz_ bl_)); (case aL => have := LMc8.out; omega); intro v242 w9 ho hb hg hat; rw [← Ny241.out] at ho; replace BK239 := ak_ (blk_grown (pk BK239.out) hg (Kd.R_ne HO_5.out BK239.out (by decide))); replace BK240 := ak_ (blk_grown (pk BK240.out) hg (Kd.R_ne HO_5.out BK240.out (by decide))); replace HB := ak_ (hb); have HO243 := ak_ (ho); clear HO_5; clear ho hb hg hat))
     go_roundg k1
     case measure => have := HK1.out; omega
     case rel => exact ⟨(y241), (wrap64 (x18_1 + 1)), (ry_), H', ⟨by have := HK1.out; omega⟩, ⟨Kd.pR HO243.out⟩, ⟨pk BK239.out⟩, ⟨pk BK240.out⟩, ⟨bl_⟩⟩
    ·
     rw [if_neg c8] at H
     exact absurd H (by simp)
   ·
    rw [if_neg c7] at H
    have c7b0 := decide_eq_false c7
    clear c7
    replace H := Option.bind_eq_some_iff.mp H
    obtain ⟨t244, A100, H⟩ := H
    replace H : (spec_toRounds.l1 k1 t244 ([] : List (List (List Int))) t244 (t244.length : Int) 0 l0_0 a0_1 a0_2 l1_0 a1_1) = some r := H
    have A10 := ak_ A100
    clear A100
    have H' := ak_ H
    clear H
    have hnb11 := NB239_240.out
    have hnc11 := NB240_239.out
    obtain ⟨hcz12_0, hcz12_1, hcz12_2, hfz12_0, hfz12_1, hfz12_2⟩ := c3_ BK239.out
    obtain ⟨Ao13, co13, eo13⟩ := Kd.R_slice HO_5.out
    subst eo13
    go_wp2_with (first | ((with_reducible refine gate_callee (f := 65) rfl ?_); refine goesL_ (some 29) rfl rfl Try.func65 (by kernel_rfl) rfl #[.slice Ao13 x5_1.length co13, .slice none 0 0, .int .i64 0, .int .i64 a0_1] rfl rs_ ?_; (refine (spec_paGroups.calls k1 _ _ x5_1 _ _ ([] : List Int) 0 a0_1 t244 _ ?side1 ?side2 ?side3 ?side4 A10.out).mono ?_); (case side1 => exact cs_ ((Kd.R_reads' HO_5.out).2.2)); (case side2 => exact (Kd.R_reads' HO_5.out).2.1); (case side3 => exact Kd.C_nil _ _); (case side4 => exact Nat.le_refl _); rintro e w14 ⟨v245, rfl, ho0, hb⟩; refine ⟨_, rfl, ?_⟩; have HO246 := ak_ (Kd.N_lower (Kd.N_mono (ok' := fun k_ => (w.heap.size ≤ k_) ∧ some k_ ≠ (.slice Ao13 x5_1.length co13 : Value).ownBlock ∧ k_ ≠ gb239 ∧ k_ ≠ gb240) ho0 (fun k_ hk_ => ⟨(Nat.le_trans (bz_ bl_) hk_), (Kd.fresh' (Kd.R_lt (Kd.pR HO_5.out)) k_ hk_), (Kd.freshB (pk BK239.out) k_ hk_), (Kd.freshB (pk BK240.out) k_ hk_)⟩)) (bz_ bl_)); replace HO_5 := ak_ (Kd.R_below (Kd.pR HO_5.out) hb); replace BK239 := ak_ (blk_below (pk BK239.out) hb); replace BK240 := ak_ (blk_below (pk BK240.out) hb); replace HB := ak_ (bs_ bl_ hb); (try clear hb); (try clear hb2); (try clear hk); (try clear hi); (try clear ho0); obtain ⟨Ao15, co15, eo15⟩ := Kd.N_slice HO246.out; subst eo15))
    go_loopg [8, 32] k1 (fun kq v8 v32 w' => ∃ (x8_2 : List (List (List Int))) (x32_2 : Int), v32 = .int .i64 x32_2 ∧ Aside0 (spec_toRounds.l1 kq t244 x8_2 t244 (t244.length : Int) x32_2 l0_0 a0_1 a0_2 l1_0 a1_1 = some r) ∧ Aside0 (kq ≤ k1) ∧ Aside0 (Kd.N (Kd.slice 3 (Kd.int .i64)) 22 w' w.heap.size (fun k_ => (w.heap.size ≤ k_) ∧ some k_ ≠ (v8 : Value).ownBlock ∧ k_ ≠ gb239 ∧ k_ ≠ gb240) (.slice Ao15 t244.length co15) t244) ∧ Aside0 (Kd.N (Kd.slice 22 (Kd.slice 3 (Kd.int .i64))) 57 w' w.heap.size (fun k_ => (w.heap.size ≤ k_) ∧ some k_ ≠ ((.slice Ao15 t244.length co15) : Value).ownBlock ∧ some k_ ≠ ((.slice Ao15 t244.length co15) : Value).ownBlock ∧ k_ ≠ gb239 ∧ k_ ≠ gb240) v8 x8_2) ∧ Aside0 (Kd.N (Kd.slice 3 (Kd.int .i64)) 22 w' w.heap.size (fun k_ => (w.heap.size ≤ k_) ∧ some k_ ≠ (v8 : Value).ownBlock ∧ k_ ≠ gb239 ∧ k_ ≠ gb240) (.slice Ao15 t244.length co15) t244) ∧ Aside0 (w'.heap[gb239]? = some (.cells #[(.slice A0_0 l0_0.length c0_0), .int .i64 a0_1, .int .i64 a0_2] 33 (0, 0))) ∧ Aside0 (w'.heap[gb240]? = some (.cells #[(.slice A1_0 l1_0.length c1_0), .int .i64 a1_1] 35 (0, 0))) ∧ Aside0 (Below w.heap.size w w'))
    case atStart => exact ⟨(([] : List (List (List Int)))), (0), (ry_), H', ⟨Nat.le_refl _⟩, ⟨by (with_reducible repeat (first | apply Kd.N_alloc | apply Kd.N_drewN | apply Kd.N_drew)); exact Kd.N_mono HO246.out (fun _ hk => ⟨hk.1, ⟨(by simp [Value.ownBlock]), ⟨hk.2.2.1, hk.2.2.2⟩⟩⟩)⟩, ⟨by first | exact Kd.R_nil _ _ _ _ _ | exact Kd.N_nil _ _ _ _ _ | exact Kd.V_nil _ _ _ _ _ | exact Kd.Q_nil _ _ _ _ _ | exact Kd.S_nil _ _ _ _ _⟩, ⟨by (with_reducible repeat (first | apply Kd.N_alloc | apply Kd.N_drewN | apply Kd.N_drew)); exact Kd.N_mono HO246.out (fun _ hk => ⟨hk.1, ⟨(by simp [Value.ownBlock]), ⟨hk.2.2.1, hk.2.2.2⟩⟩⟩)⟩, ⟨pk BK239.out⟩, ⟨pk BK240.out⟩, ⟨bl_⟩⟩
    case round =>
     clear H'
     try clear c1
     try clear p2
     try clear c3
     try clear c5
     try clear c6
     try clear p6
     try clear c7
     try clear c7b0
     try clear c8
     try clear c11
     try clear hcz12_0
     try clear hcz12_1
     try clear hcz12_2
     try clear hcz6_0
     try clear hcz6_1
     try clear hcz6_2
     try clear hfz12_0
     try clear hfz12_1
     try clear hfz12_2
     try clear hfz6_0
     try clear hfz6_1
     try clear hfz6_2
     try clear p2
     obtain ⟨x8_2, x32_2, rfl, HA, HK2, HO_7, HO_8, HO_30, BK239, BK240, HB⟩ := hrel
     cases gk with
     | zero => exact absurd HA.out (by simp [spec_toRounds.l1])
     | succ k2 =>
      have H := HA.out
      clear HA
      simp only [spec_toRounds.l1] at H
      by_cases c16 : x32_2 < (t244.length : Int)
      ·
       rw [if_pos c16] at H
       have c16b0 := decide_eq_true c16
       clear c16
       by_cases c17 : 0 ≤ x32_2
       ·
        rw [if_pos c17] at H
        have c17b0 := decide_eq_true c17
        clear c17
        by_cases c18 : x32_2 < (t244.length : Int)
        ·
         rw [if_pos c18] at H
         have c18b0 := decide_eq_true c18
         clear c18
         replace H := Option.bind_eq_some_iff.mp H
         obtain ⟨t248, A190, H⟩ := H
         replace H : ((some (([t248] : List (List Int)) : List (List Int))).bind fun y251 => ((spec_toCan.f k2 l0_0 a0_1 a0_2 l1_0 a1_1 y251).bind fun t254 => (if t254 = true then (if x8_2.length < 5864062014805 then (if 0 ≤ (wrap64 (x32_2 + 1)) then (if (wrap64 (x32_2 + 1)) ≤ (t244.length : Int) then ((some (t244.drop ((wrap64 (x32_2 + 1)) : Int).toNat : List (List Int))).bind fun y258 => (spec_toRounds.l2 k2 t244 (x8_2 ++ [y251]) (rd_L1 t244 x32_2) t244 (t244.length : Int) x32_2 y258 (y258.length : Int) 0 l0_0 a0_1 a0_2 l1_0 a1_1)) else (none)) else (none)) else (none)) else (if 0 ≤ (wrap64 (x32_2 + 1)) then (if (wrap64 (x32_2 + 1)) ≤ (t244.length : Int) then ((some (t244.drop ((wrap64 (x32_2 + 1)) : Int).toNat : List (List Int))).bind fun y277 => (spec_toRounds.l2 k2 t244 x8_2 (rd_L1 t244 x32_2) t244 (t244.length : Int) x32_2 y277 (y277.length : Int) 0 l0_0 a0_1 a0_2 l1_0 a1_1)) else (none)) else (none))))) = some r := H
         have A19 := ak_ A190
         clear A190
         obtain ⟨y251, hy251⟩ : ∃ y_ : List (List Int), y_ = (([t248] : List (List Int))) := ⟨_, rfl⟩
         replace H : ((spec_toCan.f k2 l0_0 a0_1 a0_2 l1_0 a1_1 y251).bind fun t254 => (if t254 = true then (if x8_2.length < 5864062014805 then (if 0 ≤ (wrap64 (x32_2 + 1)) then (if (wrap64 (x32_2 + 1)) ≤ (t244.length : Int) then ((some (t244.drop ((wrap64 (x32_2 + 1)) : Int).toNat : List (List Int))).bind fun y258 => (spec_toRounds.l2 k2 t244 (x8_2 ++ [y251]) (rd_L1 t244 x32_2) t244 (t244.length : Int) x32_2 y258 (y258.length : Int) 0 l0_0 a0_1 a0_2 l1_0 a1_1)) else (none)) else (none)) else (none)) else (if 0 ≤ (wrap64 (x32_2 + 1)) then (if (wrap64 (x32_2 + 1)) ≤ (t244.length : Int) then ((some (t244.drop ((wrap64 (x32_2 + 1)) : Int).toNat : List (List Int))).bind fun y277 => (spec_toRounds.l2 k2 t244 x8_2 (rd_L1 t244 x32_2) t244 (t244.length : Int) x32_2 y277 (y277.length : Int) 0 l0_0 a0_1 a0_2 l1_0 a1_1)) else (none)) else (none)))) = some r := by first | (rw [hy251]; exact H) | exact H
         have Ny251 := ak_ hy251
         clear hy251
         replace H := Option.bind_eq_some_iff.mp H
         obtain ⟨t254, A200, H⟩ := H
         replace H : (if t254 = true then (if x8_2.length < 5864062014805 then (if 0 ≤ (wrap64 (x32_2 + 1)) then (if (wrap64 (x32_2 + 1)) ≤ (t244.length : Int) then ((some (t244.drop ((wrap64 (x32_2 + 1)) : Int).toNat : List (List Int))).bind fun y258 => (spec_toRounds.l2 k2 t244 (x8_2 ++ [y251]) (rd_L1 t244 x32_2) t244 (t244.length : Int) x32_2 y258 (y258.length : Int) 0 l0_0 a0_1 a0_2 l1_0 a1_1)) else (none)) else (none)) else (none)) else (if 0 ≤ (wrap64 (x32_2 + 1)) then (if (wrap64 (x32_2 + 1)) ≤ (t244.length : Int) then ((some (t244.drop ((wrap64 (x32_2 + 1)) : Int).toNat : List (List Int))).bind fun y277 => (spec_toRounds.l2 k2 t244 x8_2 (rd_L1 t244 x32_2) t244 (t244.length : Int) x32_2 y277 (y277.length : Int) 0 l0_0 a0_1 a0_2 l1_0 a1_1)) else (none)) else (none))) = some r := H
         have A20 := ak_ A200
         clear A200
         have HC21 := ak_ H
         clear H
         have p247 : 0 ≤ (x32_2 : Int) := od_
         have q247 : x32_2 < (t244.length : Int) := od_
         obtain ⟨ad247, A247_0, c247_0, e247, hx247_0, hl247_0, hi247_0⟩ := at_L1 (Kd.N_reads' HO_30.out).2.2 x32_2 p247 q247
         cases e247
         obtain ⟨ce247, hce247, hMe247, hcc247⟩ := Kd.N_get HO_30.out [] x32_2 p247 (by first | exact q247 | exact odt_ (by assumption) | (have e_ := (Kd.N_reads' HO_30.out).1; omega))
         obtain ⟨ua247_0, uc247_0, rfl, ul247_0, ge247_0⟩ := Kd.FK_slice_open hMe247
         have hv247_0 := hcc247 0 _ rfl
         rw [Nat.add_zero, show ((Kd.slice 3 (Kd.int .i64))).sz = 1 from rfl, Nat.mul_one] at hv247_0
         replace hv247_0 := Option.some.inj (hv247_0.symm.trans hx247_0)
         injection hv247_0 with hva_ hvn_ hvc_
         rw [hva_] at ge247_0
         rw [hvc_] at ul247_0
         have HL247_0 := ak_ (show Kd.V (Kd.int .i64) 3 _ w.heap.size _ _ (rd_L1 t244 x32_2) from Kd.V_mk ul247_0 ge247_0)
         clear hva_ hvn_ hvc_ ge247_0 ul247_0 hcc247 hce247
         have HR247_0 := ak_ hi247_0
         have HC247_0 := ak_ hl247_0
         clear hi247_0 hl247_0
         replace p247 := eq_true p247
         replace q247 := eq_true q247
         go_upto_if 43 with (first | ((with_reducible refine gate_callee (f := 66) rfl ?_); refine goesL_ (some 38) rfl rfl Try.func66 (by kernel_rfl) rfl #[.slice A247_0 (rd_L1 t244 x32_2).length c247_0] rfl rs_ ?_; (with_reducible refine (spec_l1Own.calls _ _ (rd_L1 t244 x32_2) t248 _ ?side1 ?side2 A19.out).mono ?_); (case side1 => repeat (first | exact (by repeat (first | (with_reducible exact HR247_0.out) | (with_reducible refine Kd.C_alloc ?_ _) | (with_reducible refine Kd.C_drewN ?_ _) | (with_reducible refine Kd.C_drew ?_) | exact HR247_0.out)) | (with_reducible refine Kd.C_alloc ?_ _) | (with_reducible refine Kd.C_drewN ?_ _) | (with_reducible refine Kd.C_drew ?_))); (case side2 => exact HC247_0.out); rintro e w22 ⟨v249, rfl, ho0, hb⟩; refine ⟨_, rfl, ?_⟩; replace HO_7 := ak_ (Kd.N_elder' (Kd.pN HO_7.out) (Kd.R_base ho0) hb); replace HO_8 := ak_ (Kd.N_elder' (Kd.pN HO_8.out) (Kd.R_base ho0) hb); replace HO_30 := ak_ (Kd.N_elder' (Kd.pN HO_30.out) (Kd.R_base ho0) hb); replace HL247_0 := ak_ (Kd.V_elder' (Kd.pV HL247_0.out) (Kd.R_base ho0) hb); have HO250 := ak_ (Kd.R_lower (Kd.R_newM (M := fun k_ => (w.heap.size ≤ k_)) ho0 (bz_ bl_) (fun k_ h_ => h_)) (bz_ bl_)); replace BK239 := ak_ (blk_below (pk BK239.out) hb); replace BK240 := ak_ (blk_below (pk BK240.out) hb); replace HR247_0 := ak_ (Kd.C_below (by repeat (first | (with_reducible exact HR247_0.out) | (with_reducible refine Kd.C_alloc ?_ _) | (with_reducible refine Kd.C_drewN ?_ _) | (with_reducible refine Kd.C_drew ?_) | exact HR247_0.out)) hb); replace HB := ak_ (bs_ bl_ hb); (try clear hb); (try clear hb2); (try clear hk); (try clear hi); (try clear ho0); obtain ⟨Ao23, co23, eo23⟩ := Kd.R_slice HO250.out; subst eo23) | ((with_reducible refine gate_dst (N := 39) rfl ?_); refine Kd.N_lit (Kd.slice 3 (Kd.int .i64)) _ 22 ?hg (N' := 39) ?hd (xs := ([t248] : List (List Int))) (inner := [.slice Ao23 t248.length co23]) (ok := (fun k_ => (w.heap.size ≤ k_) ∧ some k_ ≠ (.slice (some ad247) t244.length co15 : Value).ownBlock ∧ some k_ ≠ (u8 : Value).ownBlock ∧ some k_ ≠ (.slice (some ad247) t244.length co15 : Value).ownBlock ∧ k_ ≠ gb239 ∧ k_ ≠ gb240)) (okp := (fun k_ => (w.heap.size ≤ k_) ∧ some k_ ≠ (.slice (some ad247) t244.length co15 : Value).ownBlock ∧ some k_ ≠ (u8 : Value).ownBlock ∧ some k_ ≠ (.slice (some ad247) t244.length co15 : Value).ownBlock ∧ k_ ≠ gb239 ∧ k_ ≠ gb240)) ?hr ?hp (fun _ hk => hk) ((show ∀ k_, w22.heap.size ≤ k_ → (fun k_ => (w.heap.size ≤ k_) ∧ some k_ ≠ (.slice (some ad247) t244.length co15 : Value).ownBlock ∧ some k_ ≠ (u8 : Value).ownBlock ∧ some k_ ≠ (.slice (some ad247) t244.length co15 : Value).ownBlock ∧ k_ ≠ gb239 ∧ k_ ≠ gb240) k_ from fun k_ hk => ⟨(Nat.le_trans (bz_ bl_) hk), Kd.fresh' (Kd.N_lt (Kd.pN HO_7.out)) k_ hk, Kd.fresh' (Kd.N_lt (Kd.pN HO_8.out)) k_ hk, Kd.fresh' (Kd.N_lt (Kd.pN HO_30.out)) k_ hk, Kd.freshB (pk BK239.out) k_ hk, Kd.freshB (pk BK240.out) k_ hk⟩) _ (Nat.le_refl _)) (Below.refl _ _) (Nat.le_refl _) (by simp) ?_; (case hd => rfl); (case hg => rfl); (case hr => go_simp <;> rfl); (case hp => exact (Reps.one (show Kd.FK (Kd.slice 3 (Kd.int .i64)) _ _ t248 [.slice Ao23 t248.length co23] from (Kd.FK_slice_mk (Kd.R_reads' (Kd.R_mono (ok' := (fun k_ => (w.heap.size ≤ k_) ∧ some k_ ≠ (.slice (some ad247) t244.length co15 : Value).ownBlock ∧ some k_ ≠ (u8 : Value).ownBlock ∧ some k_ ≠ (.slice (some ad247) t244.length co15 : Value).ownBlock ∧ k_ ≠ gb239 ∧ k_ ≠ gb240)) (Kd.R_types (Kd.R_types (Kd.R_apart' (Kd.R_apart' (Kd.R_apart' (HO250.out) (Kd.N_typed HO_7.out) (by decide)) (Kd.N_typed HO_8.out) (by decide)) (Kd.N_typed HO_30.out) (by decide)) BK239.out (by decide)) BK240.out (by decide)) (fun k_ hk => ⟨hk.1.1.1.1.1.1, ⟨hk.1.1.1.1.2, ⟨hk.1.1.1.2, ⟨hk.1.1.2, ⟨hk.1.2, hk.2⟩⟩⟩⟩⟩))).2.1 (Kd.R_F (Kd.R_mono (ok' := (fun k_ => (w.heap.size ≤ k_) ∧ some k_ ≠ (.slice (some ad247) t244.length co15 : Value).ownBlock ∧ some k_ ≠ (u8 : Value).ownBlock ∧ some k_ ≠ (.slice (some ad247) t244.length co15 : Value).ownBlock ∧ k_ ≠ gb239 ∧ k_ ≠ gb240)) (Kd.R_types (Kd.R_types (Kd.R_apart' (Kd.R_apart' (Kd.R_apart' (HO250.out) (Kd.N_typed HO_7.out) (by decide)) (Kd.N_typed HO_8.out) (by decide)) (Kd.N_typed HO_30.out) (by decide)) BK239.out (by decide)) BK240.out (by decide)) (fun k_ hk => ⟨hk.1.1.1.1.1.1, ⟨hk.1.1.1.1.2, ⟨hk.1.1.1.2, ⟨hk.1.1.2, ⟨hk.1.2, hk.2⟩⟩⟩⟩⟩))))) (Reps.none _ _))); intro v252 w24 ho25 hb hg_ hnew_; clear hg_ hnew_; (first | rw [← Ny251.out] at ho25 | (simp only [Int.reduceToNat] at ho25; rw [← Ny251.out] at ho25)); replace HO_7 := ak_ (Kd.N_elder' (Kd.pN HO_7.out) (Kd.N_base ho25) hb); replace HO_8 := ak_ (Kd.N_elder' (Kd.pN HO_8.out) (Kd.N_base ho25) hb); replace HO_30 := ak_ (Kd.N_elder' (Kd.pN HO_30.out) (Kd.N_base ho25) hb); replace HL247_0 := ak_ (Kd.V_elder' (Kd.pV HL247_0.out) (Kd.N_base ho25) hb); have HO253 := ak_ (Kd.N_lower ho25 (bz_ bl_)); replace BK239 := ak_ (blk_below (pk BK239.out) hb); replace BK240 := ak_ (blk_below (pk BK240.out) hb); replace HR247_0 := ak_ (Kd.C_below (by repeat (first | (with_reducible exact HR247_0.out) | (with_reducible refine Kd.C_alloc ?_ _) | (with_reducible refine Kd.C_drewN ?_ _) | (with_reducible refine Kd.C_drew ?_) | exact HR247_0.out)) hb); replace HB := ak_ (bs_ bl_ hb); clear HO250; clear hb ho25; have hnb26 := NB239_240.out; have hnc26 := NB240_239.out; obtain ⟨hcz27_0, hcz27_1, hcz27_2, hfz27_0, hfz27_1, hfz27_2⟩ := c3_ BK239.out; obtain ⟨hcz28_0, hcz28_1, hfz28_0, hfz28_1⟩ := c2_ BK240.out; obtain ⟨Ao29, co29, eo29⟩ := Kd.N_slice HO253.out; subst eo29) | ((with_reducible refine gate_callee (f := 67) rfl ?_); refine goesL_ (some 43) rfl rfl Try.func67 (by kernel_rfl) rfl #[.agg #[.slice A0_0 l0_0.length c0_0, .int .i64 a0_1, .int .i64 a0_2], .agg #[.slice A1_0 l1_0.length c1_0, .int .i64 a1_1], .slice Ao29 y251.length co29] rfl rs_ ?_; (with_reducible refine (spec_toCan.calls k2 _ _ l0_0 a0_1 a0_2 _ _ l1_0 a1_1 _ _ y251 t254 _ ?side1 ?side2 ?side3 ?side4 ?side5 ?side6 A20.out).mono ?_); (case side1 => exact cs_ (Kd.C_below HR0_0.out HB.out)); (case side2 => exact HC0_0.out); (case side3 => exact cs_ (Kd.C_below HR1_0.out HB.out)); (case side4 => exact HC1_0.out); (case side5 => exact cs_ ((Kd.N_reads' HO253.out).2.2)); (case side6 => exact (Kd.N_reads' HO253.out).2.1); rintro e w30 ⟨rfl, hb⟩; refine ⟨_, rfl, ?_⟩; replace HO_7 := ak_ (Kd.N_below (Kd.pN HO_7.out) hb); replace HO_8 := ak_ (Kd.N_below (Kd.pN HO_8.out) hb); replace HO_30 := ak_ (Kd.N_below (Kd.pN HO_30.out) hb); replace HL247_0 := ak_ (Kd.V_below (Kd.pV HL247_0.out) hb); replace HO253 := ak_ (Kd.N_below (Kd.pN HO253.out) hb); replace BK239 := ak_ (blk_below (pk BK239.out) hb); replace BK240 := ak_ (blk_below (pk BK240.out) hb); replace HR247_0 := ak_ (Kd.C_below (by repeat (first | (with_reducible exact HR247_0.out) | (with_reducible refine Kd.C_alloc ?_ _) | (with_reducible refine Kd.C_drewN ?_ _) | (with_reducible refine Kd.C_drew ?_) | exact HR247_0.out)) hb); replace HB := ak_ (bs_ bl_ hb); (try clear hb); (try clear hb2); (try clear hk); (try clear hi)))
         (try simp only [Act.put, setIfInBounds_toArray, set_cons_zero, set_cons_succ])
         have H := HC21.out
         clear HC21
         by_cases c31 : t254 = true
         ·
          subst c31
          have H1 : (if x8_2.length < 5864062014805 then (if 0 ≤ (wrap64 (x32_2 + 1)) then (if (wrap64 (x32_2 + 1)) ≤ (t244.length : Int) then ((some (t244.drop ((wrap64 (x32_2 + 1)) : Int).toNat : List (List Int))).bind fun y258 => (spec_toRounds.l2 k2 t244 (x8_2 ++ [y251]) (rd_L1 t244 x32_2) t244 (t244.length : Int) x32_2 y258 (y258.length : Int) 0 l0_0 a0_1 a0_2 l1_0 a1_1)) else (none)) else (none)) else (none)) = some r := by rw [if_pos rfl] at H; exact H
          clear H
          have H := H1
          clear H1
          by_cases c32 : x8_2.length < 5864062014805
          ·
           rw [if_pos c32] at H
           have LMc32 := ak_ c32
           clear c32
           obtain ⟨y255, hy255⟩ : ∃ y_ : List (List (List Int)), y_ = (x8_2 ++ [y251]) := ⟨_, rfl⟩
           replace H : (if 0 ≤ (wrap64 (x32_2 + 1)) then (if (wrap64 (x32_2 + 1)) ≤ (t244.length : Int) then ((some (t244.drop ((wrap64 (x32_2 + 1)) : Int).toNat : List (List Int))).bind fun y258 => (spec_toRounds.l2 k2 t244 y255 (rd_L1 t244 x32_2) t244 (t244.length : Int) x32_2 y258 (y258.length : Int) 0 l0_0 a0_1 a0_2 l1_0 a1_1)) else (none)) else (none)) = some r := by first | (rw [hy255]; exact H) | exact H
           have Ny255 := ak_ hy255
           clear hy255
           obtain ⟨ji33, hji33⟩ : ∃ j_ : Int, (wrap64 (x32_2 + 1)) = j_ := ⟨_, rfl⟩
           replace H : (if 0 ≤ (ji33) then (if (ji33) ≤ (t244.length : Int) then ((some (t244.drop ((ji33) : Int).toNat : List (List Int))).bind fun y258 => (spec_toRounds.l2 k2 t244 y255 (rd_L1 t244 x32_2) t244 (t244.length : Int) x32_2 y258 (y258.length : Int) 0 l0_0 a0_1 a0_2 l1_0 a1_1)) else (none)) else (none)) = some r := by first | (rw [hji33] at H; exact H) | (simp only [hji33] at H ⊢; exact H)
           have hji33w : (IntKind.i64.wrap (x32_2 + 1)) = ji33 := (i64_w _).trans hji33
           by_cases c34 : 0 ≤ (ji33)
           ·
            rw [if_pos c34] at H
            have c34b0 := eq_true c34
            have c34b1 := decide_eq_true c34
            clear c34
            by_cases c35 : (ji33) ≤ (t244.length : Int)
            ·
             rw [if_pos c35] at H
             have c35b0 := eq_true c35
             have c35b1 := decide_eq_true c35
             clear c35
             obtain ⟨y258, hy258⟩ : ∃ y_ : List (List Int), y_ = (t244.drop ((ji33) : Int).toNat) := ⟨_, rfl⟩
             replace H : (spec_toRounds.l2 k2 t244 y255 (rd_L1 t244 x32_2) t244 (t244.length : Int) x32_2 y258 (y258.length : Int) 0 l0_0 a0_1 a0_2 l1_0 a1_1) = some r := by first | (rw [hy258]; exact H) | exact H
             have Ny258 := ak_ hy258
             clear hy258
             have H' := ak_ H
             clear H
             go_wp2_with (first | ((with_reducible refine gate_builtin (b := .append) (xs := #[.tmp 44, .tmp 46]) rfl ?_); at_builtin; refine Kd.N_append (Kd.slice 22 (Kd.slice 3 (Kd.int .i64))) (w0 := w) w.heap.size rfl (.tmp 44) (.tmp 46) 30 57 (.slice none 0 0) 24 rfl Try.underlying30 info57 rfl (by decide) (by omega) u8 x8_2 y251 [.slice Ao29 y251.length co29] (fun k_ => (w.heap.size ≤ k_) ∧ some k_ ≠ (.slice (some ad247) t244.length co15 : Value).ownBlock ∧ some k_ ≠ (.slice (some ad247) t244.length co15 : Value).ownBlock ∧ k_ ≠ gb239 ∧ k_ ≠ gb240) (fun k_ => ((fun k_ => (w.heap.size ≤ k_) ∧ some k_ ≠ (.slice (some ad247) t244.length co15 : Value).ownBlock ∧ some k_ ≠ (.slice (some ad247) t244.length co15 : Value).ownBlock ∧ k_ ≠ gb239 ∧ k_ ≠ gb240)) k_ ∧ some k_ ≠ (u8 : Value).ownBlock) rfl rfl ?aP (fun _ hk => hk) ?aF ?aO ?aB ?aS ?aL ?_; (case aP => exact (Kd.FK_slice_mk (Kd.N_reads' (Kd.N_mono (ok' := (fun k_ => ((fun k_ => (w.heap.size ≤ k_) ∧ some k_ ≠ (.slice (some ad247) t244.length co15 : Value).ownBlock ∧ some k_ ≠ (.slice (some ad247) t244.length co15 : Value).ownBlock ∧ k_ ≠ gb239 ∧ k_ ≠ gb240)) k_ ∧ some k_ ≠ (u8 : Value).ownBlock)) (HO253.out) (fun k_ hk => ⟨⟨hk.1, ⟨hk.2.1, ⟨hk.2.2.2.1, ⟨hk.2.2.2.2.1, hk.2.2.2.2.2⟩⟩⟩⟩, hk.2.2.1⟩))).2.1 (Kd.N_F (Kd.N_mono (ok' := (fun k_ => ((fun k_ => (w.heap.size ≤ k_) ∧ some k_ ≠ (.slice (some ad247) t244.length co15 : Value).ownBlock ∧ some k_ ≠ (.slice (some ad247) t244.length co15 : Value).ownBlock ∧ k_ ≠ gb239 ∧ k_ ≠ gb240)) k_ ∧ some k_ ≠ (u8 : Value).ownBlock)) (HO253.out) (fun k_ hk => ⟨⟨hk.1, ⟨hk.2.1, ⟨hk.2.2.2.1, ⟨hk.2.2.2.2.1, hk.2.2.2.2.2⟩⟩⟩⟩, hk.2.2.1⟩))))); (case aB => exact bl_); (case aF => exact (fun k_ hk => ⟨(Nat.le_trans (bz_ bl_) hk), Kd.fresh' (Kd.N_lt (Kd.pN HO_7.out)) k_ hk, Kd.fresh' (Kd.N_lt (Kd.pN HO_30.out)) k_ hk, Kd.freshB (pk BK239.out) k_ hk, Kd.freshB (pk BK240.out) k_ hk⟩)); (case aO => exact (by (with_reducible repeat (first | apply Kd.N_alloc | apply Kd.N_drewN | apply Kd.N_drew)); exact Kd.N_mono HO_8.out (fun _ hk => ⟨hk.1.1.1, ⟨hk.1.1.2.1, ⟨hk.1.1.2.2.1, ⟨hk.1.1.2.2.2.1, hk.1.1.2.2.2.2⟩⟩⟩⟩))); (case aS => exact (bz_ bl_)); (case aL => have := LMc32.out; omega); intro v256 w36 ho hb hg hat; rw [← Ny255.out] at ho; replace HO_7 := ak_ (Kd.N_afterv (ok := (fun k_ => (w.heap.size ≤ k_) ∧ some k_ ≠ (.slice Ao29 y251.length co29 : Value).ownBlock ∧ k_ ≠ gb239 ∧ k_ ≠ gb240)) (by (with_reducible repeat (first | apply Kd.N_alloc | apply Kd.N_drewN | apply Kd.N_drew)); exact Kd.N_mono HO_7.out (fun _ hk => ⟨⟨hk.1.1.1, ⟨hk.2, ⟨hk.1.1.2.2.1, hk.1.1.2.2.2⟩⟩⟩, hk.1.1.2.1⟩)) hg hat); replace HO_30 := ak_ (Kd.N_afterv (ok := (fun k_ => (w.heap.size ≤ k_) ∧ some k_ ≠ (.slice Ao29 y251.length co29 : Value).ownBlock ∧ k_ ≠ gb239 ∧ k_ ≠ gb240)) (by (with_reducible repeat (first | apply Kd.N_alloc | apply Kd.N_drewN | apply Kd.N_drew)); exact Kd.N_mono HO_30.out (fun _ hk => ⟨⟨hk.1.1.1, ⟨hk.2, ⟨hk.1.1.2.2.1, hk.1.1.2.2.2⟩⟩⟩, hk.1.1.2.1⟩)) hg hat); replace BK239 := ak_ (blk_grown (pk BK239.out) hg (Kd.N_ne HO_8.out BK239.out (by decide))); replace BK240 := ak_ (blk_grown (pk BK240.out) hg (Kd.N_ne HO_8.out BK240.out (by decide))); replace HL247_0 := ak_ (Kd.V_afterv (ok := (fun k_ => (w.heap.size ≤ k_) ∧ some k_ ≠ (.slice (some ad247) t244.length co15 : Value).ownBlock ∧ some k_ ≠ (.slice Ao29 y251.length co29 : Value).ownBlock ∧ k_ ≠ gb239 ∧ k_ ≠ gb240)) (by (with_reducible repeat (first | apply Kd.V_alloc | apply Kd.V_drewN | apply Kd.V_drew)); exact Kd.V_mono HL247_0.out (fun _ hk => ⟨⟨hk.1.1.1.1, ⟨hk.1.1.2, ⟨hk.2, ⟨hk.1.1.1.2.2.1, hk.1.1.1.2.2.2⟩⟩⟩⟩, hk.1.1.1.2.1⟩)) hg hat); replace HB := ak_ (hb); have HO257 := ak_ (ho); clear HO_8 HO253; clear ho hb hg hat; have q37 : ((ji33) : Int) ≤ ((t244.length : Int) : Int) := od_; obtain ⟨i037, hi037, _, hsz37, _⟩ := info_parts info22; have hroom37 : t244.length ≤ co15 := (Kd.N_reads' HO_7.out).2.1; have hC37 : Kd.F (Kd.slice 3 (Kd.int .i64)) _ _ (some ad247) t244.length t244 := (Kd.V_at (base := w.heap.size) (Kd.N_V HO_7.out)).2.2; have q037 : (0 : Int) ≤ ((ji33) : Int) := od_; have hcut37 := cut_from (P := Try.prog) 57 22 .i64 Try.underlying57 hi037 1 hsz37 (some ad247) t244.length co15 (ji33) q037 q37; have hr37 := Kd.F_cut (m := ((ji33) : Int).toNat) (c := co15) hC37 (by omega) hroom37; obtain ⟨A37, hA37⟩ : ∃ A1, A1 = (if co15 = ((ji33) : Int).toNat then (some ad247) else ((some ad247) : Option Addr).map (·.add (((ji33) : Int).toNat * 1))) := ⟨_, rfl⟩; obtain ⟨c37, hc37⟩ : ∃ c1, c1 = co15 - ((ji33) : Int).toNat := ⟨_, rfl⟩; have hy37 : y258.length = t244.length - ((ji33) : Int).toNat := (by rw [Ny258.out, List.length_drop] <;> omega); rw [show (t244).drop ((ji33) : Int).toNat = y258 from Ny258.out.symm] at hr37; replace hr37 : Kd.F (Kd.slice 3 (Kd.int .i64)) _ _ A37 y258.length y258 := (by rw [hA37]; exact hr37); rw [← hy37, ← hA37, ← hc37] at hcut37; have HO262 := ak_ (show Kd.V (Kd.slice 3 (Kd.int .i64)) 22 _ w.heap.size _ (.slice A37 y258.length c37) y258 from Kd.V_mk (by rw [hy37, hc37]; exact Nat.sub_le_sub_right hroom37 _) hr37); have HC262 := ak_ (show y258.length ≤ c37 from by rw [hy37, hc37]; exact Nat.sub_le_sub_right hroom37 _); clear hr37 hC37 hroom37 hi037 hsz37 hc37; have KY37 := ak_ hy37; have KA37 := ak_ hA37; clear hy37 hA37; replace q37 := eq_true q37))
             go_loopg [8, 53] k2 (fun kq v8 v53 w' => ∃ (x8_3 : List (List (List Int))) (x53_3 : Int), v53 = .int .i64 x53_3 ∧ Aside0 (spec_toRounds.l2 kq t244 x8_3 (rd_L1 t244 x32_2) t244 (t244.length : Int) x32_2 y258 (y258.length : Int) x53_3 l0_0 a0_1 a0_2 l1_0 a1_1 = some r) ∧ Aside0 (kq ≤ k2) ∧ Aside0 (Kd.N (Kd.slice 3 (Kd.int .i64)) 22 w' w.heap.size (fun k_ => (w.heap.size ≤ k_) ∧ some k_ ≠ (v8 : Value).ownBlock ∧ k_ ≠ gb239 ∧ k_ ≠ gb240) (.slice (some ad247) t244.length co15) t244) ∧ Aside0 (Kd.N (Kd.slice 22 (Kd.slice 3 (Kd.int .i64))) 57 w' w.heap.size (fun k_ => (w.heap.size ≤ k_) ∧ some k_ ≠ ((.slice (some ad247) t244.length co15) : Value).ownBlock ∧ some k_ ≠ ((.slice (some ad247) t244.length co15) : Value).ownBlock ∧ k_ ≠ gb239 ∧ k_ ≠ gb240) v8 x8_3) ∧ Aside0 (Kd.N (Kd.slice 3 (Kd.int .i64)) 22 w' w.heap.size (fun k_ => (w.heap.size ≤ k_) ∧ some k_ ≠ (v8 : Value).ownBlock ∧ k_ ≠ gb239 ∧ k_ ≠ gb240) (.slice (some ad247) t244.length co15) t244) ∧ Aside0 (Kd.V (Kd.slice 3 (Kd.int .i64)) 22 w' w.heap.size (fun k_ => (w.heap.size ≤ k_) ∧ some k_ ≠ (v8 : Value).ownBlock ∧ k_ ≠ gb239 ∧ k_ ≠ gb240) (.slice A37 y258.length c37) y258) ∧ Aside0 (w'.heap[gb239]? = some (.cells #[(.slice A0_0 l0_0.length c0_0), .int .i64 a0_1, .int .i64 a0_2] 33 (0, 0))) ∧ Aside0 (w'.heap[gb240]? = some (.cells #[(.slice A1_0 l1_0.length c1_0), .int .i64 a1_1] 35 (0, 0))) ∧ Aside0 (Below w.heap.size w w') ∧ Aside0 (Kd.V (Kd.int .i64) 3 w' w.heap.size (fun k_ => (w.heap.size ≤ k_) ∧ some k_ ≠ (v8 : Value).ownBlock ∧ k_ ≠ gb239 ∧ k_ ≠ gb240) (.slice A247_0 (rd_L1 t244 x32_2).length c247_0) (rd_L1 t244 x32_2)))
             case atStart => exact ⟨(y255), (0), (ry_), H', ⟨Nat.le_refl _⟩, ⟨by (with_reducible repeat (first | apply Kd.N_alloc | apply Kd.N_drewN | apply Kd.N_drew)); exact Kd.N_mono HO_7.out (fun _ hk => ⟨hk.1.1, ⟨hk.2, ⟨hk.1.2.2.1, hk.1.2.2.2⟩⟩⟩)⟩, ⟨Kd.pN HO257.out⟩, ⟨by (with_reducible repeat (first | apply Kd.N_alloc | apply Kd.N_drewN | apply Kd.N_drew)); exact Kd.N_mono HO_30.out (fun _ hk => ⟨hk.1.1, ⟨hk.2, ⟨hk.1.2.2.1, hk.1.2.2.2⟩⟩⟩)⟩, ⟨by (with_reducible repeat (first | apply Kd.V_alloc | apply Kd.V_drewN | apply Kd.V_drew)); exact Kd.V_mono HO262.out (fun _ hk => ⟨hk.1.1, ⟨hk.2, ⟨hk.1.2.2.1, hk.1.2.2.2⟩⟩⟩)⟩, ⟨pk BK239.out⟩, ⟨pk BK240.out⟩, ⟨bl_⟩, ⟨by (with_reducible repeat (first | apply Kd.V_alloc | apply Kd.V_drewN | apply Kd.V_drew)); exact Kd.V_mono HL247_0.out (fun k_ hk => by revert hk; simp only [and_imp]; intros; repeat' (first | assumption | apply And.intro))⟩⟩
             case round =>
              clear H'
              try clear c1
              try clear c2
              try clear p2
              try clear q2
              try clear hx2
              try clear c3
              try clear q3
              try clear c5
              try clear c6
              try clear p6
              try clear c7
              try clear c7b0
              try clear c8
              try clear c11
              try clear c16
              try clear c16b0
              try clear c17
              try clear c17b0
              try clear c18
              try clear c18b0
              try clear c24
              try clear p24
              try clear q24
              try clear hx24
              try clear c26
              try clear c31
              try clear c32
              try clear c34
              try clear c34b0
              try clear c34b1
              try clear c35
              try clear c35b0
              try clear c35b1
              try clear c37
              try clear q37
              try clear hcz12_0
              try clear hcz12_1
              try clear hcz12_2
              try clear hcz27_0
              try clear hcz27_1
              try clear hcz27_2
              try clear hcz28_0
              try clear hcz28_1
              try clear hcz6_0
              try clear hcz6_1
              try clear hcz6_2
              try clear hfz12_0
              try clear hfz12_1
              try clear hfz12_2
              try clear hfz27_0
              try clear hfz27_1
              try clear hfz27_2
              try clear hfz28_0
              try clear hfz28_1
              try clear hfz6_0
              try clear hfz6_1
              try clear hfz6_2
              try clear hx247_0
              try clear p2
              try clear p247
              try clear p6
              try clear q037
              try clear q247
              try clear q37
              clear HL247_0 HR247_0
              obtain ⟨x8_3, x53_3, rfl, HA, HK3, HO_7, HO_8, HO_30, HO_51, BK239, BK240, HB, HL247_0⟩ := hrel
              cases gk with
              | zero => exact absurd HA.out (by simp [spec_toRounds.l2])
              | succ k3 =>
               have H := HA.out
               clear HA
               simp only [spec_toRounds.l2] at H
               by_cases c38 : x53_3 < (y258.length : Int)
               ·
                rw [if_pos c38] at H
                have c38b0 := decide_eq_true c38
                clear c38
                (first | rw [c38b0] | (simp only [i64_w, i32_w]; rw [c38b0]) | rw [c38b1] | skip)
                by_cases c39 : 0 ≤ x53_3
                ·
                 rw [if_pos c39] at H
                 have c39b0 := decide_eq_true c39
                 clear c39
                 by_cases c40 : x53_3 < (y258.length : Int)
                 ·
                  rw [if_pos c40] at H
                  have c40b0 := decide_eq_true c40
                  clear c40
                  replace H := Option.bind_eq_some_iff.mp H
                  obtain ⟨t264, A410, H⟩ := H
                  replace H : ((spec_l1Own.f (rd_L1 y258 x53_3)).bind fun t267 => ((some (([t264, t267] : List (List Int)) : List (List Int))).bind fun y270 => ((spec_toCan.f k3 l0_0 a0_1 a0_2 l1_0 a1_1 y270).bind fun t273 => (if t273 = true then (if x8_3.length < 5864062014805 then (spec_toRounds.l2 k3 t244 (x8_3 ++ [y270]) (rd_L1 t244 x32_2) t244 (t244.length : Int) x32_2 y258 (y258.length : Int) (wrap64 (x53_3 + 1)) l0_0 a0_1 a0_2 l1_0 a1_1) else (none)) else (spec_toRounds.l2 k3 t244 x8_3 (rd_L1 t244 x32_2) t244 (t244.length : Int) x32_2 y258 (y258.length : Int) (wrap64 (x53_3 + 1)) l0_0 a0_1 a0_2 l1_0 a1_1))))) = some r := H
                  have A41 := ak_ A410
                  clear A410
                  replace H := Option.bind_eq_some_iff.mp H
                  obtain ⟨t267, A420, H⟩ := H
                  replace H : ((some (([t264, t267] : List (List Int)) : List (List Int))).bind fun y270 => ((spec_toCan.f k3 l0_0 a0_1 a0_2 l1_0 a1_1 y270).bind fun t273 => (if t273 = true then (if x8_3.length < 5864062014805 then (spec_toRounds.l2 k3 t244 (x8_3 ++ [y270]) (rd_L1 t244 x32_2) t244 (t244.length : Int) x32_2 y258 (y258.length : Int) (wrap64 (x53_3 + 1)) l0_0 a0_1 a0_2 l1_0 a1_1) else (none)) else (spec_toRounds.l2 k3 t244 x8_3 (rd_L1 t244 x32_2) t244 (t244.length : Int) x32_2 y258 (y258.length : Int) (wrap64 (x53_3 + 1)) l0_0 a0_1 a0_2 l1_0 a1_1)))) = some r := H
                  have A42 := ak_ A420
                  clear A420
                  obtain ⟨y270, hy270⟩ : ∃ y_ : List (List Int), y_ = (([t264, t267] : List (List Int))) := ⟨_, rfl⟩
                  replace H : ((spec_toCan.f k3 l0_0 a0_1 a0_2 l1_0 a1_1 y270).bind fun t273 => (if t273 = true then (if x8_3.length < 5864062014805 then (spec_toRounds.l2 k3 t244 (x8_3 ++ [y270]) (rd_L1 t244 x32_2) t244 (t244.length : Int) x32_2 y258 (y258.length : Int) (wrap64 (x53_3 + 1)) l0_0 a0_1 a0_2 l1_0 a1_1) else (none)) else (spec_toRounds.l2 k3 t244 x8_3 (rd_L1 t244 x32_2) t244 (t244.length : Int) x32_2 y258 (y258.length : Int) (wrap64 (x53_3 + 1)) l0_0 a0_1 a0_2 l1_0 a1_1))) = some r := by first | (rw [hy270]; exact H) | exact H
                  have Ny270 := ak_ hy270
                  clear hy270
                  replace H := Option.bind_eq_some_iff.mp H
                  obtain ⟨t273, A430, H⟩ := H
                  replace H : (if t273 = true then (if x8_3.length < 5864062014805 then (spec_toRounds.l2 k3 t244 (x8_3 ++ [y270]) (rd_L1 t244 x32_2) t244 (t244.length : Int) x32_2 y258 (y258.length : Int) (wrap64 (x53_3 + 1)) l0_0 a0_1 a0_2 l1_0 a1_1) else (none)) else (spec_toRounds.l2 k3 t244 x8_3 (rd_L1 t244 x32_2) t244 (t244.length : Int) x32_2 y258 (y258.length : Int) (wrap64 (x53_3 + 1)) l0_0 a0_1 a0_2 l1_0 a1_1)) = some r := H
                  have A43 := ak_ A430
                  clear A430
                  have HC44 := ak_ H
                  clear H
                  have p263 : 0 ≤ (x53_3 : Int) := od_
                  have q263 : x53_3 < (y258.length : Int) := od_
                  obtain ⟨ad263, A263_0, c263_0, e263, hx263_0, hl263_0, hi263_0⟩ := at_L1 (Kd.V_reads' HO_51.out).2.2 x53_3 p263 q263
                  cases e263
                  obtain ⟨ce263, hce263, hMe263, hcc263⟩ := Kd.V_get HO_51.out [] x53_3 p263 (by first | exact q263 | exact odt_ (by assumption) | (have e_ := (Kd.V_reads' HO_51.out).1; omega))
                  obtain ⟨ua263_0, uc263_0, rfl, ul263_0, ge263_0⟩ := Kd.FK_slice_open hMe263
                  have hv263_0 := hcc263 0 _ rfl
                  rw [Nat.add_zero, show ((Kd.slice 3 (Kd.int .i64))).sz = 1 from rfl, Nat.mul_one] at hv263_0
                  replace hv263_0 := Option.some.inj (hv263_0.symm.trans hx263_0)
                  injection hv263_0 with hva_ hvn_ hvc_
                  rw [hva_] at ge263_0
                  rw [hvc_] at ul263_0
                  have HL263_0 := ak_ (show Kd.V (Kd.int .i64) 3 _ w.heap.size _ _ (rd_L1 y258 x53_3) from Kd.V_mk ul263_0 ge263_0)
                  clear hva_ hvn_ hvc_ ge263_0 ul263_0 hcc263 hce263
                  have HR263_0 := ak_ hi263_0
                  have HC263_0 := ak_ hl263_0
                  clear hi263_0 hl263_0
                  replace p263 := eq_true p263
                  replace q263 := eq_true q263
                  go_upto_if 65 with (first | ((with_reducible refine gate_callee (f := 66) rfl ?_); refine goesL_ (some 58) rfl rfl Try.func66 (by kernel_rfl) rfl #[.slice A247_0 (rd_L1 t244 x32_2).length c247_0] rfl rs_ ?_; (with_reducible refine (spec_l1Own.calls _ _ (rd_L1 t244 x32_2) t264 _ ?side1 ?side2 A41.out).mono ?_); (case side1 => exact cs_ ((Kd.V_reads' (Kd.pV HL247_0.out)).2.2)); (case side2 => exact HC247_0.out); rintro e w45 ⟨v265, rfl, ho0, hb⟩; refine ⟨_, rfl, ?_⟩; have n0_ := ak_ (Kd.N_elder' (Kd.pN HO_7.out) (Kd.R_base ho0) hb); have n1_ := ak_ (Kd.N_elder' (Kd.pN HO_8.out) (Kd.R_base ho0) hb); have n2_ := ak_ (Kd.N_elder' (Kd.pN HO_30.out) (Kd.R_base ho0) hb); have n3_ := ak_ (Kd.V_elder' (Kd.pV HO_51.out) (Kd.R_base ho0) hb); have mn3_ := ak_ (Kd.V_elder' (Kd.pV HL247_0.out) (Kd.R_base ho0) hb); have n4_ := ak_ (Kd.V_elder' (Kd.pV HL263_0.out) (Kd.R_base ho0) hb); have n5_ := ak_ (Kd.R_lower (Kd.R_newM (M := fun k_ => (w.heap.size ≤ k_)) ho0 (bz_ bl_) (fun k_ h_ => h_)) (bz_ bl_)); have n6_ := ak_ (blk_below (pk BK239.out) hb); have n7_ := ak_ (blk_below (pk BK240.out) hb); have n8_ := ak_ (Kd.C_below (by repeat (first | (with_reducible exact HR263_0.out) | (with_reducible refine Kd.C_alloc ?_ _) | (with_reducible refine Kd.C_drewN ?_ _) | (with_reducible refine Kd.C_drew ?_) | exact HR263_0.out)) hb); have n9_ := ak_ (bs_ bl_ hb); clear HO_7; clear HO_8; clear HO_30; clear HO_51; clear HL263_0; clear BK239; clear BK240; clear HR263_0; clear HB; have HO_7 := n0_; have HO_8 := n1_; have HO_30 := n2_; clear HL247_0; have HL247_0 := mn3_; clear mn3_; have HO_51 := n3_; have HL263_0 := n4_; have HO266 := n5_; have BK239 := n6_; have BK240 := n7_; have HR263_0 := n8_; have HB := n9_; clear n0_ n1_ n2_ n3_ n4_ n5_ n6_ n7_ n8_ n9_; (try clear hb); (try clear hb2); (try clear hk); (try clear hi); (try clear ho0)) | ((with_reducible refine gate_callee (f := 66) rfl ?_); refine goesL_ (some 60) rfl rfl Try.func66 (by kernel_rfl) rfl #[.slice A263_0 (rd_L1 y258 x53_3).length c263_0] rfl rs_ ?_; (with_reducible refine (spec_l1Own.calls _ _ (rd_L1 y258 x53_3) t267 _ ?side1 ?side2 A42.out).mono ?_); (case side1 => repeat (first | exact (by repeat (first | (with_reducible exact HR263_0.out) | (with_reducible refine Kd.C_alloc ?_ _) | (with_reducible refine Kd.C_drewN ?_ _) | (with_reducible refine Kd.C_drew ?_) | exact HR263_0.out)) | (with_reducible refine Kd.C_alloc ?_ _) | (with_reducible refine Kd.C_drewN ?_ _) | (with_reducible refine Kd.C_drew ?_))); (case side2 => exact HC263_0.out); rintro e w46 ⟨v268, rfl, ho0, hb⟩; refine ⟨_, rfl, ?_⟩; have n0_ := ak_ (Kd.N_elder' (Kd.pN HO_7.out) (Kd.R_base ho0) hb); have n1_ := ak_ (Kd.N_elder' (Kd.pN HO_8.out) (Kd.R_base ho0) hb); have n2_ := ak_ (Kd.N_elder' (Kd.pN HO_30.out) (Kd.R_base ho0) hb); have n3_ := ak_ (Kd.V_elder' (Kd.pV HO_51.out) (Kd.R_base ho0) hb); have mn3_ := ak_ (Kd.V_elder' (Kd.pV HL247_0.out) (Kd.R_base ho0) hb); have n4_ := ak_ (Kd.V_elder' (Kd.pV HL263_0.out) (Kd.R_base ho0) hb); have n5_ := ak_ (Kd.R_elder' (Kd.pR HO266.out) (Kd.R_base ho0) hb); have n6_ := ak_ (Kd.R_lower (Kd.R_new' (Kd.R_newM (M := fun k_ => (w.heap.size ≤ k_)) ho0 (bz_ bl_) (fun k_ h_ => h_)) (Kd.R_lt (Kd.pR HO266.out))) (bz_ bl_)); have n7_ := ak_ (blk_below (pk BK239.out) hb); have n8_ := ak_ (blk_below (pk BK240.out) hb); have n9_ := ak_ (Kd.C_below (by repeat (first | (with_reducible exact HR263_0.out) | (with_reducible refine Kd.C_alloc ?_ _) | (with_reducible refine Kd.C_drewN ?_ _) | (with_reducible refine Kd.C_drew ?_) | exact HR263_0.out)) hb); have n10_ := ak_ (bs_ bl_ hb); clear HO_7; clear HO_8; clear HO_30; clear HO_51; clear HL263_0; clear HO266; clear BK239; clear BK240; clear HR263_0; clear HB; have HO_7 := n0_; have HO_8 := n1_; have HO_30 := n2_; clear HL247_0; have HL247_0 := mn3_; clear mn3_; have HO_51 := n3_; have HL263_0 := n4_; have HO266 := n5_; have HO269 := n6_; have BK239 := n7_; have BK240 := n8_; have HR263_0 := n9_; have HB := n10_; clear n0_ n1_ n2_ n3_ n4_ n5_ n6_ n7_ n8_ n9_ n10_; (try clear hb); (try clear hb2); (try clear hk); (try clear hi); (try clear ho0); obtain ⟨Ao47, co47, eo47⟩ := Kd.R_slice HO266.out; subst eo47; obtain ⟨Ao48, co48, eo48⟩ := Kd.R_slice HO269.out; subst eo48) | ((with_reducible refine gate_dst (N := 61) rfl ?_); refine Kd.N_lit (Kd.slice 3 (Kd.int .i64)) _ 22 ?hg (N' := 61) ?hd (xs := ([t264, t267] : List (List Int))) (inner := [.slice Ao47 t264.length co47, .slice Ao48 t267.length co48]) (ok := (fun k_ => (w.heap.size ≤ k_) ∧ some k_ ≠ (.slice (some ad247) t244.length co15 : Value).ownBlock ∧ some k_ ≠ (u8 : Value).ownBlock ∧ some k_ ≠ (.slice (some ad247) t244.length co15 : Value).ownBlock ∧ k_ ≠ gb239 ∧ k_ ≠ gb240)) (okp := (fun k_ => (w.heap.size ≤ k_) ∧ some k_ ≠ (.slice (some ad247) t244.length co15 : Value).ownBlock ∧ some k_ ≠ (u8 : Value).ownBlock ∧ some k_ ≠ (.slice (some ad247) t244.length co15 : Value).ownBlock ∧ k_ ≠ gb239 ∧ k_ ≠ gb240)) ?hr ?hp (fun _ hk => hk) ((show ∀ k_, w46.heap.size ≤ k_ → (fun k_ => (w.heap.size ≤ k_) ∧ some k_ ≠ (.slice (some ad247) t244.length co15 : Value).ownBlock ∧ some k_ ≠ (u8 : Value).ownBlock ∧ some k_ ≠ (.slice (some ad247) t244.length co15 : Value).ownBlock ∧ k_ ≠ gb239 ∧ k_ ≠ gb240) k_ from fun k_ hk => ⟨(Nat.le_trans (bz_ bl_) hk), Kd.fresh' (Kd.N_lt (Kd.pN HO_7.out)) k_ hk, Kd.fresh' (Kd.N_lt (Kd.pN HO_8.out)) k_ hk, Kd.fresh' (Kd.N_lt (Kd.pN HO_30.out)) k_ hk, Kd.freshB (pk BK239.out) k_ hk, Kd.freshB (pk BK240.out) k_ hk⟩) _ (Nat.le_refl _)) (Below.refl _ _) (Nat.le_refl _) (by simp) ?_; (case hd => rfl); (case hg => rfl); (case hr => go_simp <;> rfl); (case hp => exact (Reps.one (show Kd.FK (Kd.slice 3 (Kd.int .i64)) _ _ t264 [.slice Ao47 t264.length co47] from (Kd.FK_slice_mk (Kd.R_reads' (Kd.R_mono (ok' := (fun k_ => (w.heap.size ≤ k_) ∧ some k_ ≠ (.slice (some ad247) t244.length co15 : Value).ownBlock ∧ some k_ ≠ (u8 : Value).ownBlock ∧ some k_ ≠ (.slice (some ad247) t244.length co15 : Value).ownBlock ∧ k_ ≠ gb239 ∧ k_ ≠ gb240)) (Kd.R_types (Kd.R_types (Kd.R_apart' (Kd.R_apart' (Kd.R_apart' (HO266.out) (Kd.N_typed HO_7.out) (by decide)) (Kd.N_typed HO_8.out) (by decide)) (Kd.N_typed HO_30.out) (by decide)) BK239.out (by decide)) BK240.out (by decide)) (fun k_ hk => ⟨hk.1.1.1.1.1.1.1, ⟨hk.1.1.1.1.2, ⟨hk.1.1.1.2, ⟨hk.1.1.2, ⟨hk.1.2, hk.2⟩⟩⟩⟩⟩))).2.1 (Kd.R_F (Kd.R_mono (ok' := (fun k_ => (w.heap.size ≤ k_) ∧ some k_ ≠ (.slice (some ad247) t244.length co15 : Value).ownBlock ∧ some k_ ≠ (u8 : Value).ownBlock ∧ some k_ ≠ (.slice (some ad247) t244.length co15 : Value).ownBlock ∧ k_ ≠ gb239 ∧ k_ ≠ gb240)) (Kd.R_types (Kd.R_types (Kd.R_apart' (Kd.R_apart' (Kd.R_apart' (HO266.out) (Kd.N_typed HO_7.out) (by decide)) (Kd.N_typed HO_8.out) (by decide)) (Kd.N_typed HO_30.out) (by decide)) BK239.out (by decide)) BK240.out (by decide)) (fun k_ hk => ⟨hk.1.1.1.1.1.1.1, ⟨hk.1.1.1.1.2, ⟨hk.1.1.1.2, ⟨hk.1.1.2, ⟨hk.1.2, hk.2⟩⟩⟩⟩⟩))))) (Reps.one (show Kd.FK (Kd.slice 3 (Kd.int .i64)) _ _ t267 [.slice Ao48 t267.length co48] from (Kd.FK_slice_mk (Kd.R_reads' (Kd.R_mono (ok' := (fun k_ => (w.heap.size ≤ k_) ∧ some k_ ≠ (.slice (some ad247) t244.length co15 : Value).ownBlock ∧ some k_ ≠ (u8 : Value).ownBlock ∧ some k_ ≠ (.slice (some ad247) t244.length co15 : Value).ownBlock ∧ k_ ≠ gb239 ∧ k_ ≠ gb240)) (Kd.R_types (Kd.R_types (Kd.R_apart' (Kd.R_apart' (Kd.R_apart' (HO269.out) (Kd.N_typed HO_7.out) (by decide)) (Kd.N_typed HO_8.out) (by decide)) (Kd.N_typed HO_30.out) (by decide)) BK239.out (by decide)) BK240.out (by decide)) (fun k_ hk => ⟨hk.1.1.1.1.1.1.1, ⟨hk.1.1.1.1.2, ⟨hk.1.1.1.2, ⟨hk.1.1.2, ⟨hk.1.2, hk.2⟩⟩⟩⟩⟩))).2.1 (Kd.R_F (Kd.R_mono (ok' := (fun k_ => (w.heap.size ≤ k_) ∧ some k_ ≠ (.slice (some ad247) t244.length co15 : Value).ownBlock ∧ some k_ ≠ (u8 : Value).ownBlock ∧ some k_ ≠ (.slice (some ad247) t244.length co15 : Value).ownBlock ∧ k_ ≠ gb239 ∧ k_ ≠ gb240)) (Kd.R_types (Kd.R_types (Kd.R_apart' (Kd.R_apart' (Kd.R_apart' (HO269.out) (Kd.N_typed HO_7.out) (by decide)) (Kd.N_typed HO_8.out) (by decide)) (Kd.N_typed HO_30.out) (by decide)) BK239.out (by decide)) BK240.out (by decide)) (fun k_ hk => ⟨hk.1.1.1.1.1.1.1, ⟨hk.1.1.1.1.2, ⟨hk.1.1.1.2, ⟨hk.1.1.2, ⟨hk.1.2, hk.2⟩⟩⟩⟩⟩))))) (Reps.none _ _)))); intro v271 w49 ho50 hb hg_ hnew_; clear hg_ hnew_; (first | rw [← Ny270.out] at ho50 | (simp only [Int.reduceToNat] at ho50; rw [← Ny270.out] at ho50)); have n0_ := ak_ (Kd.N_elder' (Kd.pN HO_7.out) (Kd.N_base ho50) hb); have n1_ := ak_ (Kd.N_elder' (Kd.pN HO_8.out) (Kd.N_base ho50) hb); have n2_ := ak_ (Kd.N_elder' (Kd.pN HO_30.out) (Kd.N_base ho50) hb); have n3_ := ak_ (Kd.V_elder' (Kd.pV HO_51.out) (Kd.N_base ho50) hb); have mn3_ := ak_ (Kd.V_elder' (Kd.pV HL247_0.out) (Kd.N_base ho50) hb); have n4_ := ak_ (Kd.V_elder' (Kd.pV HL263_0.out) (Kd.N_base ho50) hb); have n5_ := ak_ (Kd.N_lower ho50 (bz_ bl_)); have n6_ := ak_ (blk_below (pk BK239.out) hb); have n7_ := ak_ (blk_below (pk BK240.out) hb); have n8_ := ak_ (Kd.C_below (by repeat (first | (with_reducible exact HR263_0.out) | (with_reducible refine Kd.C_alloc ?_ _) | (with_reducible refine Kd.C_drewN ?_ _) | (with_reducible refine Kd.C_drew ?_) | exact HR263_0.out)) hb); have n9_ := ak_ (bs_ bl_ hb); clear HO_7; clear HO_8; clear HO_30; clear HO_51; clear HL263_0; clear BK239; clear BK240; clear HR263_0; clear HB; clear HO266; clear HO269; have HO_7 := n0_; have HO_8 := n1_; have HO_30 := n2_; clear HL247_0; have HL247_0 := mn3_; clear mn3_; have HO_51 := n3_; have HL263_0 := n4_; have HO272 := n5_; have BK239 := n6_; have BK240 := n7_; have HR263_0 := n8_; have HB := n9_; clear n0_ n1_ n2_ n3_ n4_ n5_ n6_ n7_ n8_ n9_; clear hb ho50; have hnb51 := NB239_240.out; have hnc51 := NB240_239.out; obtain ⟨hcz52_0, hcz52_1, hcz52_2, hfz52_0, hfz52_1, hfz52_2⟩ := c3_ BK239.out; obtain ⟨hcz53_0, hcz53_1, hfz53_0, hfz53_1⟩ := c2_ BK240.out; obtain ⟨Ao54, co54, eo54⟩ := Kd.N_slice HO272.out; subst eo54) | ((with_reducible refine gate_callee (f := 67) rfl ?_); refine goesL_ (some 65) rfl rfl Try.func67 (by kernel_rfl) rfl #[.agg #[.slice A0_0 l0_0.length c0_0, .int .i64 a0_1, .int .i64 a0_2], .agg #[.slice A1_0 l1_0.length c1_0, .int .i64 a1_1], .slice Ao54 y270.length co54] rfl rs_ ?_; (with_reducible refine (spec_toCan.calls k3 _ _ l0_0 a0_1 a0_2 _ _ l1_0 a1_1 _ _ y270 t273 _ ?side1 ?side2 ?side3 ?side4 ?side5 ?side6 A43.out).mono ?_); (case side1 => exact cs_ (Kd.C_below HR0_0.out HB.out)); (case side2 => exact HC0_0.out); (case side3 => exact cs_ (Kd.C_below HR1_0.out HB.out)); (case side4 => exact HC1_0.out); (case side5 => exact cs_ ((Kd.N_reads' HO272.out).2.2)); (case side6 => exact (Kd.N_reads' HO272.out).2.1); rintro e w55 ⟨rfl, hb⟩; refine ⟨_, rfl, ?_⟩; have n0_ := ak_ (Kd.N_below (Kd.pN HO_7.out) hb); have n1_ := ak_ (Kd.N_below (Kd.pN HO_8.out) hb); have n2_ := ak_ (Kd.N_below (Kd.pN HO_30.out) hb); have n3_ := ak_ (Kd.V_below (Kd.pV HO_51.out) hb); have mn3_ := ak_ (Kd.V_below (Kd.pV HL247_0.out) hb); have n4_ := ak_ (Kd.V_below (Kd.pV HL263_0.out) hb); have n5_ := ak_ (Kd.N_below (Kd.pN HO272.out) hb); have n6_ := ak_ (blk_below (pk BK239.out) hb); have n7_ := ak_ (blk_below (pk BK240.out) hb); have n8_ := ak_ (Kd.C_below (by repeat (first | (with_reducible exact HR263_0.out) | (with_reducible refine Kd.C_alloc ?_ _) | (with_reducible refine Kd.C_drewN ?_ _) | (with_reducible refine Kd.C_drew ?_) | exact HR263_0.out)) hb); have n9_ := ak_ (bs_ bl_ hb); clear HO_7; clear HO_8; clear HO_30; clear HO_51; clear HL263_0; clear HO272; clear BK239; clear BK240; clear HR263_0; clear HB; have HO_7 := n0_; have HO_8 := n1_; have HO_30 := n2_; clear HL247_0; have HL247_0 := mn3_; clear mn3_; have HO_51 := n3_; have HL263_0 := n4_; have HO272 := n5_; have BK239 := n6_; have BK240 := n7_; have HR263_0 := n8_; have HB := n9_; clear n0_ n1_ n2_ n3_ n4_ n5_ n6_ n7_ n8_ n9_; (try clear hb); (try clear hb2); (try clear hk); (try clear hi)))
                  (try simp only [Act.put, setIfInBounds_toArray, set_cons_zero, set_cons_succ])
                  have H := HC44.out
                  clear HC44
                  by_cases c56 : t273 = true
                  ·
                   subst c56
                   have H1 : (if x8_3.length < 5864062014805 then (spec_toRounds.l2 k3 t244 (x8_3 ++ [y270]) (rd_L1 t244 x32_2) t244 (t244.length : Int) x32_2 y258 (y258.length : Int) (wrap64 (x53_3 + 1)) l0_0 a0_1 a0_2 l1_0 a1_1) else (none)) = some r := by rw [if_pos rfl] at H; exact H
                   clear H
                   have H := H1
                   clear H1
                   by_cases c57 : x8_3.length < 5864062014805
                   ·
                    rw [if_pos c57] at H
                    have LMc57 := ak_ c57
                    clear c57
                    obtain ⟨y274, hy274⟩ : ∃ y_ : List (List (List Int)), y_ = (x8_3 ++ [y270]) := ⟨_, rfl⟩
                    replace H : (spec_toRounds.l2 k3 t244 y274 (rd_L1 t244 x32_2) t244 (t244.length : Int) x32_2 y258 (y258.length : Int) (wrap64 (x53_3 + 1)) l0_0 a0_1 a0_2 l1_0 a1_1) = some r := by first | (rw [hy274]; exact H) | exact H
                    have Ny274 := ak_ hy274
                    clear hy274
                    have H' := ak_ H
                    clear H
                    go_wp2_with (first | ((with_reducible refine gate_builtin (b := .append) (xs := #[.tmp 66, .tmp 68]) rfl ?_); at_builtin; refine Kd.N_append (Kd.slice 22 (Kd.slice 3 (Kd.int .i64))) (w0 := w) w.heap.size rfl (.tmp 66) (.tmp 68) 30 57 (.slice none 0 0) 24 rfl Try.underlying30 info57 rfl (by decide) (by omega) u8 x8_3 y270 [.slice Ao54 y270.length co54] (fun k_ => (w.heap.size ≤ k_) ∧ some k_ ≠ (.slice (some ad247) t244.length co15 : Value).ownBlock ∧ some k_ ≠ (.slice (some ad247) t244.length co15 : Value).ownBlock ∧ k_ ≠ gb239 ∧ k_ ≠ gb240) (fun k_ => ((fun k_ => (w.heap.size ≤ k_) ∧ some k_ ≠ (.slice (some ad247) t244.length co15 : Value).ownBlock ∧ some k_ ≠ (.slice (some ad247) t244.length co15 : Value).ownBlock ∧ k_ ≠ gb239 ∧ k_ ≠ gb240)) k_ ∧ some k_ ≠ (u8 : Value).ownBlock) rfl rfl ?aP (fun _ hk => hk) ?aF ?aO ?aB ?aS ?aL ?_; (case aP => exact (Kd.FK_slice_mk (Kd.N_reads' (Kd.N_mono (ok' := (fun k_ => ((fun k_ => (w.heap.size ≤ k_) ∧ some k_ ≠ (.slice (some ad247) t244.length co15 : Value).ownBlock ∧ some k_ ≠ (.slice (some ad247) t244.length co15 : Value).ownBlock ∧ k_ ≠ gb239 ∧ k_ ≠ gb240)) k_ ∧ some k_ ≠ (u8 : Value).ownBlock)) (HO272.out) (fun k_ hk => ⟨⟨hk.1, ⟨hk.2.1, ⟨hk.2.2.2.1, ⟨hk.2.2.2.2.1, hk.2.2.2.2.2⟩⟩⟩⟩, hk.2.2.1⟩))).2.1 (Kd.N_F (Kd.N_mono (ok' := (fun k_ => ((fun k_ => (w.heap.size ≤ k_) ∧ some k_ ≠ (.slice (some ad247) t244.length co15 : Value).ownBlock ∧ some k_ ≠ (.slice (some ad247) t244.length co15 : Value).ownBlock ∧ k_ ≠ gb239 ∧ k_ ≠ gb240)) k_ ∧ some k_ ≠ (u8 : Value).ownBlock)) (HO272.out) (fun k_ hk => ⟨⟨hk.1, ⟨hk.2.1, ⟨hk.2.2.2.1, ⟨hk.2.2.2.2.1, hk.2.2.2.2.2⟩⟩⟩⟩, hk.2.2.1⟩))))); (case aB => exact bl_); (case aF => exact (fun k_ hk => ⟨(Nat.le_trans (bz_ bl_) hk), Kd.fresh' (Kd.N_lt (Kd.pN HO_7.out)) k_ hk, Kd.fresh' (Kd.N_lt (Kd.pN HO_30.out)) k_ hk, Kd.freshB (pk BK239.out) k_ hk, Kd.freshB (pk BK240.out) k_ hk⟩)); (case aO => exact (by (with_reducible repeat (first | apply Kd.N_alloc | apply Kd.N_drewN | apply Kd.N_drew)); exact Kd.N_mono HO_8.out (fun _ hk => ⟨hk.1.1.1.1, ⟨hk.1.1.1.2.1, ⟨hk.1.1.1.2.2.1, ⟨hk.1.1.1.2.2.2.1, hk.1.1.1.2.2.2.2⟩⟩⟩⟩))); (case aS => exact (bz_ bl_)); (case aL => have := LMc57.out; omega); intro v275 w58 ho hb hg hat; rw [← Ny274.out] at ho; have n0_ := ak_ (Kd.N_afterv (ok := (fun k_ => (w.heap.size ≤ k_) ∧ some k_ ≠ (.slice Ao54 y270.length co54 : Value).ownBlock ∧ k_ ≠ gb239 ∧ k_ ≠ gb240)) (by (with_reducible repeat (first | apply Kd.N_alloc | apply Kd.N_drewN | apply Kd.N_drew)); exact Kd.N_mono HO_7.out (fun _ hk => ⟨⟨hk.1.1.1.1, ⟨hk.2, ⟨hk.1.1.1.2.2.1, hk.1.1.1.2.2.2⟩⟩⟩, hk.1.1.1.2.1⟩)) hg hat); have n1_ := ak_ (Kd.N_afterv (ok := (fun k_ => (w.heap.size ≤ k_) ∧ some k_ ≠ (.slice Ao54 y270.length co54 : Value).ownBlock ∧ k_ ≠ gb239 ∧ k_ ≠ gb240)) (by (with_reducible repeat (first | apply Kd.N_alloc | apply Kd.N_drewN | apply Kd.N_drew)); exact Kd.N_mono HO_30.out (fun _ hk => ⟨⟨hk.1.1.1.1, ⟨hk.2, ⟨hk.1.1.1.2.2.1, hk.1.1.1.2.2.2⟩⟩⟩, hk.1.1.1.2.1⟩)) hg hat); have n2_ := ak_ (Kd.V_afterv (ok := (fun k_ => (w.heap.size ≤ k_) ∧ some k_ ≠ (.slice Ao54 y270.length co54 : Value).ownBlock ∧ k_ ≠ gb239 ∧ k_ ≠ gb240)) (by (with_reducible repeat (first | apply Kd.V_alloc | apply Kd.V_drewN | apply Kd.V_drew)); exact Kd.V_mono HO_51.out (fun _ hk => ⟨⟨hk.1.1.1.1, ⟨hk.2, ⟨hk.1.1.1.2.2.1, hk.1.1.1.2.2.2⟩⟩⟩, hk.1.1.1.2.1⟩)) hg hat); have mn2_ := ak_ (Kd.V_afterv (ok := (fun k_ => (w.heap.size ≤ k_) ∧ some k_ ≠ (.slice Ao54 y270.length co54 : Value).ownBlock ∧ k_ ≠ gb239 ∧ k_ ≠ gb240)) (by (with_reducible repeat (first | apply Kd.V_alloc | apply Kd.V_drewN | apply Kd.V_drew)); exact Kd.V_mono HL247_0.out (fun _ hk => ⟨⟨hk.1.1.1.1, ⟨hk.2, ⟨hk.1.1.1.2.2.1, hk.1.1.1.2.2.2⟩⟩⟩, hk.1.1.1.2.1⟩)) hg hat); have n3_ := ak_ (blk_grown (pk BK239.out) hg (Kd.N_ne HO_8.out BK239.out (by decide))); have n4_ := ak_ (blk_grown (pk BK240.out) hg (Kd.N_ne HO_8.out BK240.out (by decide))); have n5_ := ak_ (Kd.V_afterv (ok := (fun k_ => (w.heap.size ≤ k_) ∧ some k_ ≠ (.slice Ao54 y270.length co54 : Value).ownBlock ∧ k_ ≠ gb239 ∧ k_ ≠ gb240)) (by (with_reducible repeat (first | apply Kd.V_alloc | apply Kd.V_drewN | apply Kd.V_drew)); exact Kd.V_mono HL263_0.out (fun _ hk => ⟨⟨hk.1.1.1.1, ⟨hk.2, ⟨hk.1.1.1.2.2.1, hk.1.1.1.2.2.2⟩⟩⟩, hk.1.1.1.2.1⟩)) hg hat); have n6_ := ak_ (hb); have n7_ := ak_ (ho); clear HO_7; clear HO_30; clear HO_51; clear BK239; clear BK240; clear HL263_0; clear HB; clear HO_8; clear HO272; have HO_7 := n0_; have HO_30 := n1_; clear HL247_0; have HL247_0 := mn2_; clear mn2_; have HO_51 := n2_; have BK239 := n3_; have BK240 := n4_; have HL263_0 := n5_; have HB := n6_; have HO276 := n7_; clear n0_ n1_ n2_ n3_ n4_ n5_ n6_ n7_; clear ho hb hg hat))
                    go_roundg k3
                    case measure => have := HK1.out; have := HK2.out; have := HK3.out; omega
                    case rel => exact ⟨(y274), (wrap64 (x53_3 + 1)), (ry_), H', ⟨by have := HK1.out; have := HK2.out; have := HK3.out; omega⟩, ⟨by (with_reducible repeat (first | apply Kd.N_alloc | apply Kd.N_drewN | apply Kd.N_drew)); exact Kd.N_mono HO_7.out (fun _ hk => ⟨hk.1.1, ⟨hk.2, ⟨hk.1.2.2.1, hk.1.2.2.2⟩⟩⟩)⟩, ⟨Kd.pN HO276.out⟩, ⟨by (with_reducible repeat (first | apply Kd.N_alloc | apply Kd.N_drewN | apply Kd.N_drew)); exact Kd.N_mono HO_30.out (fun _ hk => ⟨hk.1.1, ⟨hk.2, ⟨hk.1.2.2.1, hk.1.2.2.2⟩⟩⟩)⟩, ⟨by (with_reducible repeat (first | apply Kd.V_alloc | apply Kd.V_drewN | apply Kd.V_drew)); exact Kd.V_mono HO_51.out (fun _ hk => ⟨hk.1.1, ⟨hk.2, ⟨hk.1.2.2.1, hk.1.2.2.2⟩⟩⟩)⟩, ⟨pk BK239.out⟩, ⟨pk BK240.out⟩, ⟨bl_⟩, ⟨by (with_reducible repeat (first | apply Kd.V_alloc | apply Kd.V_drewN | apply Kd.V_drew)); exact Kd.V_mono HL247_0.out (fun _ hk => ⟨hk.1.1, ⟨hk.2, ⟨hk.1.2.2.1, hk.1.2.2.2⟩⟩⟩)⟩⟩
                   ·
                    rw [if_neg c57] at H
                    exact absurd H (by simp)
                  ·
                   replace c56 := Bool.eq_false_iff.mpr c56
                   subst c56
                   have H1 : (spec_toRounds.l2 k3 t244 x8_3 (rd_L1 t244 x32_2) t244 (t244.length : Int) x32_2 y258 (y258.length : Int) (wrap64 (x53_3 + 1)) l0_0 a0_1 a0_2 l1_0 a1_1) = some r := by rw [if_neg (show ¬ (false = true) by decide)] at H; exact H
                   clear H
                   have H := H1
                   clear H1
                   have H' := ak_ H
                   clear H
                   go_wp2
                   go_roundg k3
                   case measure => have := HK1.out; have := HK2.out; have := HK3.out; omega
                   case rel => exact ⟨(x8_3), (wrap64 (x53_3 + 1)), (ry_), H', ⟨by have := HK1.out; have := HK2.out; have := HK3.out; omega⟩, ⟨by (with_reducible repeat (first | apply Kd.N_alloc | apply Kd.N_drewN | apply Kd.N_drew)); exact Kd.N_mono HO_7.out (fun _ hk => ⟨hk.1.1.1.1, ⟨hk.1.1.1.2.1, ⟨hk.1.1.1.2.2.1, hk.1.1.1.2.2.2⟩⟩⟩)⟩, ⟨by (with_reducible repeat (first | apply Kd.N_alloc | apply Kd.N_drewN | apply Kd.N_drew)); exact Kd.N_mono HO_8.out (fun _ hk => ⟨hk.1.1.1.1, ⟨hk.1.1.1.2.1, ⟨hk.1.1.1.2.2.1, ⟨hk.1.1.1.2.2.2.1, hk.1.1.1.2.2.2.2⟩⟩⟩⟩)⟩, ⟨by (with_reducible repeat (first | apply Kd.N_alloc | apply Kd.N_drewN | apply Kd.N_drew)); exact Kd.N_mono HO_30.out (fun _ hk => ⟨hk.1.1.1.1, ⟨hk.1.1.1.2.1, ⟨hk.1.1.1.2.2.1, hk.1.1.1.2.2.2⟩⟩⟩)⟩, ⟨by (with_reducible repeat (first | apply Kd.V_alloc | apply Kd.V_drewN | apply Kd.V_drew)); exact Kd.V_mono HO_51.out (fun _ hk => ⟨hk.1.1.1.1, ⟨hk.1.1.1.2.1, ⟨hk.1.1.1.2.2.1, hk.1.1.1.2.2.2⟩⟩⟩)⟩, ⟨pk BK239.out⟩, ⟨pk BK240.out⟩, ⟨bl_⟩, ⟨by (with_reducible repeat (first | apply Kd.V_alloc | apply Kd.V_drewN | apply Kd.V_drew)); exact Kd.V_mono HL247_0.out (fun _ hk => ⟨hk.1.1.1.1, ⟨hk.1.1.1.2.1, ⟨hk.1.1.1.2.2.1, hk.1.1.1.2.2.2⟩⟩⟩)⟩⟩
                 ·
                  rw [if_neg c40] at H
                  exact absurd H (by simp)
                ·
                 rw [if_neg c39] at H
                 exact absurd H (by simp)
               ·
                rw [if_neg c38] at H
                have c38b0 := decide_eq_false c38
                clear c38
                (first | rw [c38b0] | (simp only [i64_w, i32_w]; rw [c38b0]) | rw [c38b1] | skip)
                have H' := ak_ H
                clear H
                go_wp2
                go_roundg k3
                case measure => have := HK1.out; have := HK2.out; have := HK3.out; omega
                case rel => exact ⟨(x8_3), (wrap64 (x32_2 + 1)), (ry_), H', ⟨by have := HK1.out; have := HK2.out; have := HK3.out; omega⟩, ⟨Kd.pN HO_7.out⟩, ⟨Kd.pN HO_8.out⟩, ⟨Kd.pN HO_30.out⟩, ⟨pk BK239.out⟩, ⟨pk BK240.out⟩, ⟨bl_⟩⟩
            ·
             rw [if_neg c35] at H
             exact absurd H (by simp)
           ·
            rw [if_neg c34] at H
            exact absurd H (by simp)
          ·
           rw [if_neg c32] at H
           exact absurd H (by simp)
         ·
          replace c31 := Bool.eq_false_iff.mpr c31
          subst c31
          have H1 : (if 0 ≤ (wrap64 (x32_2 + 1)) then (if (wrap64 (x32_2 + 1)) ≤ (t244.length : Int) then ((some (t244.drop ((wrap64 (x32_2 + 1)) : Int).toNat : List (List Int))).bind fun y277 => (spec_toRounds.l2 k2 t244 x8_2 (rd_L1 t244 x32_2) t244 (t244.length : Int) x32_2 y277 (y277.length : Int) 0 l0_0 a0_1 a0_2 l1_0 a1_1)) else (none)) else (none)) = some r := by rw [if_neg (show ¬ (false = true) by decide)] at H; exact H
          clear H
          have H := H1
          clear H1
          obtain ⟨ji59, hji59⟩ : ∃ j_ : Int, (wrap64 (x32_2 + 1)) = j_ := ⟨_, rfl⟩
          replace H : (if 0 ≤ (ji59) then (if (ji59) ≤ (t244.length : Int) then ((some (t244.drop ((ji59) : Int).toNat : List (List Int))).bind fun y277 => (spec_toRounds.l2 k2 t244 x8_2 (rd_L1 t244 x32_2) t244 (t244.length : Int) x32_2 y277 (y277.length : Int) 0 l0_0 a0_1 a0_2 l1_0 a1_1)) else (none)) else (none)) = some r := by first | (rw [hji59] at H; exact H) | (simp only [hji59] at H ⊢; exact H)
          have hji59w : (IntKind.i64.wrap (x32_2 + 1)) = ji59 := (i64_w _).trans hji59
          by_cases c60 : 0 ≤ (ji59)
          ·
           rw [if_pos c60] at H
           have c60b0 := eq_true c60
           have c60b1 := decide_eq_true c60
           clear c60
           by_cases c61 : (ji59) ≤ (t244.length : Int)
           ·
            rw [if_pos c61] at H
            have c61b0 := eq_true c61
            have c61b1 := decide_eq_true c61
            clear c61
            obtain ⟨y277, hy277⟩ : ∃ y_ : List (List Int), y_ = (t244.drop ((ji59) : Int).toNat) := ⟨_, rfl⟩
            replace H : (spec_toRounds.l2 k2 t244 x8_2 (rd_L1 t244 x32_2) t244 (t244.length : Int) x32_2 y277 (y277.length : Int) 0 l0_0 a0_1 a0_2 l1_0 a1_1) = some r := by first | (rw [hy277]; exact H) | exact H
            have Ny277 := ak_ hy277
            clear hy277
            have H' := ak_ H
            clear H
            have q62 : ((ji59) : Int) ≤ ((t244.length : Int) : Int) := od_
            obtain ⟨i062, hi062, _, hsz62, _⟩ := info_parts info22
            have hroom62 : t244.length ≤ co15 := (Kd.N_reads' HO_7.out).2.1
            have hC62 : Kd.F (Kd.slice 3 (Kd.int .i64)) _ _ (some ad247) t244.length t244 := (Kd.V_at (base := w.heap.size) (Kd.N_V HO_7.out)).2.2
            have q062 : (0 : Int) ≤ ((ji59) : Int) := od_
            have hcut62 := cut_from (P := Try.prog) 57 22 .i64 Try.underlying57 hi062 1 hsz62 (some ad247) t244.length co15 (ji59) q062 q62
            have hr62 := Kd.F_cut (m := ((ji59) : Int).toNat) (c := co15) hC62 (by omega) hroom62
            obtain ⟨A62, hA62⟩ : ∃ A1, A1 = (if co15 = ((ji59) : Int).toNat then (some ad247) else ((some ad247) : Option Addr).map (·.add (((ji59) : Int).toNat * 1))) := ⟨_, rfl⟩
            obtain ⟨c62, hc62⟩ : ∃ c1, c1 = co15 - ((ji59) : Int).toNat := ⟨_, rfl⟩
            have hy62 : y277.length = t244.length - ((ji59) : Int).toNat := (by rw [Ny277.out, List.length_drop] <;> omega)
            rw [show (t244).drop ((ji59) : Int).toNat = y277 from Ny277.out.symm] at hr62
            replace hr62 : Kd.F (Kd.slice 3 (Kd.int .i64)) _ _ A62 y277.length y277 := (by rw [hA62]; exact hr62)
            rw [← hy62, ← hA62, ← hc62] at hcut62
            have HO281 := ak_ (show Kd.V (Kd.slice 3 (Kd.int .i64)) 22 _ w.heap.size _ (.slice A62 y277.length c62) y277 from Kd.V_mk (by rw [hy62, hc62]; exact Nat.sub_le_sub_right hroom62 _) hr62)
            have HC281 := ak_ (show y277.length ≤ c62 from by rw [hy62, hc62]; exact Nat.sub_le_sub_right hroom62 _)
            clear hr62 hC62 hroom62 hi062 hsz62 hc62
            have KY62 := ak_ hy62
            have KA62 := ak_ hA62
            clear hy62 hA62
            replace q62 := eq_true q62
            go_wp2
            go_loopg [8, 53] k2 (fun kq v8 v53 w' => ∃ (x8_3 : List (List (List Int))) (x53_3 : Int), v53 = .int .i64 x53_3 ∧ Aside0 (spec_toRounds.l2 kq t244 x8_3 (rd_L1 t244 x32_2) t244 (t244.length : Int) x32_2 y277 (y277.length : Int) x53_3 l0_0 a0_1 a0_2 l1_0 a1_1 = some r) ∧ Aside0 (kq ≤ k2) ∧ Aside0 (Kd.N (Kd.slice 3 (Kd.int .i64)) 22 w' w.heap.size (fun k_ => (w.heap.size ≤ k_) ∧ some k_ ≠ (v8 : Value).ownBlock ∧ k_ ≠ gb239 ∧ k_ ≠ gb240) (.slice (some ad247) t244.length co15) t244) ∧ Aside0 (Kd.N (Kd.slice 22 (Kd.slice 3 (Kd.int .i64))) 57 w' w.heap.size (fun k_ => (w.heap.size ≤ k_) ∧ some k_ ≠ ((.slice (some ad247) t244.length co15) : Value).ownBlock ∧ some k_ ≠ ((.slice (some ad247) t244.length co15) : Value).ownBlock ∧ k_ ≠ gb239 ∧ k_ ≠ gb240) v8 x8_3) ∧ Aside0 (Kd.N (Kd.slice 3 (Kd.int .i64)) 22 w' w.heap.size (fun k_ => (w.heap.size ≤ k_) ∧ some k_ ≠ (v8 : Value).ownBlock ∧ k_ ≠ gb239 ∧ k_ ≠ gb240) (.slice (some ad247) t244.length co15) t244) ∧ Aside0 (Kd.V (Kd.slice 3 (Kd.int .i64)) 22 w' w.heap.size (fun k_ => (w.heap.size ≤ k_) ∧ some k_ ≠ (v8 : Value).ownBlock ∧ k_ ≠ gb239 ∧ k_ ≠ gb240) (.slice A62 y277.length c62) y277) ∧ Aside0 (w'.heap[gb239]? = some (.cells #[(.slice A0_0 l0_0.length c0_0), .int .i64 a0_1, .int .i64 a0_2] 33 (0, 0))) ∧ Aside0 (w'.heap[gb240]? = some (.cells #[(.slice A1_0 l1_0.length c1_0), .int .i64 a1_1] 35 (0, 0))) ∧ Aside0 (Below w.heap.size w w') ∧ Aside0 (Kd.V (Kd.int .i64) 3 w' w.heap.size (fun k_ => (w.heap.size ≤ k_) ∧ some k_ ≠ (v8 : Value).ownBlock ∧ k_ ≠ gb239 ∧ k_ ≠ gb240) (.slice A247_0 (rd_L1 t244 x32_2).length c247_0) (rd_L1 t244 x32_2)))
            case atStart => exact ⟨(x8_2), (0), (ry_), H', ⟨Nat.le_refl _⟩, ⟨by (with_reducible repeat (first | apply Kd.N_alloc | apply Kd.N_drewN | apply Kd.N_drew)); exact Kd.N_mono HO_7.out (fun _ hk => ⟨hk.1.1.1, ⟨hk.1.1.2.1, ⟨hk.1.1.2.2.1, hk.1.1.2.2.2⟩⟩⟩)⟩, ⟨by (with_reducible repeat (first | apply Kd.N_alloc | apply Kd.N_drewN | apply Kd.N_drew)); exact Kd.N_mono HO_8.out (fun _ hk => ⟨hk.1.1.1, ⟨hk.1.1.2.1, ⟨hk.1.1.2.2.1, ⟨hk.1.1.2.2.2.1, hk.1.1.2.2.2.2⟩⟩⟩⟩)⟩, ⟨by (with_reducible repeat (first | apply Kd.N_alloc | apply Kd.N_drewN | apply Kd.N_drew)); exact Kd.N_mono HO_30.out (fun _ hk => ⟨hk.1.1.1, ⟨hk.1.1.2.1, ⟨hk.1.1.2.2.1, hk.1.1.2.2.2⟩⟩⟩)⟩, ⟨by (with_reducible repeat (first | apply Kd.V_alloc | apply Kd.V_drewN | apply Kd.V_drew)); exact Kd.V_mono HO281.out (fun _ hk => ⟨hk.1.1.1, ⟨hk.1.1.2.1, ⟨hk.1.1.2.2.1, hk.1.1.2.2.2⟩⟩⟩)⟩, ⟨pk BK239.out⟩, ⟨pk BK240.out⟩, ⟨bl_⟩, ⟨by (with_reducible repeat (first | apply Kd.V_alloc | apply Kd.V_drewN | apply Kd.V_drew)); exact Kd.V_mono HL247_0.out (fun k_ hk => by revert hk; simp only [and_imp]; intros; repeat' (first | assumption | apply And.intro))⟩⟩
            case round =>
             clear H'
             try clear c1
             try clear c2
             try clear p2
             try clear q2
             try clear hx2
             try clear c3
             try clear q3
             try clear c4
             try clear c5
             try clear c6
             try clear p6
             try clear q6
             try clear c7
             try clear c7b0
             try clear c8
             try clear c11
             try clear c16
             try clear c16b0
             try clear c17
             try clear c17b0
             try clear c18
             try clear c18b0
             try clear c24
             try clear p24
             try clear q24
             try clear hx24
             try clear c26
             try clear p26
             try clear q26
             try clear hx26
             try clear c31
             try clear c32
             try clear c34
             try clear c34b0
             try clear c34b1
             try clear c35
             try clear c35b0
             try clear c35b1
             try clear c37
             try clear q37
             try clear c38
             try clear c38b0
             try clear c39
             try clear c39b0
             try clear c40
             try clear c40b0
             try clear c51
             try clear c56
             try clear c57
             try clear c60
             try clear c60b0
             try clear c60b1
             try clear c61
             try clear c61b0
             try clear c61b1
             try clear c62
             try clear q62
             try clear hcz12_0
             try clear hcz12_1
             try clear hcz12_2
             try clear hcz27_0
             try clear hcz27_1
             try clear hcz27_2
             try clear hcz28_0
             try clear hcz28_1
             try clear hcz52_0
             try clear hcz52_1
             try clear hcz52_2
             try clear hcz53_0
             try clear hcz53_1
             try clear hcz6_0
             try clear hcz6_1
             try clear hcz6_2
             try clear hfz12_0
             try clear hfz12_1
             try clear hfz12_2
             try clear hfz27_0
             try clear hfz27_1
             try clear hfz27_2
             try clear hfz28_0
             try clear hfz28_1
             try clear hfz52_0
             try clear hfz52_1
             try clear hfz52_2
             try clear hfz53_0
             try clear hfz53_1
             try clear hfz6_0
             try clear hfz6_1
             try clear hfz6_2
             try clear hx247_0
             try clear hx263_0
             try clear p2
             try clear p24
             try clear p247
             try clear p263
             try clear p6
             try clear q037
             try clear q062
             try clear q2
             try clear q24
             try clear q247
             try clear q263
             try clear q3
             try clear q37
             try clear q62
             clear HL247_0 HR247_0
             obtain ⟨x8_3, x53_3, rfl, HA, HK3, HO_7, HO_8, HO_30, HO_51, BK239, BK240, HB, HL247_0⟩ := hrel
             cases gk with
             | zero => exact absurd HA.out (by simp [spec_toRounds.l2])
             | succ k3 =>
              have H := HA.out
              clear HA
              simp only [spec_toRounds.l2] at H
              by_cases c63 : x53_3 < (y277.length : Int)
              ·
               rw [if_pos c63] at H
               have c63b0 := decide_eq_true c63
               clear c63
               by_cases c64 : 0 ≤ x53_3
               ·
                rw [if_pos c64] at H
                have c64b0 := decide_eq_true c64
                clear c64
                by_cases c65 : x53_3 < (y277.length : Int)
                ·
                 rw [if_pos c65] at H
                 have c65b0 := decide_eq_true c65
                 clear c65
                 replace H := Option.bind_eq_some_iff.mp H
                 obtain ⟨t264, A660, H⟩ := H
                 replace H : ((spec_l1Own.f (rd_L1 y277 x53_3)).bind fun t267 => ((some (([t264, t267] : List (List Int)) : List (List Int))).bind fun y270 => ((spec_toCan.f k3 l0_0 a0_1 a0_2 l1_0 a1_1 y270).bind fun t273 => (if t273 = true then (if x8_3.length < 5864062014805 then (spec_toRounds.l2 k3 t244 (x8_3 ++ [y270]) (rd_L1 t244 x32_2) t244 (t244.length : Int) x32_2 y277 (y277.length : Int) (wrap64 (x53_3 + 1)) l0_0 a0_1 a0_2 l1_0 a1_1) else (none)) else (spec_toRounds.l2 k3 t244 x8_3 (rd_L1 t244 x32_2) t244 (t244.length : Int) x32_2 y277 (y277.length : Int) (wrap64 (x53_3 + 1)) l0_0 a0_1 a0_2 l1_0 a1_1))))) = some r := H
                 have A66 := ak_ A660
                 clear A660
                 replace H := Option.bind_eq_some_iff.mp H
                 obtain ⟨t267, A670, H⟩ := H
                 replace H : ((some (([t264, t267] : List (List Int)) : List (List Int))).bind fun y270 => ((spec_toCan.f k3 l0_0 a0_1 a0_2 l1_0 a1_1 y270).bind fun t273 => (if t273 = true then (if x8_3.length < 5864062014805 then (spec_toRounds.l2 k3 t244 (x8_3 ++ [y270]) (rd_L1 t244 x32_2) t244 (t244.length : Int) x32_2 y277 (y277.length : Int) (wrap64 (x53_3 + 1)) l0_0 a0_1 a0_2 l1_0 a1_1) else (none)) else (spec_toRounds.l2 k3 t244 x8_3 (rd_L1 t244 x32_2) t244 (t244.length : Int) x32_2 y277 (y277.length : Int) (wrap64 (x53_3 + 1)) l0_0 a0_1 a0_2 l1_0 a1_1)))) = some r := H
                 have A67 := ak_ A670
                 clear A670
                 obtain ⟨y270, hy270⟩ : ∃ y_ : List (List Int), y_ = (([t264, t267] : List (List Int))) := ⟨_, rfl⟩
                 replace H : ((spec_toCan.f k3 l0_0 a0_1 a0_2 l1_0 a1_1 y270).bind fun t273 => (if t273 = true then (if x8_3.length < 5864062014805 then (spec_toRounds.l2 k3 t244 (x8_3 ++ [y270]) (rd_L1 t244 x32_2) t244 (t244.length : Int) x32_2 y277 (y277.length : Int) (wrap64 (x53_3 + 1)) l0_0 a0_1 a0_2 l1_0 a1_1) else (none)) else (spec_toRounds.l2 k3 t244 x8_3 (rd_L1 t244 x32_2) t244 (t244.length : Int) x32_2 y277 (y277.length : Int) (wrap64 (x53_3 + 1)) l0_0 a0_1 a0_2 l1_0 a1_1))) = some r := by first | (rw [hy270]; exact H) | exact H
                 have Ny270 := ak_ hy270
                 clear hy270
                 replace H := Option.bind_eq_some_iff.mp H
                 obtain ⟨t273, A680, H⟩ := H
                 replace H : (if t273 = true then (if x8_3.length < 5864062014805 then (spec_toRounds.l2 k3 t244 (x8_3 ++ [y270]) (rd_L1 t244 x32_2) t244 (t244.length : Int) x32_2 y277 (y277.length : Int) (wrap64 (x53_3 + 1)) l0_0 a0_1 a0_2 l1_0 a1_1) else (none)) else (spec_toRounds.l2 k3 t244 x8_3 (rd_L1 t244 x32_2) t244 (t244.length : Int) x32_2 y277 (y277.length : Int) (wrap64 (x53_3 + 1)) l0_0 a0_1 a0_2 l1_0 a1_1)) = some r := H
                 have A68 := ak_ A680
                 clear A680
                 have HC69 := ak_ H
                 clear H
                 have p263 : 0 ≤ (x53_3 : Int) := od_
                 have q263 : x53_3 < (y277.length : Int) := od_
                 obtain ⟨ad263, A263_0, c263_0, e263, hx263_0, hl263_0, hi263_0⟩ := at_L1 (Kd.V_reads' HO_51.out).2.2 x53_3 p263 q263
                 cases e263
                 obtain ⟨ce263, hce263, hMe263, hcc263⟩ := Kd.V_get HO_51.out [] x53_3 p263 (by first | exact q263 | exact odt_ (by assumption) | (have e_ := (Kd.V_reads' HO_51.out).1; omega))
                 obtain ⟨ua263_0, uc263_0, rfl, ul263_0, ge263_0⟩ := Kd.FK_slice_open hMe263
                 have hv263_0 := hcc263 0 _ rfl
                 rw [Nat.add_zero, show ((Kd.slice 3 (Kd.int .i64))).sz = 1 from rfl, Nat.mul_one] at hv263_0
                 replace hv263_0 := Option.some.inj (hv263_0.symm.trans hx263_0)
                 injection hv263_0 with hva_ hvn_ hvc_
                 rw [hva_] at ge263_0
                 rw [hvc_] at ul263_0
                 have HL263_0 := ak_ (show Kd.V (Kd.int .i64) 3 _ w.heap.size _ _ (rd_L1 y277 x53_3) from Kd.V_mk ul263_0 ge263_0)
                 clear hva_ hvn_ hvc_ ge263_0 ul263_0 hcc263 hce263
                 have HR263_0 := ak_ hi263_0
                 have HC263_0 := ak_ hl263_0
                 clear hi263_0 hl263_0
                 replace p263 := eq_true p263
                 replace q263 := eq_true q263
                 go_upto_if 65 with (first | ((with_reducible refine gate_callee (f := 66) rfl ?_); refine goesL_ (some 58) rfl rfl Try.func66 (by kernel_rfl) rfl #[.slice A247_0 (rd_L1 t244 x32_2).length c247_0] rfl rs_ ?_; (with_reducible refine (spec_l1Own.calls _ _ (rd_L1 t244 x32_2) t264 _ ?side1 ?side2 A66.out).mono ?_); (case side1 => exact cs_ ((Kd.V_reads' (Kd.pV HL247_0.out)).2.2)); (case side2 => exact HC247_0.out); rintro e w70 ⟨v265, rfl, ho0, hb⟩; refine ⟨_, rfl, ?_⟩; have n0_ := ak_ (Kd.N_elder' (Kd.pN HO_7.out) (Kd.R_base ho0) hb); have n1_ := ak_ (Kd.N_elder' (Kd.pN HO_8.out) (Kd.R_base ho0) hb); have n2_ := ak_ (Kd.N_elder' (Kd.pN HO_30.out) (Kd.R_base ho0) hb); have n3_ := ak_ (Kd.V_elder' (Kd.pV HO_51.out) (Kd.R_base ho0) hb); have mn3_ := ak_ (Kd.V_elder' (Kd.pV HL247_0.out) (Kd.R_base ho0) hb); have n4_ := ak_ (Kd.V_elder' (Kd.pV HL263_0.out) (Kd.R_base ho0) hb); have n5_ := ak_ (Kd.R_lower (Kd.R_newM (M := fun k_ => (w.heap.size ≤ k_)) ho0 (bz_ bl_) (fun k_ h_ => h_)) (bz_ bl_)); have n6_ := ak_ (blk_below (pk BK239.out) hb); have n7_ := ak_ (blk_below (pk BK240.out) hb); have n8_ := ak_ (Kd.C_below (by repeat (first | (with_reducible exact HR263_0.out) | (with_reducible refine Kd.C_alloc ?_ _) | (with_reducible refine Kd.C_drewN ?_ _) | (with_reducible refine Kd.C_drew ?_) | exact HR263_0.out)) hb); have n9_ := ak_ (bs_ bl_ hb); clear HO_7; clear HO_8; clear HO_30; clear HO_51; clear HL263_0; clear BK239; clear BK240; clear HR263_0; clear HB; have HO_7 := n0_; have HO_8 := n1_; have HO_30 := n2_; clear HL247_0; have HL247_0 := mn3_; clear mn3_; have HO_51 := n3_; have HL263_0 := n4_; have HO266 := n5_; have BK239 := n6_; have BK240 := n7_; have HR263_0 := n8_; have HB := n9_; clear n0_ n1_ n2_ n3_ n4_ n5_ n6_ n7_ n8_ n9_; (try clear hb); (try clear hb2); (try clear hk); (try clear hi); (try clear ho0)) | ((with_reducible refine gate_callee (f := 66) rfl ?_); refine goesL_ (some 60) rfl rfl Try.func66 (by kernel_rfl) rfl #[.slice A263_0 (rd_L1 y277 x53_3).length c263_0] rfl rs_ ?_; (with_reducible refine (spec_l1Own.calls _ _ (rd_L1 y277 x53_3) t267 _ ?side1 ?side2 A67.out).mono ?_); (case side1 => repeat (first | exact (by repeat (first | (with_reducible exact HR263_0.out) | (with_reducible refine Kd.C_alloc ?_ _) | (with_reducible refine Kd.C_drewN ?_ _) | (with_reducible refine Kd.C_drew ?_) | exact HR263_0.out)) | (with_reducible refine Kd.C_alloc ?_ _) | (with_reducible refine Kd.C_drewN ?_ _) | (with_reducible refine Kd.C_drew ?_))); (case side2 => exact HC263_0.out); rintro e w71 ⟨v268, rfl, ho0, hb⟩; refine ⟨_, rfl, ?_⟩; have n0_ := ak_ (Kd.N_elder' (Kd.pN HO_7.out) (Kd.R_base ho0) hb); have n1_ := ak_ (Kd.N_elder' (Kd.pN HO_8.out) (Kd.R_base ho0) hb); have n2_ := ak_ (Kd.N_elder' (Kd.pN HO_30.out) (Kd.R_base ho0) hb); have n3_ := ak_ (Kd.V_elder' (Kd.pV HO_51.out) (Kd.R_base ho0) hb); have mn3_ := ak_ (Kd.V_elder' (Kd.pV HL247_0.out) (Kd.R_base ho0) hb); have n4_ := ak_ (Kd.V_elder' (Kd.pV HL263_0.out) (Kd.R_base ho0) hb); have n5_ := ak_ (Kd.R_elder' (Kd.pR HO266.out) (Kd.R_base ho0) hb); have n6_ := ak_ (Kd.R_lower (Kd.R_new' (Kd.R_newM (M := fun k_ => (w.heap.size ≤ k_)) ho0 (bz_ bl_) (fun k_ h_ => h_)) (Kd.R_lt (Kd.pR HO266.out))) (bz_ bl_)); have n7_ := ak_ (blk_below (pk BK239.out) hb); have n8_ := ak_ (blk_below (pk BK240.out) hb); have n9_ := ak_ (Kd.C_below (by repeat (first | (with_reducible exact HR263_0.out) | (with_reducible refine Kd.C_alloc ?_ _) | (with_reducible refine Kd.C_drewN ?_ _) | (with_reducible refine Kd.C_drew ?_) | exact HR263_0.out)) hb); have n10_ := ak_ (bs_ bl_ hb); clear HO_7; clear HO_8; clear HO_30; clear HO_51; clear HL263_0; clear HO266; clear BK239; clear BK240; clear HR263_0; clear HB; have HO_7 := n0_; have HO_8 := n1_; have HO_30 := n2_; clear HL247_0; have HL247_0 := mn3_; clear mn3_; have HO_51 := n3_; have HL263_0 := n4_; have HO266 := n5_; have HO269 := n6_; have BK239 := n7_; have BK240 := n8_; have HR263_0 := n9_; have HB := n10_; clear n0_ n1_ n2_ n3_ n4_ n5_ n6_ n7_ n8_ n9_ n10_; (try clear hb); (try clear hb2); (try clear hk); (try clear hi); (try clear ho0); obtain ⟨Ao72, co72, eo72⟩ := Kd.R_slice HO266.out; subst eo72; obtain ⟨Ao73, co73, eo73⟩ := Kd.R_slice HO269.out; subst eo73) | ((with_reducible refine gate_dst (N := 61) rfl ?_); refine Kd.N_lit (Kd.slice 3 (Kd.int .i64)) _ 22 ?hg (N' := 61) ?hd (xs := ([t264, t267] : List (List Int))) (inner := [.slice Ao72 t264.length co72, .slice Ao73 t267.length co73]) (ok := (fun k_ => (w.heap.size ≤ k_) ∧ some k_ ≠ (.slice (some ad247) t244.length co15 : Value).ownBlock ∧ some k_ ≠ (u8 : Value).ownBlock ∧ some k_ ≠ (.slice (some ad247) t244.length co15 : Value).ownBlock ∧ k_ ≠ gb239 ∧ k_ ≠ gb240)) (okp := (fun k_ => (w.heap.size ≤ k_) ∧ some k_ ≠ (.slice (some ad247) t244.length co15 : Value).ownBlock ∧ some k_ ≠ (u8 : Value).ownBlock ∧ some k_ ≠ (.slice (some ad247) t244.length co15 : Value).ownBlock ∧ k_ ≠ gb239 ∧ k_ ≠ gb240)) ?hr ?hp (fun _ hk => hk) ((show ∀ k_, w71.heap.size ≤ k_ → (fun k_ => (w.heap.size ≤ k_) ∧ some k_ ≠ (.slice (some ad247) t244.length co15 : Value).ownBlock ∧ some k_ ≠ (u8 : Value).ownBlock ∧ some k_ ≠ (.slice (some ad247) t244.length co15 : Value).ownBlock ∧ k_ ≠ gb239 ∧ k_ ≠ gb240) k_ from fun k_ hk => ⟨(Nat.le_trans (bz_ bl_) hk), Kd.fresh' (Kd.N_lt (Kd.pN HO_7.out)) k_ hk, Kd.fresh' (Kd.N_lt (Kd.pN HO_8.out)) k_ hk, Kd.fresh' (Kd.N_lt (Kd.pN HO_30.out)) k_ hk, Kd.freshB (pk BK239.out) k_ hk, Kd.freshB (pk BK240.out) k_ hk⟩) _ (Nat.le_refl _)) (Below.refl _ _) (Nat.le_refl _) (by simp) ?_; (case hd => rfl); (case hg => rfl); (case hr => go_simp <;> rfl); (case hp => exact (Reps.one (show Kd.FK (Kd.slice 3 (Kd.int .i64)) _ _ t264 [.slice Ao72 t264.length co72] from (Kd.FK_slice_mk (Kd.R_reads' (Kd.R_mono (ok' := (fun k_ => (w.heap.size ≤ k_) ∧ some k_ ≠ (.slice (some ad247) t244.length co15 : Value).ownBlock ∧ some k_ ≠ (u8 : Value).ownBlock ∧ some k_ ≠ (.slice (some ad247) t244.length co15 : Value).ownBlock ∧ k_ ≠ gb239 ∧ k_ ≠ gb240)) (Kd.R_types (Kd.R_types (Kd.R_apart' (Kd.R_apart' (Kd.R_apart' (HO266.out) (Kd.N_typed HO_7.out) (by decide)) (Kd.N_typed HO_8.out) (by decide)) (Kd.N_typed HO_30.out) (by decide)) BK239.out (by decide)) BK240.out (by decide)) (fun k_ hk => ⟨hk.1.1.1.1.1.1.1, ⟨hk.1.1.1.1.2, ⟨hk.1.1.1.2, ⟨hk.1.1.2, ⟨hk.1.2, hk.2⟩⟩⟩⟩⟩))).2.1 (Kd.R_F (Kd.R_mono (ok' := (fun k_ => (w.heap.size ≤ k_) ∧ some k_ ≠ (.slice (some ad247) t244.length co15 : Value).ownBlock ∧ some k_ ≠ (u8 : Value).ownBlock ∧ some k_ ≠ (.slice (some ad247) t244.length co15 : Value).ownBlock ∧ k_ ≠ gb239 ∧ k_ ≠ gb240)) (Kd.R_types (Kd.R_types (Kd.R_apart' (Kd.R_apart' (Kd.R_apart' (HO266.out) (Kd.N_typed HO_7.out) (by decide)) (Kd.N_typed HO_8.out) (by decide)) (Kd.N_typed HO_30.out) (by decide)) BK239.out (by decide)) BK240.out (by decide)) (fun k_ hk => ⟨hk.1.1.1.1.1.1.1, ⟨hk.1.1.1.1.2, ⟨hk.1.1.1.2, ⟨hk.1.1.2, ⟨hk.1.2, hk.2⟩⟩⟩⟩⟩))))) (Reps.one (show Kd.FK (Kd.slice 3 (Kd.int .i64)) _ _ t267 [.slice Ao73 t267.length co73] from (Kd.FK_slice_mk (Kd.R_reads' (Kd.R_mono (ok' := (fun k_ => (w.heap.size ≤ k_) ∧ some k_ ≠ (.slice (some ad247) t244.length co15 : Value).ownBlock ∧ some k_ ≠ (u8 : Value).ownBlock ∧ some k_ ≠ (.slice (some ad247) t244.length co15 : Value).ownBlock ∧ k_ ≠ gb239 ∧ k_ ≠ gb240)) (Kd.R_types (Kd.R_types (Kd.R_apart' (Kd.R_apart' (Kd.R_apart' (HO269.out) (Kd.N_typed HO_7.out) (by decide)) (Kd.N_typed HO_8.out) (by decide)) (Kd.N_typed HO_30.out) (by decide)) BK239.out (by decide)) BK240.out (by decide)) (fun k_ hk => ⟨hk.1.1.1.1.1.1.1, ⟨hk.1.1.1.1.2, ⟨hk.1.1.1.2, ⟨hk.1.1.2, ⟨hk.1.2, hk.2⟩⟩⟩⟩⟩))).2.1 (Kd.R_F (Kd.R_mono (ok' := (fun k_ => (w.heap.size ≤ k_) ∧ some k_ ≠ (.slice (some ad247) t244.length co15 : Value).ownBlock ∧ some k_ ≠ (u8 : Value).ownBlock ∧ some k_ ≠ (.slice (some ad247) t244.length co15 : Value).ownBlock ∧ k_ ≠ gb239 ∧ k_ ≠ gb240)) (Kd.R_types (Kd.R_types (Kd.R_apart' (Kd.R_apart' (Kd.R_apart' (HO269.out) (Kd.N_typed HO_7.out) (by decide)) (Kd.N_typed HO_8.out) (by decide)) (Kd.N_typed HO_30.out) (by decide)) BK239.out (by decide)) BK240.out (by decide)) (fun k_ hk => ⟨hk.1.1.1.1.1.1.1, ⟨hk.1.1.1.1.2, ⟨hk.1.1.1.2, ⟨hk.1.1.2, ⟨hk.1.2, hk.2⟩⟩⟩⟩⟩))))) (Reps.none _ _)))); intro v271 w74 ho75 hb hg_ hnew_; clear hg_ hnew_; (first | rw [← Ny270.out] at ho75 | (simp only [Int.reduceToNat] at ho75; rw [← Ny270.out] at ho75)); have n0_ := ak_ (Kd.N_elder' (Kd.pN HO_7.out) (Kd.N_base ho75) hb); have n1_ := ak_ (Kd.N_elder' (Kd.pN HO_8.out) (Kd.N_base ho75) hb); have n2_ := ak_ (Kd.N_elder' (Kd.pN HO_30.out) (Kd.N_base ho75) hb); have n3_ := ak_ (Kd.V_elder' (Kd.pV HO_51.out) (Kd.N_base ho75) hb); have mn3_ := ak_ (Kd.V_elder' (Kd.pV HL247_0.out) (Kd.N_base ho75) hb); have n4_ := ak_ (Kd.V_elder' (Kd.pV HL263_0.out) (Kd.N_base ho75) hb); have n5_ := ak_ (Kd.N_lower ho75 (bz_ bl_)); have n6_ := ak_ (blk_below (pk BK239.out) hb); have n7_ := ak_ (blk_below (pk BK240.out) hb); have n8_ := ak_ (Kd.C_below (by repeat (first | (with_reducible exact HR263_0.out) | (with_reducible refine Kd.C_alloc ?_ _) | (with_reducible refine Kd.C_drewN ?_ _) | (with_reducible refine Kd.C_drew ?_) | exact HR263_0.out)) hb); have n9_ := ak_ (bs_ bl_ hb); clear HO_7; clear HO_8; clear HO_30; clear HO_51; clear HL263_0; clear BK239; clear BK240; clear HR263_0; clear HB; clear HO266; clear HO269; have HO_7 := n0_; have HO_8 := n1_; have HO_30 := n2_; clear HL247_0; have HL247_0 := mn3_; clear mn3_; have HO_51 := n3_; have HL263_0 := n4_; have HO272 := n5_; have BK239 := n6_; have BK240 := n7_; have HR263_0 := n8_; have HB := n9_; clear n0_ n1_ n2_ n3_ n4_ n5_ n6_ n7_ n8_ n9_; clear hb ho75; have hnb76 := NB239_240.out; have hnc76 := NB240_239.out; obtain ⟨hcz77_0, hcz77_1, hcz77_2, hfz77_0, hfz77_1, hfz77_2⟩ := c3_ BK239.out; obtain ⟨hcz78_0, hcz78_1, hfz78_0, hfz78_1⟩ := c2_ BK240.out; obtain ⟨Ao79, co79, eo79⟩ := Kd.N_slice HO272.out; subst eo79) | ((with_reducible refine gate_callee (f := 67) rfl ?_); refine goesL_ (some 65) rfl rfl Try.func67 (by kernel_rfl) rfl #[.agg #[.slice A0_0 l0_0.length c0_0, .int .i64 a0_1, .int .i64 a0_2], .agg #[.slice A1_0 l1_0.length c1_0, .int .i64 a1_1], .slice Ao79 y270.length co79] rfl rs_ ?_; (with_reducible refine (spec_toCan.calls k3 _ _ l0_0 a0_1 a0_2 _ _ l1_0 a1_1 _ _ y270 t273 _ ?side1 ?side2 ?side3 ?side4 ?side5 ?side6 A68.out).mono ?_); (case side1 => exact cs_ (Kd.C_below HR0_0.out HB.out)); (case side2 => exact HC0_0.out); (case side3 => exact cs_ (Kd.C_below HR1_0.out HB.out)); (case side4 => exact HC1_0.out); (case side5 => exact cs_ ((Kd.N_reads' HO272.out).2.2)); (case side6 => exact (Kd.N_reads' HO272.out).2.1); rintro e w80 ⟨rfl, hb⟩; refine ⟨_, rfl, ?_⟩; have n0_ := ak_ (Kd.N_below (Kd.pN HO_7.out) hb); have n1_ := ak_ (Kd.N_below (Kd.pN HO_8.out) hb); have n2_ := ak_ (Kd.N_below (Kd.pN HO_30.out) hb); have n3_ := ak_ (Kd.V_below (Kd.pV HO_51.out) hb); have mn3_ := ak_ (Kd.V_below (Kd.pV HL247_0.out) hb); have n4_ := ak_ (Kd.V_below (Kd.pV HL263_0.out) hb); have n5_ := ak_ (Kd.N_below (Kd.pN HO272.out) hb); have n6_ := ak_ (blk_below (pk BK239.out) hb); have n7_ := ak_ (blk_below (pk BK240.out) hb); have n8_ := ak_ (Kd.C_below (by repeat (first | (with_reducible exact HR263_0.out) | (with_reducible refine Kd.C_alloc ?_ _) | (with_reducible refine Kd.C_drewN ?_ _) | (with_reducible refine Kd.C_drew ?_) | exact HR263_0.out)) hb); have n9_ := ak_ (bs_ bl_ hb); clear HO_7; clear HO_8; clear HO_30; clear HO_51; clear HL263_0; clear HO272; clear BK239; clear BK240; clear HR263_0; clear HB; have HO_7 := n0_; have HO_8 := n1_; have HO_30 := n2_; clear HL247_0; have HL247_0 := mn3_; clear mn3_; have HO_51 := n3_; have HL263_0 := n4_; have HO272 := n5_; have BK239 := n6_; have BK240 := n7_; have HR263_0 := n8_; have HB := n9_; clear n0_ n1_ n2_ n3_ n4_ n5_ n6_ n7_ n8_ n9_; (try clear hb); (try clear hb2); (try clear hk); (try clear hi)))
                 (try simp only [Act.put, setIfInBounds_toArray, set_cons_zero, set_cons_succ])
                 have H := HC69.out
                 clear HC69
                 by_cases c81 : t273 = true
                 ·
                  subst c81
                  have H1 : (if x8_3.length < 5864062014805 then (spec_toRounds.l2 k3 t244 (x8_3 ++ [y270]) (rd_L1 t244 x32_2) t244 (t244.length : Int) x32_2 y277 (y277.length : Int) (wrap64 (x53_3 + 1)) l0_0 a0_1 a0_2 l1_0 a1_1) else (none)) = some r := by rw [if_pos rfl] at H; exact H
                  clear H
                  have H := H1
                  clear H1
                  by_cases c82 : x8_3.length < 5864062014805
                  ·
                   rw [if_pos c82] at H
                   have LMc82 := ak_ c82
                   clear c82
                   obtain ⟨y274, hy274⟩ : ∃ y_ : List (List (List Int)), y_ = (x8_3 ++ [y270]) := ⟨_, rfl⟩
                   replace H : (spec_toRounds.l2 k3 t244 y274 (rd_L1 t244 x32_2) t244 (t244.length : Int) x32_2 y277 (y277.length : Int) (wrap64 (x53_3 + 1)) l0_0 a0_1 a0_2 l1_0 a1_1) = some r := by first | (rw [hy274]; exact H) | exact H
                   have Ny274 := ak_ hy274
                   clear hy274
                   have H' := ak_ H
                   clear H
                   go_wp2_with (first | ((with_reducible refine gate_builtin (b := .append) (xs := #[.tmp 66, .tmp 68]) rfl ?_); at_builtin; refine Kd.N_append (Kd.slice 22 (Kd.slice 3 (Kd.int .i64))) (w0 := w) w.heap.size rfl (.tmp 66) (.tmp 68) 30 57 (.slice none 0 0) 24 rfl Try.underlying30 info57 rfl (by decide) (by omega) u8 x8_3 y270 [.slice Ao79 y270.length co79] (fun k_ => (w.heap.size ≤ k_) ∧ some k_ ≠ (.slice (some ad247) t244.length co15 : Value).ownBlock ∧ some k_ ≠ (.slice (some ad247) t244.length co15 : Value).ownBlock ∧ k_ ≠ gb239 ∧ k_ ≠ gb240) (fun k_ => ((fun k_ => (w.heap.size ≤ k_) ∧ some k_ ≠ (.slice (some ad247) t244.length co15 : Value).ownBlock ∧ some k_ ≠ (.slice (some ad247) t244.length co15 : Value).ownBlock ∧ k_ ≠ gb239 ∧ k_ ≠ gb240)) k_ ∧ some k_ ≠ (u8 : Value).ownBlock) rfl rfl ?aP (fun _ hk => hk) ?aF ?aO ?aB ?aS ?aL ?_; (case aP => exact (Kd.FK_slice_mk (Kd.N_reads' (Kd.N_mono (ok' := (fun k_ => ((fun k_ => (w.heap.size ≤ k_) ∧ some k_ ≠ (.slice (some ad247) t244.length co15 : Value).ownBlock ∧ some k_ ≠ (.slice (some ad247) t244.length co15 : Value).ownBlock ∧ k_ ≠ gb239 ∧ k_ ≠ gb240)) k_ ∧ some k_ ≠ (u8 : Value).ownBlock)) (HO272.out) (fun k_ hk => ⟨⟨hk.1, ⟨hk.2.1, ⟨hk.2.2.2.1, ⟨hk.2.2.2.2.1, hk.2.2.2.2.2⟩⟩⟩⟩, hk.2.2.1⟩))).2.1 (Kd.N_F (Kd.N_mono (ok' := (fun k_ => ((fun k_ => (w.heap.size ≤ k_) ∧ some k_ ≠ (.slice (some ad247) t244.length co15 : Value).ownBlock ∧ some k_ ≠ (.slice (some ad247) t244.length co15 : Value).ownBlock ∧ k_ ≠ gb239 ∧ k_ ≠ gb240)) k_ ∧ some k_ ≠ (u8 : Value).ownBlock)) (HO272.out) (fun k_ hk => ⟨⟨hk.1, ⟨hk.2.1, ⟨hk.2.2.2.1, ⟨hk.2.2.2.2.1, hk.2.2.2.2.2⟩⟩⟩⟩, hk.2.2.1⟩))))); (case aB => exact bl_); (case aF => exact (fun k_ hk => ⟨(Nat.le_trans (bz_ bl_) hk), Kd.fresh' (Kd.N_lt (Kd.pN HO_7.out)) k_ hk, Kd.fresh' (Kd.N_lt (Kd.pN HO_30.out)) k_ hk, Kd.freshB (pk BK239.out) k_ hk, Kd.freshB (pk BK240.out) k_ hk⟩)); (case aO => exact (by (with_reducible repeat (first | apply Kd.N_alloc | apply Kd.N_drewN | apply Kd.N_drew)); exact Kd.N_mono HO_8.out (fun _ hk => ⟨hk.1.1.1.1, ⟨hk.1.1.1.2.1, ⟨hk.1.1.1.2.2.1, ⟨hk.1.1.1.2.2.2.1, hk.1.1.1.2.2.2.2⟩⟩⟩⟩))); (case aS => exact (bz_ bl_)); (case aL => have := LMc82.out; omega); intro v275 w83 ho hb hg hat; rw [← Ny274.out] at ho; have n0_ := ak_ (Kd.N_afterv (ok := (fun k_ => (w.heap.size ≤ k_) ∧ some k_ ≠ (.slice Ao79 y270.length co79 : Value).ownBlock ∧ k_ ≠ gb239 ∧ k_ ≠ gb240)) (by (with_reducible repeat (first | apply Kd.N_alloc | apply Kd.N_drewN | apply Kd.N_drew)); exact Kd.N_mono HO_7.out (fun _ hk => ⟨⟨hk.1.1.1.1, ⟨hk.2, ⟨hk.1.1.1.2.2.1, hk.1.1.1.2.2.2⟩⟩⟩, hk.1.1.1.2.1⟩)) hg hat); have n1_ := ak_ (Kd.N_afterv (ok := (fun k_ => (w.heap.size ≤ k_) ∧ some k_ ≠ (.slice Ao79 y270.length co79 : Value).ownBlock ∧ k_ ≠ gb239 ∧ k_ ≠ gb240)) (by (with_reducible repeat (first | apply Kd.N_alloc | apply Kd.N_drewN | apply Kd.N_drew)); exact Kd.N_mono HO_30.out (fun _ hk => ⟨⟨hk.1.1.1.1, ⟨hk.2, ⟨hk.1.1.1.2.2.1, hk.1.1.1.2.2.2⟩⟩⟩, hk.1.1.1.2.1⟩)) hg hat); have n2_ := ak_ (Kd.V_afterv (ok := (fun k_ => (w.heap.size ≤ k_) ∧ some k_ ≠ (.slice Ao79 y270.length co79 : Value).ownBlock ∧ k_ ≠ gb239 ∧ k_ ≠ gb240)) (by (with_reducible repeat (first | apply Kd.V_alloc | apply Kd.V_drewN | apply Kd.V_drew)); exact Kd.V_mono HO_51.out (fun _ hk => ⟨⟨hk.1.1.1.1, ⟨hk.2, ⟨hk.1.1.1.2.2.1, hk.1.1.1.2.2.2⟩⟩⟩, hk.1.1.1.2.1⟩)) hg hat); have mn2_ := ak_ (Kd.V_afterv (ok := (fun k_ => (w.heap.size ≤ k_) ∧ some k_ ≠ (.slice Ao79 y270.length co79 : Value).ownBlock ∧ k_ ≠ gb239 ∧ k_ ≠ gb240)) (by (with_reducible repeat (first | apply Kd.V_alloc | apply Kd.V_drewN | apply Kd.V_drew)); exact Kd.V_mono HL247_0.out (fun _ hk => ⟨⟨hk.1.1.1.1, ⟨hk.2, ⟨hk.1.1.1.2.2.1, hk.1.1.1.2.2.2⟩⟩⟩, hk.1.1.1.2.1⟩)) hg hat); have n3_ := ak_ (blk_grown (pk BK239.out) hg (Kd.N_ne HO_8.out BK239.out (by decide))); have n4_ := ak_ (blk_grown (pk BK240.out) hg (Kd.N_ne HO_8.out BK240.out (by decide))); have n5_ := ak_ (Kd.V_afterv (ok := (fun k_ => (w.heap.size ≤ k_) ∧ some k_ ≠ (.slice Ao79 y270.length co79 : Value).ownBlock ∧ k_ ≠ gb239 ∧ k_ ≠ gb240)) (by (with_reducible repeat (first | apply Kd.V_alloc | apply Kd.V_drewN | apply Kd.V_drew)); exact Kd.V_mono HL263_0.out (fun _ hk => ⟨⟨hk.1.1.1.1, ⟨hk.2, ⟨hk.1.1.1.2.2.1, hk.1.1.1.2.2.2⟩⟩⟩, hk.1.1.1.2.1⟩)) hg hat); have n6_ := ak_ (hb); have n7_ := ak_ (ho); clear HO_7; clear HO_30; clear HO_51; clear BK239; clear BK240; clear HL263_0; clear HB; clear HO_8; clear HO272; have HO_7 := n0_; have HO_30 := n1_; clear HL247_0; have HL247_0 := mn2_; clear mn2_; have HO_51 := n2_; have BK239 := n3_; have BK240 := n4_; have HL263_0 := n5_; have HB := n6_; have HO276 := n7_; clear n0_ n1_ n2_ n3_ n4_ n5_ n6_ n7_; clear ho hb hg hat))
                   go_roundg k3
                   case measure => have := HK1.out; have := HK2.out; have := HK3.out; omega
                   case rel => exact ⟨(y274), (wrap64 (x53_3 + 1)), (ry_), H', ⟨by have := HK1.out; have := HK2.out; have := HK3.out; omega⟩, ⟨by (with_reducible repeat (first | apply Kd.N_alloc | apply Kd.N_drewN | apply Kd.N_drew)); exact Kd.N_mono HO_7.out (fun _ hk => ⟨hk.1.1, ⟨hk.2, ⟨hk.1.2.2.1, hk.1.2.2.2⟩⟩⟩)⟩, ⟨Kd.pN HO276.out⟩, ⟨by (with_reducible repeat (first | apply Kd.N_alloc | apply Kd.N_drewN | apply Kd.N_drew)); exact Kd.N_mono HO_30.out (fun _ hk => ⟨hk.1.1, ⟨hk.2, ⟨hk.1.2.2.1, hk.1.2.2.2⟩⟩⟩)⟩, ⟨by (with_reducible repeat (first | apply Kd.V_alloc | apply Kd.V_drewN | apply Kd.V_drew)); exact Kd.V_mono HO_51.out (fun _ hk => ⟨hk.1.1, ⟨hk.2, ⟨hk.1.2.2.1, hk.1.2.2.2⟩⟩⟩)⟩, ⟨pk BK239.out⟩, ⟨pk BK240.out⟩, ⟨bl_⟩, ⟨by (with_reducible repeat (first | apply Kd.V_alloc | apply Kd.V_drewN | apply Kd.V_drew)); exact Kd.V_mono HL247_0.out (fun _ hk => ⟨hk.1.1, ⟨hk.2, ⟨hk.1.2.2.1, hk.1.2.2.2⟩⟩⟩)⟩⟩
                  ·
                   rw [if_neg c82] at H
                   exact absurd H (by simp)
                 ·
                  replace c81 := Bool.eq_false_iff.mpr c81
                  subst c81
                  have H1 : (spec_toRounds.l2 k3 t244 x8_3 (rd_L1 t244 x32_2) t244 (t244.length : Int) x32_2 y277 (y277.length : Int) (wrap64 (x53_3 + 1)) l0_0 a0_1 a0_2 l1_0 a1_1) = some r := by rw [if_neg (show ¬ (false = true) by decide)] at H; exact H
                  clear H
                  have H := H1
                  clear H1
                  have H' := ak_ H
                  clear H
                  go_wp2
                  go_roundg k3
                  case measure => have := HK1.out; have := HK2.out; have := HK3.out; omega
                  case rel => exact ⟨(x8_3), (wrap64 (x53_3 + 1)), (ry_), H', ⟨by have := HK1.out; have := HK2.out; have := HK3.out; omega⟩, ⟨by (with_reducible repeat (first | apply Kd.N_alloc | apply Kd.N_drewN | apply Kd.N_drew)); exact Kd.N_mono HO_7.out (fun _ hk => ⟨hk.1.1.1.1, ⟨hk.1.1.1.2.1, ⟨hk.1.1.1.2.2.1, hk.1.1.1.2.2.2⟩⟩⟩)⟩, ⟨by (with_reducible repeat (first | apply Kd.N_alloc | apply Kd.N_drewN | apply Kd.N_drew)); exact Kd.N_mono HO_8.out (fun _ hk => ⟨hk.1.1.1.1, ⟨hk.1.1.1.2.1, ⟨hk.1.1.1.2.2.1, ⟨hk.1.1.1.2.2.2.1, hk.1.1.1.2.2.2.2⟩⟩⟩⟩)⟩, ⟨by (with_reducible repeat (first | apply Kd.N_alloc | apply Kd.N_drewN | apply Kd.N_drew)); exact Kd.N_mono HO_30.out (fun _ hk => ⟨hk.1.1.1.1, ⟨hk.1.1.1.2.1, ⟨hk.1.1.1.2.2.1, hk.1.1.1.2.2.2⟩⟩⟩)⟩, ⟨by (with_reducible repeat (first | apply Kd.V_alloc | apply Kd.V_drewN | apply Kd.V_drew)); exact Kd.V_mono HO_51.out (fun _ hk => ⟨hk.1.1.1.1, ⟨hk.1.1.1.2.1, ⟨hk.1.1.1.2.2.1, hk.1.1.1.2.2.2⟩⟩⟩)⟩, ⟨pk BK239.out⟩, ⟨pk BK240.out⟩, ⟨bl_⟩, ⟨by (with_reducible repeat (first | apply Kd.V_alloc | apply Kd.V_drewN | apply Kd.V_drew)); exact Kd.V_mono HL247_0.out (fun _ hk => ⟨hk.1.1.1.1, ⟨hk.1.1.1.2.1, ⟨hk.1.1.1.2.2.1, hk.1.1.1.2.2.2⟩⟩⟩)⟩⟩
                ·
                 rw [if_neg c65] at H
                 exact absurd H (by simp)
               ·
                rw [if_neg c64] at H
                exact absurd H (by simp)
              ·
               rw [if_neg c63] at H
               have c63b0 := decide_eq_false c63
               clear c63
               have H' := ak_ H
               clear H
               go_wp2
               go_roundg k3
               case measure => have := HK1.out; have := HK2.out; have := HK3.out; omega
               case rel => exact ⟨(x8_3), (wrap64 (x32_2 + 1)), (ry_), H', ⟨by have := HK1.out; have := HK2.out; have := HK3.out; omega⟩, ⟨Kd.pN HO_7.out⟩, ⟨Kd.pN HO_8.out⟩, ⟨Kd.pN HO_30.out⟩, ⟨pk BK239.out⟩, ⟨pk BK240.out⟩, ⟨bl_⟩⟩
           ·
            rw [if_neg c61] at H
            exact absurd H (by simp)
          ·
           rw [if_neg c60] at H
           exact absurd H (by simp)
        ·
         rw [if_neg c18] at H
         exact absurd H (by simp)
       ·
        rw [if_neg c17] at H
        exact absurd H (by simp)
      ·
       rw [if_neg c16] at H
       have c16b0 := decide_eq_false c16
       clear c16
       obtain rfl := Option.some.inj H
       go_wp2
       go_ret
       exact ⟨_, rx_, by (with_reducible repeat (first | apply Kd.N_alloc | apply Kd.N_drewN | apply Kd.N_drew)); exact Kd.N_mono HO_8.out (fun _ hk => hk.1), bl_⟩
def spec_toCampOf.l0 : Nat → Int → Int → Int → List Int → Int → Int → List Bool → Int → Option (List Bool × Int)
 | 0, _, _, _, _, _, _, _, _ => none
 | k + 1, x1, x15, x16, x283000, x283001, x283002, x285000, x285001 => if x16 < x15 then (if (wrap64 (x283002 + 1)) = 0 then (none) else (if 0 ≤ x16 then (if x285000.length < 140737488355328 then (spec_toCampOf.l0 k x1 x15 (wrap64 (x16 + 1)) x283000 x283001 x283002 (x285000 ++ [((Int.tmod (shr .i64 (wrap64 (Int.tdiv x1 (wrap64 (x283002 + 1)))) x16) 2) == 1)]) x285001) else (none)) else (none))) else (some (x285000, x285001))
def spec_toCampOf.f (k : Nat) (l0_0 : List Int) (a0_1 : Int) (a0_2 : Int) (a1 : Int) : Option (List Bool × Int) := if (wrap64 (a0_2 + 1)) = 0 then (none) else (spec_toCampOf.l0 k a1 (l0_0.length : Int) 0 l0_0 a0_1 a0_2 ([] : List Bool) (Int.tmod a1 (wrap64 (a0_2 + 1))))
theorem spec_toCampOf.mono_l : ∀ k, (∀ y0 y1 y2 y3 y4 y5 y6 y7, LeO (spec_toCampOf.l0 k y0 y1 y2 y3 y4 y5 y6 y7) (spec_toCampOf.l0 (k + 1) y0 y1 y2 y3 y4 y5 y6 y7))
 | 0 => fun _ _ _ _ _ _ _ _ r h => by simp [spec_toCampOf.l0] at h
 | k + 1 => by
  have ih0 := spec_toCampOf.mono_l k
  ·intro y0 y1 y2 y3 y4 y5 y6 y7
   unfold spec_toCampOf.l0
   repeat' first
   | (with_reducible first | exact ih0 _ _ _ _ _ _ _ _ | exact LeO.refl _ | exact LeO.none _ | refine LeO.ite ?_ ?_ | refine LeO.bind ?_ (fun _ => ?_))
theorem spec_toCampOf.mono : ∀ a0 a1 a2 a3 k, LeO (spec_toCampOf.f k a0 a1 a2 a3) (spec_toCampOf.f (k + 1) a0 a1 a2 a3) := by
 intro a0 a1 a2 a3 k
 have ih0 := spec_toCampOf.mono_l k
 unfold spec_toCampOf.f
 repeat' first
  | (with_reducible first | exact ih0 _ _ _ _ _ _ _ _ | exact LeO.refl _ | exact LeO.none _ | refine LeO.ite ?_ ?_ | refine LeO.bind ?_ (fun _ => ?_))
def spec_toCampOf.T5 : Bool × List (List Nat × List Nat) := (true, [([], []), ([0], [0]), ([], []), ([], []), ([3], [3]), ([4], [4]), ([2, 5], [2, 5]), ([], []), ([6, 7], [6, 7]), ([8], [8]), ([9], [9]), ([10], [10]), ([1, 11], [1, 11]), ([0, 1, 2, 3, 4, 5, 6, 7, 8, 9, 10, 11, 12], []), ([13, 12, 12, 0, 1, 2, 3, 4, 5, 6, 7, 8, 9, 10, 11, 12], [12, 13])])
def spec_toCampOf.B5 : List Nat := [0, 1, 0, 0, 8, 24, 60, 0, 252, 508, 1020, 2044, 4095, 8191, 16383]
theorem spec_toCampOf.tab5 : rtab .any (opsOf Try.f51 5) = spec_toCampOf.T5 := by kernel_rfl
theorem spec_toCampOf.bits5 : waitsOk spec_toCampOf.T5.2 spec_toCampOf.B5 = true := by kernel_rfl
theorem spec_toCampOf.calls (k : Nat) (A0_0 : Option Addr) (c0_0 : Nat) (l0_0 : List Int) (a0_1 : Int) (a0_2 : Int) (a1 : Int) (r1 : List Bool) (r2 : Int) (w : World) (hr0_0 : Kd.C (Kd.int .i64) w A0_0 l0_0.length l0_0) (hc0_0 : l0_0.length ≤ c0_0) (h : spec_toCampOf.f k l0_0 a0_1 a0_2 a1 = some (r1, r2)) :
  Calls Try.prog 51 #[.agg #[.slice A0_0 l0_0.length c0_0, .int .i64 a0_1, .int .i64 a0_2], .int .i64 a1] w fun e w' => ∃ v0_ : Value, e = .returned (.agg #[v0_, .int .i64 r2]) ∧ Kd.R Kd.bool 4 w' w.heap.size (fun _ => True) v0_ r1 ∧ Below w.heap.size w w' := by
 have hu33 := Try.underlying33
 have hu35 := Try.underlying35
 have HR0_0 := ak_ hr0_0
 have HC0_0 := ak_ hc0_0
 clear hr0_0 hc0_0
 have HB := ak_ (Below.refl w.heap.size w)
 have H : (if (wrap64 (a0_2 + 1)) = 0 then (none) else (spec_toCampOf.l0 k a1 (l0_0.length : Int) 0 l0_0 a0_1 a0_2 ([] : List Bool) (Int.tmod a1 (wrap64 (a0_2 + 1))))) = some (r1, r2) := h
 clear h
 by_cases c3 : (wrap64 (a0_2 + 1)) = 0
 ·
  rw [if_pos c3] at H
  exact absurd H (by simp)
 ·
  rw [if_neg c3] at H
  have c3b0 : ((wrap64 (a0_2 + 1)) == 0) = false := beq_eq_false_iff_ne.mpr c3
  have c3b1 : ((wrap64 (a0_2 + 1)) != 0) = true := bne_iff_ne.mpr c3
  have H' := ak_ H
  clear H
  go_enter Try.func51, Try.ntmps51
  go_wp2_with (first | ((with_reducible refine gate_dst (N := 2) rfl ?_); refine bx_ 2 #[.slice A0_0 l0_0.length c0_0, .int .i64 a0_1, .int .i64 a0_2] 33 ?_; intro gb282 hg w4 hbox hb; have BK282 := ak_ (hbox); have GW282 := ak_ ((by rw [hg]; exact (bz_ (bb_ HB.out)) : w.heap.size ≤ gb282)); replace HB := ak_ (bs_ (bb_ HB.out) hb); have GE282 := GW282; clear hb hbox hg) | ((with_reducible refine gate_dst (N := 4) rfl ?_); refine bx_ 4 #[.slice none 0 0, .int .i64 0] 35 ?_; intro gb283 hg w5 hbox hb; have BK283 := ak_ (hbox); have GW283 := ak_ ((by rw [hg]; exact (bz_ bl_) : w.heap.size ≤ gb283)); replace HB := ak_ (bs_ bl_ hb); have GE283 := GW283; have NB282_283 := ak_ ((by rw [hg]; exact Nat.ne_of_lt (blk_lt (pk BK282.out)) : gb282 ≠ gb283)); replace BK282 := ak_ (blk_below (pk BK282.out) hb); have NB283_282 := ak_ NB282_283.out.symm; clear hb hbox hg; have hnb6 := NB282_283.out; have hnc6 := NB283_282.out; obtain ⟨hcz7_0, hcz7_1, hcz7_2, hfz7_0, hfz7_1, hfz7_2⟩ := c3_ BK282.out) | ((with_reducible refine gate_dst (N := 5) rfl ?_); refine bx_ 5 #[.slice none 0 0, .int .i64 0] 35 ?_; intro gb284 hg w8 hbox hb; have BK284 := ak_ (hbox); have GW284 := ak_ ((by rw [hg]; exact (bz_ bl_) : w.heap.size ≤ gb284)); replace HB := ak_ (bs_ bl_ hb); have GE284 := GW284; have NB282_284 := ak_ ((by rw [hg]; exact Nat.ne_of_lt (blk_lt (pk BK282.out)) : gb282 ≠ gb284)); replace BK282 := ak_ (blk_below (pk BK282.out) hb); have NB284_282 := ak_ NB282_284.out.symm; have NB283_284 := ak_ ((by rw [hg]; exact Nat.ne_of_lt (blk_lt (pk BK283.out)) : gb283 ≠ gb284)); replace BK283 := ak_ (blk_below (pk BK283.out) hb); have NB284_283 := ak_ NB283_284.out.symm; clear hb hbox hg; have hnb9 := NB284_282.out; have hnc9 := NB282_284.out; have hnb10 := NB284_283.out; have hnc10 := NB283_284.out; obtain ⟨hcz11_0, hcz11_1, hfz11_0, hfz11_1⟩ := c2_ BK284.out; obtain ⟨hcz12_0, hcz12_1, hcz12_2, hfz12_0, hfz12_1, hfz12_2⟩ := c3_ BK282.out))
  go_loopg [16] k (fun kq v16 w' => ∃ (x16_1 : Int) (x285000_1 : List Bool) (u285000 : Value), v16 = .int .i64 x16_1 ∧ Aside0 (spec_toCampOf.l0 kq a1 (l0_0.length : Int) x16_1 l0_0 a0_1 a0_2 x285000_1 (Int.tmod a1 (wrap64 (a0_2 + 1))) = some (r1, r2)) ∧ Aside0 (kq ≤ k) ∧ Aside0 (Kd.R Kd.bool 4 w' w.heap.size (fun _ => True) u285000 x285000_1) ∧ Aside0 (w'.heap[gb282]? = some (.cells #[(.slice A0_0 l0_0.length c0_0), .int .i64 a0_1, .int .i64 a0_2] 33 (0, 0))) ∧ Aside0 (w'.heap[gb283]? = some (.cells #[(.slice none 0 0), .int .i64 0] 35 (0, 0))) ∧ Aside0 (w'.heap[gb284]? = some (.cells #[u285000, .int .i64 (Int.tmod a1 (wrap64 (a0_2 + 1)))] 35 (0, 0))) ∧ Aside0 (Below w.heap.size w w'))
  case atStart => exact ⟨(0), (([] : List Bool)), (.slice none 0 0), (ry_), H', ⟨Nat.le_refl _⟩, ⟨by first | exact Kd.R_nil _ _ _ _ _ | exact Kd.N_nil _ _ _ _ _ | exact Kd.V_nil _ _ _ _ _ | exact Kd.Q_nil _ _ _ _ _ | exact Kd.S_nil _ _ _ _ _⟩, ⟨by (with_reducible repeat (first | refine kN_ ?_ _ | refine k1_ ?_ | refine ka_ ?_ _)); refine blk_far ?_ NB282_284.out _; (with_reducible repeat (first | refine kN_ ?_ _ | refine k1_ ?_ | refine ka_ ?_ _)); refine blk_far ?_ NB282_284.out _; exact pk BK282.out⟩, ⟨by (with_reducible repeat (first | refine kN_ ?_ _ | refine k1_ ?_ | refine ka_ ?_ _)); refine blk_far ?_ NB283_284.out _; (with_reducible repeat (first | refine kN_ ?_ _ | refine k1_ ?_ | refine ka_ ?_ _)); refine blk_far ?_ NB283_284.out _; exact pk BK283.out⟩, ⟨by (with_reducible repeat (first | refine kN_ ?_ _ | refine k1_ ?_ | refine ka_ ?_ _)); refine blk_put (cs := #[.slice none 0 0, .int .i64 0]) ?_ 1 _ rfl; (with_reducible repeat (first | refine kN_ ?_ _ | refine k1_ ?_ | refine ka_ ?_ _)); refine blk_put (cs := #[.slice none 0 0, .int .i64 0]) ?_ 0 _ rfl; exact pk BK284.out⟩, ⟨bl_⟩⟩
  case round =>
   clear H'
   try clear c1
   try clear p2
   try clear c3
   try clear c3b0
   try clear c3b1
   try clear c5
   try clear c6
   try clear p6
   try clear c9
   try clear c10
   try clear hcz11_0
   try clear hcz11_1
   try clear hcz12_0
   try clear hcz12_1
   try clear hcz12_2
   try clear hcz7_0
   try clear hcz7_1
   try clear hcz7_2
   try clear hfz11_0
   try clear hfz11_1
   try clear hfz12_0
   try clear hfz12_1
   try clear hfz12_2
   try clear hfz7_0
   try clear hfz7_1
   try clear hfz7_2
   obtain ⟨x16_1, x285000_1, u285000, rfl, HA, HK1, HO_285000, BK282, BK283, BK284, HB⟩ := hrel
   cases gk with
   | zero => exact absurd HA.out (by simp [spec_toCampOf.l0])
   | succ k1 =>
    have H := HA.out
    clear HA
    simp only [spec_toCampOf.l0] at H
    by_cases c13 : x16_1 < (l0_0.length : Int)
    ·
     rw [if_pos c13] at H
     have c13b0 := decide_eq_true c13
     clear c13
     by_cases c14 : (wrap64 (a0_2 + 1)) = 0
     ·
      rw [if_pos c14] at H
      exact absurd H (by simp)
     ·
      rw [if_neg c14] at H
      have c14b0 : ((wrap64 (a0_2 + 1)) == 0) = false := beq_eq_false_iff_ne.mpr c14
      have c14b1 : ((wrap64 (a0_2 + 1)) != 0) = true := bne_iff_ne.mpr c14
      by_cases c15 : 0 ≤ x16_1
      ·
       rw [if_pos c15] at H
       have c15b0 := eq_true c15
       have c15b1 := decide_eq_true c15
       clear c15
       obtain ⟨ji16, hji16⟩ : ∃ j_ : Int, (shr .i64 (wrap64 (Int.tdiv a1 (wrap64 (a0_2 + 1)))) x16_1) = j_ := ⟨_, rfl⟩
       replace H : (if x285000_1.length < 140737488355328 then (spec_toCampOf.l0 k1 a1 (l0_0.length : Int) (wrap64 (x16_1 + 1)) l0_0 a0_1 a0_2 (x285000_1 ++ [((Int.tmod (ji16) 2) == 1)]) (Int.tmod a1 (wrap64 (a0_2 + 1)))) else (none)) = some (r1, r2) := by first | (rw [hji16] at H; exact H) | (simp only [hji16] at H ⊢; exact H)
       have hji16_ : ((wrap64 (Int.tdiv a1 (wrap64 (a0_2 + 1)))) / 2 ^ min x16_1.toNat 64) = ji16 := hji16
       have hji16z : x16_1 ≤ 64 → ((wrap64 (Int.tdiv a1 (wrap64 (a0_2 + 1)))) / 2 ^ x16_1.toNat) = ji16 := shr_small hji16
       by_cases c17 : x285000_1.length < 140737488355328
       ·
        rw [if_pos c17] at H
        have LMc17 := ak_ c17
        clear c17
        obtain ⟨y285, hy285⟩ : ∃ y_ : List Bool, y_ = (x285000_1 ++ [((Int.tmod (ji16) 2) == 1)]) := ⟨_, rfl⟩
        replace H : (spec_toCampOf.l0 k1 a1 (l0_0.length : Int) (wrap64 (x16_1 + 1)) l0_0 a0_1 a0_2 y285 (Int.tmod a1 (wrap64 (a0_2 + 1)))) = some (r1, r2) := by first | (rw [hy285]; exact H) | exact H
        have Ny285 := ak_ hy285
        clear hy285
        have H' := ak_ H
        clear H
        try go_wp2
        have n0_ := ak_ (Kd.R_drew HO_285000.out)
        have n1_ := ak_ (k1_ BK282.out)
        have n2_ := ak_ (k1_ BK283.out)
        have n3_ := ak_ (k1_ BK284.out)
        have n4_ := ak_ (b1_ HB.out)
        clear HO_285000 BK282 BK283 BK284 HB
        have HO_285000 := n0_; have BK282 := n1_; have BK283 := n2_; have BK284 := n3_; have HB := n4_
        clear n0_ n1_ n2_ n3_ n4_
        refine start_ (n := 15) (S := fun w' => w'.cell? ⟨gb284, 0, none⟩ = some (u285000) ∧ w'.cell? ⟨gb284, 1, none⟩ = some (.int .i64 (Int.tmod a1 (wrap64 (a0_2 + 1)))) ∧ w'.cell? ⟨gb282, 0, none⟩ = some (.slice A0_0 l0_0.length c0_0) ∧ w'.cell? ⟨gb282, 1, none⟩ = some (.int .i64 a0_1) ∧ w'.cell? ⟨gb282, 2, none⟩ = some (.int .i64 a0_2)) (ds := [14]) (mb_ 15 0) (by kernel_rfl) rfl rfl ⟨(blk_cell BK284.out 0).trans rfl, (blk_cell BK284.out 1).trans rfl, (blk_cell BK282.out 0).trans rfl, (blk_cell BK282.out 1).trans rfl, (blk_cell BK282.out 2).trans rfl⟩ (fun hHeld => ?_); refine with_tabW spec_toCampOf.tab5 spec_toCampOf.bits5 (fun HT_ HW_ => ?_)
        generalize wr.drew = w18 at HO_285000 BK282 BK283 BK284 HB hHeld ⊢
        refine pu_ 0 19 15 1 ?_
        refine pu_ 2 21 15 5 ?_
        refine pu_ 3 22 15 13 ?_
        refine pu_ 7 26 15 141 ?_
        refine tk_ 1 20 15 143 ?_ (hy := by rintro w' ⟨s0, s1, s2, s3, s4⟩; go_simp; with_reducible rfl)
        refine tk_ 4 23 15 159 ?_ (hy := by rintro w' ⟨s0, s1, s2, s3, s4⟩; go_simp; with_reducible rfl)
        refine pu_ 5 24 15 191 ?_
        refine pu_ 6 25 15 255 ?_
        refine pu_ 8 27 15 511 ?_
        refine pu_ 9 28 15 1023 ?_
        refine pu_ 10 29 15 2047 ?_
        refine on_ 11 30 15 4095 (fun K hK => ?_)
        refine value_ (w1 := ?_) (v := ?_) (by rfl) rfl ?_ ?_
        rotate_left 2
        ·
         go_simp
         constructor
         ·
          rfl
         ·
          rfl
        refine hK.out _ _ ⟨(blk_cell (ka_ BK284.out _) 0).trans rfl, (blk_cell (ka_ BK284.out _) 1).trans rfl, (blk_cell (ka_ BK282.out _) 0).trans rfl, (blk_cell (ka_ BK282.out _) 1).trans rfl, (blk_cell (ka_ BK282.out _) 2).trans rfl⟩ (fun hHeld => ?_)
        clear hK K
        refine nm_ ?_
        refine on_ 12 31 15 8191 (fun K hK => ?_)
        refine Kd.R_append_step Kd.bool (w0 := w) w.heap.size (by rfl) (.tmp 20) (.tmp 30) 25 4 (.bool false) 1 rfl Try.underlying25 info4 rfl (by decide) (by omega) u285000 x285000_1 ((Int.tmod (ji16) 2) == 1) [.bool ((Int.tmod (ji16) 2) == 1)] (fun _ => True) (fun _ => False) rfl rfl ?aP (fun _ hk => hk.elim) ?aF ?aO ?aB ?aS ?aL ?_
        (case aP => exact rfl)
        (case aB => exact bl_)
        (case aF => exact (fun _ _ => trivial))
        (case aO => exact (Kd.pR HO_285000.out))
        (case aS => exact (bz_ bl_))
        (case aL => have := LMc17.out; omega)
        intro v286 w19 ho hb hg hat
        rw [← Ny285.out] at ho
        have n0_ := ak_ (blk_grown (pk BK282.out) hg (Kd.R_ne HO_285000.out BK282.out (by decide)))
        have n1_ := ak_ (blk_grown (pk BK283.out) hg (Kd.R_ne HO_285000.out BK283.out (by decide)))
        have n2_ := ak_ (blk_grown (pk BK284.out) hg (Kd.R_ne HO_285000.out BK284.out (by decide)))
        have n3_ := ak_ (hb)
        have n4_ := ak_ (ho)
        clear BK282 BK283 BK284 HB HO_285000
        have BK282 := n0_; have BK283 := n1_; have BK284 := n2_; have HB := n3_; have HO287 := n4_
        clear n0_ n1_ n2_ n3_ n4_ ho hb hg hat
        obtain ⟨Ao20, co20, eo20⟩ := Kd.R_slice HO287.out
        (first | subst eo20 | (injection eo20 with f1_ f2_ f3_; have f4_ := f1_.symm; have f5_ := f3_.symm; clear f1_ f2_ f3_; subst f4_; subst f5_))
        refine hK.out _ _ ⟨(blk_cell BK284.out 0).trans rfl, (blk_cell BK284.out 1).trans rfl, (blk_cell BK282.out 0).trans rfl, (blk_cell BK282.out 1).trans rfl, (blk_cell BK282.out 2).trans rfl⟩ (fun hHeld => ?_)
        clear hK K
        refine nm_ ?_
        refine pu_ 13 32 15 16383 ?_
        refine last_ (i := 14) (N := none) (mb_ 15 32767) rfl rfl (one_of HT_.out (by kernel_rfl)) (by decide) (fun K hK => ?_)
        have hs21 : w19.cell? ⟨gb284, 0, none⟩ = some (u285000) := (blk_cell BK284.out 0).trans rfl
        have hfs21 := blk_frozen BK284.out 0
        have hns21_0 := NB282_284.out
        have hns21_1 := NB283_284.out
        have hms21_0 := NB284_282.out
        have hms21_1 := NB284_283.out
        refine skip_ (w1 := ?_) (by rfl) rfl ?_ ?_
        rotate_left
        ·
         go_simp
         rfl
        refine hK.out _ _ ?_
        clear hK K
        refine done_ (done_of HT_.out (by kernel_rfl)) ?_
        try go_wp2
        go_roundg k1
        case measure => have := HK1.out; omega
        case rel => exact ⟨(wrap64 (x16_1 + 1)), (y285), (.slice Ao20 y285.length co20), (ry_), H', ⟨by have := HK1.out; omega⟩, ⟨by (with_reducible repeat (first | apply Kd.R_alloc | apply Kd.R_drewN | apply Kd.R_drew)); exact Kd.R_mono (Kd.R_far (p := ⟨gb284, 0, none⟩) (Kd.R_types HO287.out BK284.out (by decide)) (fun _ hk => hk.2) (.slice Ao20 y285.length co20)) (fun _ hk => trivial)⟩, ⟨by (with_reducible repeat (first | refine kN_ ?_ _ | refine k1_ ?_ | refine ka_ ?_ _)); refine blk_far ?_ NB282_284.out _; exact pk BK282.out⟩, ⟨by (with_reducible repeat (first | refine kN_ ?_ _ | refine k1_ ?_ | refine ka_ ?_ _)); refine blk_far ?_ NB283_284.out _; exact pk BK283.out⟩, ⟨by (with_reducible repeat (first | refine kN_ ?_ _ | refine k1_ ?_ | refine ka_ ?_ _)); refine blk_put (cs := #[u285000, .int .i64 (Int.tmod a1 (wrap64 (a0_2 + 1)))]) ?_ 0 _ rfl; exact pk BK284.out⟩, ⟨bl_⟩⟩
       ·
        rw [if_neg c17] at H
        exact absurd H (by simp)
      ·
       rw [if_neg c15] at H
       exact absurd H (by simp)
    ·
     rw [if_neg c13] at H
     have c13b0 := decide_eq_false c13
     clear c13
     simp only [Option.some.injEq, Prod.mk.injEq] at H
     obtain ⟨rfl, rfl⟩ := H
     have hnb22 := NB284_282.out
     have hnc22 := NB282_284.out
     have hnb23 := NB284_283.out
     have hnc23 := NB283_284.out
     obtain ⟨hcz24_0, hcz24_1, hfz24_0, hfz24_1⟩ := c2_ BK284.out
     obtain ⟨Ao25, co25, eo25⟩ := Kd.R_slice HO_285000.out
     subst eo25
     have hnb26 := NB283_282.out
     have hnc26 := NB282_283.out
     obtain ⟨hcz27_0, hcz27_1, hfz27_0, hfz27_1⟩ := c2_ BK283.out
     go_wp2
     refine bodyPost_ret (results_cell_row rfl _ _ gb283 35 #[.slice Ao25 x285000_1.length co25, .int .i64 (Int.tmod a1 (wrap64 (a0_2 + 1)))] (0, 0) _ rfl (by (with_reducible repeat (first | refine kN_ ?_ _ | refine k1_ ?_ | refine ka_ ?_ _)); refine blk_put (cs := #[.slice Ao25 x285000_1.length co25, .int .i64 0]) ?_ 1 _ rfl; (with_reducible repeat (first | refine kN_ ?_ _ | refine k1_ ?_ | refine ka_ ?_ _)); refine blk_put (cs := #[.slice none 0 0, .int .i64 0]) ?_ 0 _ rfl; exact pk BK283.out) Try.underlying35 rfl (by kernel_rfl)) rfl ?_
     exact ⟨_, rx_, by (with_reducible repeat (first | apply Kd.R_alloc | apply Kd.R_drewN | apply Kd.R_drew)); exact Kd.R_mono (Kd.R_far (p := ⟨gb283, 1, none⟩) (Kd.R_far (p := ⟨gb283, 0, none⟩) (Kd.R_types HO_285000.out BK283.out (by decide)) (fun _ hk => hk.2) (.slice Ao25 x285000_1.length co25)) (fun _ hk => hk.2) (.int .i64 (Int.tmod a1 (wrap64 (a0_2 + 1))))) (fun _ hk => trivial), bl_⟩
def spec_toCode.l0 : Nat → Int → List Bool → Int → Int → List Int → Int → Int → Option (Int)
 | 0, _, _, _, _, _, _, _ => none
 | k + 1, x5, x11, x12, x13, x289000, x289001, x289002 => if x13 < x12 then (if 0 ≤ x13 then (if x13 < (x11.length : Int) then (if rdOf false x11 x13 = true then (spec_toCode.l0 k (wrap64 (x5 + (shl .i64 (wrap64 (x289002 + 1)) x13))) x11 x12 (wrap64 (x13 + 1)) x289000 x289001 x289002) else (spec_toCode.l0 k x5 x11 x12 (wrap64 (x13 + 1)) x289000 x289001 x289002)) else (none)) else (none)) else (some x5)
def spec_toCode.f (k : Nat) (l0_0 : List Int) (a0_1 : Int) (a0_2 : Int) (l1_0 : List Bool) (a1_1 : Int) : Option (Int) := spec_toCode.l0 k a1_1 l1_0 (l1_0.length : Int) 0 l0_0 a0_1 a0_2
theorem spec_toCode.mono_l : ∀ k, (∀ y0 y1 y2 y3 y4 y5 y6, LeO (spec_toCode.l0 k y0 y1 y2 y3 y4 y5 y6) (spec_toCode.l0 (k + 1) y0 y1 y2 y3 y4 y5 y6))
 | 0 => fun _ _ _ _ _ _ _ r h => by simp [spec_toCode.l0] at h
 | k + 1 => by
  have ih0 := spec_toCode.mono_l k
  ·intro y0 y1 y2 y3 y4 y5 y6
   unfold spec_toCode.l0
   repeat' first
   | (with_reducible first | exact ih0 _ _ _ _ _ _ _ | exact LeO.refl _ | exact LeO.none _ | refine LeO.ite ?_ ?_ | refine LeO.bind ?_ (fun _ => ?_))
theorem spec_toCode.mono : ∀ a0 a1 a2 a3 a4 k, LeO (spec_toCode.f k a0 a1 a2 a3 a4) (spec_toCode.f (k + 1) a0 a1 a2 a3 a4) := by
 intro a0 a1 a2 a3 a4 k
 have ih0 := spec_toCode.mono_l k
 unfold spec_toCode.f
 repeat' first
  | (with_reducible first | exact ih0 _ _ _ _ _ _ _ | exact LeO.refl _ | exact LeO.none _ | refine LeO.ite ?_ ?_ | refine LeO.bind ?_ (fun _ => ?_))
theorem spec_toCode.calls (k : Nat) (A0_0 : Option Addr) (c0_0 : Nat) (l0_0 : List Int) (a0_1 : Int) (a0_2 : Int) (A1_0 : Option Addr) (c1_0 : Nat) (l1_0 : List Bool) (a1_1 : Int) (r : Int) (w : World) (hr0_0 : Kd.C (Kd.int .i64) w A0_0 l0_0.length l0_0) (hc0_0 : l0_0.length ≤ c0_0) (hr1_0 : Kd.C Kd.bool w A1_0 l1_0.length l1_0) (hc1_0 : l1_0.length ≤ c1_0) (h : spec_toCode.f k l0_0 a0_1 a0_2 l1_0 a1_1 = some r) :
  Calls Try.prog 52 #[.agg #[.slice A0_0 l0_0.length c0_0, .int .i64 a0_1, .int .i64 a0_2], .agg #[.slice A1_0 l1_0.length c1_0, .int .i64 a1_1]] w fun e w' => e = .returned (.int .i64 r) ∧ Below w.heap.size w w' := by
 have hu33 := Try.underlying33
 have hu35 := Try.underlying35
 have HR0_0 := ak_ hr0_0
 have HC0_0 := ak_ hc0_0
 clear hr0_0 hc0_0
 have HR1_0 := ak_ hr1_0
 have HC1_0 := ak_ hc1_0
 clear hr1_0 hc1_0
 have HB := ak_ (Below.refl w.heap.size w)
 have H : (spec_toCode.l0 k a1_1 l1_0 (l1_0.length : Int) 0 l0_0 a0_1 a0_2) = some r := h
 clear h
 have H' := ak_ H
 clear H
 go_enter Try.func52, Try.ntmps52
 go_wp2_with (first | ((with_reducible refine gate_dst (N := 2) rfl ?_); refine bx_ 2 #[.slice A0_0 l0_0.length c0_0, .int .i64 a0_1, .int .i64 a0_2] 33 ?_; intro gb288 hg w3 hbox hb; have BK288 := ak_ (hbox); have GW288 := ak_ ((by rw [hg]; exact (bz_ (bb_ HB.out)) : w.heap.size ≤ gb288)); replace HB := ak_ (bs_ (bb_ HB.out) hb); have GE288 := GW288; clear hb hbox hg) | ((with_reducible refine gate_dst (N := 3) rfl ?_); refine bx_ 3 #[.slice A1_0 l1_0.length c1_0, .int .i64 a1_1] 35 ?_; intro gb289 hg w4 hbox hb; have BK289 := ak_ (hbox); have GW289 := ak_ ((by rw [hg]; exact (bz_ bl_) : w.heap.size ≤ gb289)); replace HB := ak_ (bs_ bl_ hb); have GE289 := GW289; have NB288_289 := ak_ ((by rw [hg]; exact Nat.ne_of_lt (blk_lt (pk BK288.out)) : gb288 ≠ gb289)); replace BK288 := ak_ (blk_below (pk BK288.out) hb); have NB289_288 := ak_ NB288_289.out.symm; clear hb hbox hg; have hnb5 := NB289_288.out; have hnc5 := NB288_289.out; obtain ⟨hcz6_0, hcz6_1, hfz6_0, hfz6_1⟩ := c2_ BK289.out))
 go_loopg [5, 13] k (fun kq v5 v13 w' => ∃ (x5_1 : Int) (x13_1 : Int), v5 = .int .i64 x5_1 ∧ v13 = .int .i64 x13_1 ∧ Aside0 (spec_toCode.l0 kq x5_1 l1_0 (l1_0.length : Int) x13_1 l0_0 a0_1 a0_2 = some r) ∧ Aside0 (kq ≤ k) ∧ Aside0 (w'.heap[gb288]? = some (.cells #[(.slice A0_0 l0_0.length c0_0), .int .i64 a0_1, .int .i64 a0_2] 33 (0, 0))) ∧ Aside0 (w'.heap[gb289]? = some (.cells #[(.slice A1_0 l1_0.length c1_0), .int .i64 a1_1] 35 (0, 0))) ∧ Aside0 (Below w.heap.size w w'))
 case atStart => exact ⟨(a1_1), (0), (ry_), (ry_), H', ⟨Nat.le_refl _⟩, ⟨pk BK288.out⟩, ⟨pk BK289.out⟩, ⟨bl_⟩⟩
 case round =>
  clear H'
  try clear c1
  try clear p2
  try clear c5
  try clear hcz6_0
  try clear hcz6_1
  try clear hfz6_0
  try clear hfz6_1
  obtain ⟨x5_1, x13_1, rfl, rfl, HA, HK1, BK288, BK289, HB⟩ := hrel
  cases gk with
  | zero => exact absurd HA.out (by simp [spec_toCode.l0])
  | succ k1 =>
   have H := HA.out
   clear HA
   simp only [spec_toCode.l0] at H
   by_cases c7 : x13_1 < (l1_0.length : Int)
   ·
    rw [if_pos c7] at H
    have c7b0 := decide_eq_true c7
    clear c7
    by_cases c8 : 0 ≤ x13_1
    ·
     rw [if_pos c8] at H
     have c8b0 := decide_eq_true c8
     clear c8
     by_cases c9 : x13_1 < (l1_0.length : Int)
     ·
      rw [if_pos c9] at H
      have c9b0 := decide_eq_true c9
      clear c9
      obtain ⟨bq10, hbq10⟩ : ∃ b_ : Bool, b_ = (rdOf false l1_0 x13_1) := ⟨_, rfl⟩
      replace H : (if bq10 = true then (spec_toCode.l0 k1 (wrap64 (x5_1 + (shl .i64 (wrap64 (a0_2 + 1)) x13_1))) l1_0 (l1_0.length : Int) (wrap64 (x13_1 + 1)) l0_0 a0_1 a0_2) else (spec_toCode.l0 k1 x5_1 l1_0 (l1_0.length : Int) (wrap64 (x13_1 + 1)) l0_0 a0_1 a0_2)) = some r := by rw [← hbq10] at H; exact H
      have Nbq10 := ak_ hbq10
      clear hbq10
      by_cases c11 : bq10 = true
      ·
       subst c11
       have H1 : (spec_toCode.l0 k1 (wrap64 (x5_1 + (shl .i64 (wrap64 (a0_2 + 1)) x13_1))) l1_0 (l1_0.length : Int) (wrap64 (x13_1 + 1)) l0_0 a0_1 a0_2) = some r := by rw [if_pos rfl] at H; exact H
       clear H
       have H := H1
       clear H1
       have c12b0 := eq_true (odt_ (by assumption) : 0 ≤ x13_1)
       obtain ⟨ji13, hji13⟩ : ∃ j_ : Int, (shl .i64 (wrap64 (a0_2 + 1)) x13_1) = j_ := ⟨_, rfl⟩
       replace H : (spec_toCode.l0 k1 (wrap64 (x5_1 + (ji13))) l1_0 (l1_0.length : Int) (wrap64 (x13_1 + 1)) l0_0 a0_1 a0_2) = some r := by first | (rw [hji13] at H; exact H) | (simp only [hji13] at H ⊢; exact H)
       have hji13_ : (IntKind.i64.wrap ((wrap64 (a0_2 + 1)) * 2 ^ min x13_1.toNat 64)) = ji13 := hji13
       have hji13z : x13_1 ≤ 64 → (IntKind.i64.wrap ((wrap64 (a0_2 + 1)) * 2 ^ x13_1.toNat)) = ji13 := shl_small hji13
       have hji13y : (wrap64 ((wrap64 (a0_2 + 1)) * 2 ^ min x13_1.toNat 64)) = ji13 := (i64_w _).symm.trans hji13_
       have hji13x : x13_1 ≤ 64 → (wrap64 ((wrap64 (a0_2 + 1)) * 2 ^ x13_1.toNat)) = ji13 := fun h_ => (i64_w _).symm.trans (hji13z h_)
       have H' := ak_ H
       clear H
       have p290 : 0 ≤ (x13_1 : Int) := od_
       have q290 : x13_1 < (l1_0.length : Int) := od_
       obtain ⟨ad290, e290, hx290_0⟩ := Kd.at_bool HR1_0.out x13_1 p290 q290
       (try rw [← Nbq10.out] at hx290_0)
       cases e290
       try replace hx290_0 := (HB.out.cell (World.block_lt_of_cell? w _ hx290_0)).trans hx290_0
       replace p290 := eq_true p290
       replace q290 := eq_true q290
       have hnb14 := NB288_289.out
       have hnc14 := NB289_288.out
       obtain ⟨hcz15_0, hcz15_1, hcz15_2, hfz15_0, hfz15_1, hfz15_2⟩ := c3_ BK288.out
       go_wp2
       go_roundg k1
       case measure => have := HK1.out; omega
       case rel => exact ⟨(wrap64 (x5_1 + (ji13))), (wrap64 (x13_1 + 1)), (by first | rfl | (simp; done) | (simp only [← hji13] <;> (first | rfl | simp)) | (simp [*]; done)), (ry_), H', ⟨by have := HK1.out; omega⟩, ⟨pk BK288.out⟩, ⟨pk BK289.out⟩, ⟨bl_⟩⟩
      ·
       replace c11 := Bool.eq_false_iff.mpr c11
       subst c11
       have H1 : (spec_toCode.l0 k1 x5_1 l1_0 (l1_0.length : Int) (wrap64 (x13_1 + 1)) l0_0 a0_1 a0_2) = some r := by rw [if_neg (show ¬ (false = true) by decide)] at H; exact H
       clear H
       have H := H1
       clear H1
       have H' := ak_ H
       clear H
       have p290 : 0 ≤ (x13_1 : Int) := od_
       have q290 : x13_1 < (l1_0.length : Int) := od_
       obtain ⟨ad290, e290, hx290_0⟩ := Kd.at_bool HR1_0.out x13_1 p290 q290
       (try rw [← Nbq10.out] at hx290_0)
       cases e290
       try replace hx290_0 := (HB.out.cell (World.block_lt_of_cell? w _ hx290_0)).trans hx290_0
       replace p290 := eq_true p290
       replace q290 := eq_true q290
       go_wp2
       go_roundg k1
       case measure => have := HK1.out; omega
       case rel => exact ⟨(x5_1), (wrap64 (x13_1 + 1)), (ry_), (ry_), H', ⟨by have := HK1.out; omega⟩, ⟨pk BK288.out⟩, ⟨pk BK289.out⟩, ⟨bl_⟩⟩
     ·
      rw [if_neg c9] at H
      exact absurd H (by simp)
    ·
     rw [if_neg c8] at H
     exact absurd H (by simp)
   ·
    rw [if_neg c7] at H
    have c7b0 := decide_eq_false c7
    clear c7
    obtain rfl := Option.some.inj H
    go_wp2
    go_ret
    exact ⟨rx_, bl_⟩
end Go.Proofs.Ytmdbhpbogbekmaa.QNt
