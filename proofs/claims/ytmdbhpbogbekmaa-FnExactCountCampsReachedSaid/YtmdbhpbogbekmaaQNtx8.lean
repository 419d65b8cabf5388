/- Contracts of functions of the given program, walked. Conditions: those at each theorem. -/
import Derived.Test.YtmdbhpbogbekmaaQNtx0
import Derived.Test.YtmdbhpbogbekmaaQNtx5
import Derived.Test.YtmdbhpbogbekmaaQNtx6
namespace Go.Proofs.Ytmdbhpbogbekmaa.QNt
open Go.RowKit Go.Proofs.YtmdbhpbogbekmaaW.PrintWords Go.Proofs.YtmdbhpbogbekmaaW.PrintLast Go.Proofs.YtmdbhpbogbekmaaW.PrintMore
open List (setIfInBounds_toArray set_cons_zero set_cons_succ map_toArray map_cons map_nil)
attribute [local go_sem] max2_int min2_int max_two min_two max_three min_three max_four min_four
set_option linter.unusedVariables false
set_option maxHeartbeats 8000000
set_option maxRecDepth 100000
set_option linter.unusedSimpArgs false
mutual
def spec_CountCampsReached.l0 : Nat → List Bool → List Int → Int → List Int → Int → Int → Option (Int × Bool)
 | 0, _, _, _, _, _, _ => none
 | k + 1, x4, x5, x6, x322000, x322001, x322002 => if x6 < (x5.length : Int) then (if 0 ≤ x6 then ((spec_toCampOf.f k x322000 x322001 x322002 (rd x5 x6)).bind fun bt331 => ((spec_toRounds.f k x322000 x322001 x322002 bt331.1 bt331.2).bind fun t336 => (spec_CountCampsReached.l1 k x4 x5 x6 t336 (t336.length : Int) 0 x322000 x322001 x322002 bt331.1 bt331.2))) else (none)) else (some ((x5.length : Int), true))
def spec_CountCampsReached.l1 : Nat → List Bool → List Int → Int → List (List (List Int)) → Int → Int → List Int → Int → Int → List Bool → Int → Option (Int × Bool)
 | 0, _, _, _, _, _, _, _, _, _, _, _ => none
 | k + 1, x4, x5, x6, x39, x40, x41, x322000, x322001, x322002, x336000, x336001 => if x41 < x40 then (if 0 ≤ x41 then (if x41 < (x39.length : Int) then ((spec_toAfter.f k x336000 x336001 (rd_L3 x39 x41)).bind fun bt340 => ((spec_toCode.f k x322000 x322001 x322002 bt340.1 bt340.2).bind fun t344 => (if 0 ≤ t344 then (if t344 < (x4.length : Int) then (if rdOf false x4 t344 = true then (spec_CountCampsReached.l1 k x4 x5 x6 x39 x40 (wrap64 (x41 + 1)) x322000 x322001 x322002 x336000 x336001) else (if x5.length < 17592186044416 then (spec_CountCampsReached.l1 k (x4.set (t344 : Int).toNat true) (x5 ++ [t344]) x6 x39 x40 (wrap64 (x41 + 1)) x322000 x322001 x322002 x336000 x336001) else (none))) else (none)) else (none)))) else (none)) else (none)) else (spec_CountCampsReached.l0 k x4 x5 (wrap64 (x6 + 1)) x322000 x322001 x322002)
end
def spec_CountCampsReached.f (k : Nat) (l0_0 : List Int) (a0_1 : Int) (a0_2 : Int) : Option (Int × Bool) := (spec_toGood.f k l0_0 a0_1 a0_2).bind fun t322 => (if t322 = true then (if 0 ≤ (shl .i64 (wrap64 (a0_2 + 1)) (l0_0.length : Int)) then (if (shl .i64 (wrap64 (a0_2 + 1)) (l0_0.length : Int) : Int).toNat ≤ 281474976710656 then ((some (List.replicate (shl .i64 (wrap64 (a0_2 + 1)) (l0_0.length : Int) : Int).toNat false : List Bool)).bind fun y323 => (if 0 < (y323.length : Int) then (spec_CountCampsReached.l0 k (y323.set (0 : Int).toNat true) (([0] : List Int)) 0 l0_0 a0_1 a0_2) else (none))) else (none)) else (none)) else (some (0, false)))
theorem spec_CountCampsReached.mono_l : ∀ k, (∀ y0 y1 y2 y3 y4 y5, LeO (spec_CountCampsReached.l0 k y0 y1 y2 y3 y4 y5) (spec_CountCampsReached.l0 (k + 1) y0 y1 y2 y3 y4 y5)) ∧ (∀ y0 y1 y2 y3 y4 y5 y6 y7 y8 y9 y10, LeO (spec_CountCampsReached.l1 k y0 y1 y2 y3 y4 y5 y6 y7 y8 y9 y10) (spec_CountCampsReached.l1 (k + 1) y0 y1 y2 y3 y4 y5 y6 y7 y8 y9 y10))
 | 0 => ⟨fun _ _ _ _ _ _ r h => by simp [spec_CountCampsReached.l0] at h, fun _ _ _ _ _ _ _ _ _ _ _ r h => by simp [spec_CountCampsReached.l1] at h⟩
 | k + 1 => by
  obtain ⟨ih0, ih1⟩ := spec_CountCampsReached.mono_l k
  refine ⟨?_, ?_⟩
  ·intro y0 y1 y2 y3 y4 y5
   unfold spec_CountCampsReached.l0
   repeat' first
   | (with_reducible first | exact ih0 _ _ _ _ _ _ | exact ih1 _ _ _ _ _ _ _ _ _ _ _ | exact spec_toAfter.mono _ _ _ _ | exact spec_toCampOf.mono _ _ _ _ _ | exact spec_toCode.mono _ _ _ _ _ _ | exact spec_toGood.mono _ _ _ _ | exact spec_toRounds.mono _ _ _ _ _ _ | exact LeO.refl _ | exact LeO.none _ | refine LeO.ite ?_ ?_ | refine LeO.bind ?_ (fun _ => ?_))
  ·intro y0 y1 y2 y3 y4 y5 y6 y7 y8 y9 y10
   unfold spec_CountCampsReached.l1
   repeat' first
   | (with_reducible first | exact ih0 _ _ _ _ _ _ | exact ih1 _ _ _ _ _ _ _ _ _ _ _ | exact spec_toAfter.mono _ _ _ _ | exact spec_toCampOf.mono _ _ _ _ _ | exact spec_toCode.mono _ _ _ _ _ _ | exact spec_toGood.mono _ _ _ _ | exact spec_toRounds.mono _ _ _ _ _ _ | exact LeO.refl _ | exact LeO.none _ | refine LeO.ite ?_ ?_ | refine LeO.bind ?_ (fun _ => ?_))
def spec_CountCampsReached.T9 : Bool × List (List Nat × List Nat) := (true, [([], []), ([], []), ([], []), ([1, 2], [1, 2]), ([3], [3]), ([0, 4], [0, 4]), ([], []), ([6, 5, 5, 0, 1, 2, 3, 4, 5, 6], [5, 6])])
def spec_CountCampsReached.B9 : List Nat := [0, 0, 0, 6, 14, 31, 0, 127]
theorem spec_CountCampsReached.tab9 : rtab .any (opsOf Try.f23 9) = spec_CountCampsReached.T9 := by kernel_rfl
theorem spec_CountCampsReached.bits9 : waitsOk spec_CountCampsReached.T9.2 spec_CountCampsReached.B9 = true := by kernel_rfl
theorem spec_CountCampsReached.calls (k : Nat) (A0_0 : Option Addr) (c0_0 : Nat) (l0_0 : List Int) (a0_1 : Int) (a0_2 : Int) (r1 : Int) (r2 : Bool) (w : World) (hr0_0 : Kd.C (Kd.int .i64) w A0_0 l0_0.length l0_0) (hc0_0 : l0_0.length ≤ c0_0) (h : spec_CountCampsReached.f k l0_0 a0_1 a0_2 = some (r1, r2)) :
  Calls Try.prog 23 #[.agg #[.slice A0_0 l0_0.length c0_0, .int .i64 a0_1, .int .i64 a0_2]] w fun e w' => e = .returned (.tuple #[.int .i64 r1, .bool r2]) ∧ Below w.heap.size w w' := by
 have hu33 := Try.underlying33
 have hu35 := Try.underlying35
 have HR0_0 := ak_ hr0_0
 have HC0_0 := ak_ hc0_0
 clear hr0_0 hc0_0
 have HB := ak_ (Below.refl w.heap.size w)
 have H : ((spec_toGood.f k l0_0 a0_1 a0_2).bind fun t322 => (if t322 = true then (if 0 ≤ (shl .i64 (wrap64 (a0_2 + 1)) (l0_0.length : Int)) then (if (shl .i64 (wrap64 (a0_2 + 1)) (l0_0.length : Int) : Int).toNat ≤ 281474976710656 then ((some (List.replicate (shl .i64 (wrap64 (a0_2 + 1)) (l0_0.length : Int) : Int).toNat false : List Bool)).bind fun y323 => (if 0 < (y323.length : Int) then (spec_CountCampsReached.l0 k (y323.set (0 : Int).toNat true) (([0] : List Int)) 0 l0_0 a0_1 a0_2) else (none))) else (none)) else (none)) else (some (0, false)))) = some (r1, r2) := h
 clear h
 replace H := Option.bind_eq_some_iff.mp H
 obtain ⟨t322, A20, H⟩ := H
 replace H : (if t322 = true then (if 0 ≤ (shl .i64 (wrap64 (a0_2 + 1)) (l0_0.length : Int)) then (if (shl .i64 (wrap64 (a0_2 + 1)) (l0_0.length : Int) : Int).toNat ≤ 281474976710656 then ((some (List.replicate (shl .i64 (wrap64 (a0_2 + 1)) (l0_0.length : Int) : Int).toNat false : List Bool)).bind fun y323 => (if 0 < (y323.length : Int) then (spec_CountCampsReached.l0 k (y323.set (0 : Int).toNat true) (([0] : List Int)) 0 l0_0 a0_1 a0_2) else (none))) else (none)) else (none)) else (some (0, false))) = some (r1, r2) := H
 have A2 := ak_ A20
 clear A20
 by_cases c3 : t322 = true
 ·
  subst c3
  have H1 : (if 0 ≤ (shl .i64 (wrap64 (a0_2 + 1)) (l0_0.length : Int)) then (if (shl .i64 (wrap64 (a0_2 + 1)) (l0_0.length : Int) : Int).toNat ≤ 281474976710656 then ((some (List.replicate (shl .i64 (wrap64 (a0_2 + 1)) (l0_0.length : Int) : Int).toNat false : List Bool)).bind fun y323 => (if 0 < (y323.length : Int) then (spec_CountCampsReached.l0 k (y323.set (0 : Int).toNat true) (([0] : List Int)) 0 l0_0 a0_1 a0_2) else (none))) else (none)) else (none)) = some (r1, r2) := by rw [if_pos rfl] at H; exact H
  clear H
  have H := H1
  clear H1
  obtain ⟨ji4, hji4⟩ : ∃ j_ : Int, (shl .i64 (wrap64 (a0_2 + 1)) (l0_0.length : Int)) = j_ := ⟨_, rfl⟩
  replace H : (if 0 ≤ (ji4) then (if (ji4 : Int).toNat ≤ 281474976710656 then ((some (List.replicate (ji4 : Int).toNat false : List Bool)).bind fun y323 => (if 0 < (y323.length : Int) then (spec_CountCampsReached.l0 k (y323.set (0 : Int).toNat true) (([0] : List Int)) 0 l0_0 a0_1 a0_2) else (none))) else (none)) else (none)) = some (r1, r2) := by first | (rw [hji4] at H; exact H) | (simp only [hji4] at H ⊢; exact H)
  (try rw [hji4] at A2)
  have hji4_ : (IntKind.i64.wrap ((wrap64 (a0_2 + 1)) * 2 ^ min (l0_0.length : Int).toNat 64)) = ji4 := hji4
  have hji4z : (l0_0.length : Int) ≤ 64 → (IntKind.i64.wrap ((wrap64 (a0_2 + 1)) * 2 ^ (l0_0.length : Int).toNat)) = ji4 := shl_small hji4
  have hji4p : (IntKind.i64.wrap ((wrap64 (a0_2 + 1)) * 2 ^ min l0_0.length 64)) = ji4 := hji4_
  have hji4q : (l0_0.length : Int) ≤ 64 → (IntKind.i64.wrap ((wrap64 (a0_2 + 1)) * 2 ^ l0_0.length)) = ji4 := hji4z
  have hji4y : (wrap64 ((wrap64 (a0_2 + 1)) * 2 ^ min (l0_0.length : Int).toNat 64)) = ji4 := (i64_w _).symm.trans hji4_
  have hji4x : (l0_0.length : Int) ≤ 64 → (wrap64 ((wrap64 (a0_2 + 1)) * 2 ^ (l0_0.length : Int).toNat)) = ji4 := fun h_ => (i64_w _).symm.trans (hji4z h_)
  by_cases c5 : 0 ≤ (ji4)
  ·
   rw [if_pos c5] at H
   have c5b0 := eq_true c5
   have c5b1 := decide_eq_true c5
   clear c5
   by_cases c6 : (ji4 : Int).toNat ≤ 281474976710656
   ·
    rw [if_pos c6] at H
    have c6b0 := eq_true c6
    have c6b1 := decide_eq_true c6
    clear c6
    obtain ⟨y323, hy323⟩ : ∃ y_ : List Bool, y_ = (List.replicate (ji4 : Int).toNat false) := ⟨_, rfl⟩
    replace H : (if 0 < (y323.length : Int) then (spec_CountCampsReached.l0 k (y323.set (0 : Int).toNat true) (([0] : List Int)) 0 l0_0 a0_1 a0_2) else (none)) = some (r1, r2) := by first | (rw [hy323]; exact H) | exact H
    have Ny323 := ak_ hy323
    clear hy323
    by_cases c7 : 0 < (y323.length : Int)
    ·
     rw [if_pos c7] at H
     have c7b0 := decide_eq_true c7
     have c7b1 : decide (0 < y323.length) = true := decide_eq_true (by omega)
     clear c7
     obtain ⟨y326, hy326⟩ : ∃ y_ : List Bool, y_ = (y323.set (0 : Int).toNat true) := ⟨_, rfl⟩
     replace H : (spec_CountCampsReached.l0 k y326 (([0] : List Int)) 0 l0_0 a0_1 a0_2) = some (r1, r2) := by first | (rw [hy326]; exact H) | exact H
     have Ny326 := ak_ hy326
     clear hy326
     obtain ⟨y327, hy327⟩ : ∃ y_ : List Int, y_ = (([0] : List Int)) := ⟨_, rfl⟩
     replace H : (spec_CountCampsReached.l0 k y326 y327 0 l0_0 a0_1 a0_2) = some (r1, r2) := by first | (rw [hy327]; exact H) | exact H
     have Ny327 := ak_ hy327
     clear hy327
     have H' := ak_ H
     clear H
     go_enter Try.func23, Try.ntmps23
     go_wp2_with (first | ((with_reducible refine gate_dst (N := 1) rfl ?_); refine bx_ 1 #[.slice A0_0 l0_0.length c0_0, .int .i64 a0_1, .int .i64 a0_2] 33 ?_; intro gb321 hg w9 hbox hb; have BK321 := ak_ (hbox); have GW321 := ak_ ((by rw [hg]; exact (bz_ (bb_ HB.out)) : w.heap.size ≤ gb321)); replace HB := ak_ (bs_ (bb_ HB.out) hb); have GE321 := GW321; clear hb hbox hg; obtain ⟨hcz10_0, hcz10_1, hcz10_2, hfz10_0, hfz10_1, hfz10_2⟩ := c3_ BK321.out) | ((with_reducible refine gate_callee (f := 50) rfl ?_); refine goesL_ (some 12) rfl rfl Try.func50 (by kernel_rfl) rfl #[.agg #[.slice A0_0 l0_0.length c0_0, .int .i64 a0_1, .int .i64 a0_2]] rfl rs_ ?_; (with_reducible refine (spec_toGood.calls k _ _ l0_0 a0_1 a0_2 true _ ?side1 ?side2 A2.out).mono ?_); (case side1 => exact cs_ (Kd.C_below HR0_0.out HB.out)); (case side2 => exact HC0_0.out); rintro e w11 ⟨rfl, hb⟩; refine ⟨_, rfl, ?_⟩; replace BK321 := ak_ (blk_below (pk BK321.out) hb); replace HB := ak_ (bs_ bl_ hb); (try clear hb); (try clear hb2); (try clear hk); (try clear hi); obtain ⟨hcz12_0, hcz12_1, hcz12_2, hfz12_0, hfz12_1, hfz12_2⟩ := c3_ BK321.out) | ((with_reducible refine gate_dst (N := 21) rfl ?_); refine Kd.R_make Kd.bool _ 4 rfl (N := 21) rfl 25 _ _ rfl ji4 rfl rfl Try.underlying25 (.bool false) 1 info4 rfl (by decide) (by omega) false (ok := fun _ => True) (okp := fun _ => True) rfl (fun _ hk => hk) trivial (odt_ (by assumption)) (Nat.le_trans (Nat.mul_le_mul_right _ (odt_ (by assumption) : ji4.toNat ≤ 281474976710656)) (by omega)) (Below.refl _ _) (Nat.le_refl _) ?_; intro v324 w13 ho14 hb hg_ hnew_; clear hg_ hnew_; (first | rw [← Ny323.out] at ho14 | (simp only [Int.reduceToNat] at ho14; rw [← Ny323.out] at ho14)); have HO325 := ak_ (Kd.R_lower ho14 (bz_ bl_)); replace BK321 := ak_ (blk_below (pk BK321.out) hb); replace HB := ak_ (bs_ bl_ hb); clear hb ho14; have p8 : 0 ≤ (0 : Int) := (by omega); have q8 : (0 : Int) < ((y323.length : Int) : Int) := od_; have qi8 : (0 < y323.length) = True := eq_true (by omega); obtain ⟨go8, co8, eo8, gb8, gl8, cl8, HG8⟩ := Kd.R_form HO325.out (by omega); (first | cases eo8 | (injection eo8 with ea_ en_ ec_; (first | subst ea_ | (injection ea_ with ea_; subst ea_)); subst ec_; clear en_)); have GB8 := ak_ gb8; have GG8 := ak_ HG8; clear gb8 gl8 HG8; obtain ⟨hx8_0, hf8_0⟩ := Kd.R_celln false HO325.out (0 : Int) p8 q8; (try rw [show ((0 : Int)).toNat = 0 from rfl] at hx8_0); (try simp only [Nat.reduceMul, Nat.zero_mul, Nat.zero_add, Nat.reduceAdd] at hx8_0); (try rw [show ((0 : Int)).toNat = 0 from rfl] at hf8_0); (try simp only [Nat.reduceMul, Nat.zero_mul, Nat.zero_add, Nat.reduceAdd] at hf8_0); replace p8 := eq_true p8; replace q8 := eq_true q8; obtain ⟨hy15_, hz15_⟩ := Kd.R_celln false HO325.out (0 : Int) (by omega) (odt_ (by assumption)); (try simp only [Int.reduceToNat, Int.toNat_zero, Int.toNat_ofNat, Nat.reduceMul, Nat.zero_mul, Nat.zero_add] at hy15_ hz15_); (try rw [show ((0 : Int)).toNat = 0 from rfl] at hy15_); (try rw [show ((0 : Int)).toNat = 0 from rfl] at hz15_); have HP15 := Kd.R_putg HO325.out (0 : Int) true) | ((with_reducible refine gate_store (t := 4) (p := 23) rfl ?_); refine store_event (t := 4) (p := 23) (v := ?vo_w16) (w1 := (w13.setCell ⟨go8, (0 : Int).toNat, none⟩ (.bool true))) ?hg ?ho ?hn ?hr ?_; (case ho => rfl); (case hg => rfl); (case hn => rfl); (case hr => go_simp <;> rfl); intro w16 hw; have hg : w13.grownBy w16 (some go8) := (by rw [hw]; exact HP15.2); have hp_ : Kd.R Kd.bool 4 w16 w.heap.size (fun _ => True) (.slice (some ⟨go8, 0, none⟩) y323.length co8) y326 := (by rw [hw, Ny326.out]; exact HP15.1); clear HP15; replace BK321 := ak_ (blk_grown (pk BK321.out) hg (Kd.R_ne HO325.out BK321.out (by decide))); replace HO325 := ak_ (hp_); replace HB := ak_ ((by rw [hw]; exact below_set (HB.out) GB8.out : Below w.heap.size w w16)); clear hg hw hp_) | ((with_reducible refine gate_dst (N := 24) rfl ?_); refine Kd.R_lit (Kd.int .i64) _ 3 ?hg (N := 24) ?hd (xs := ([0] : List Int)) (inner := [.int .i64 0]) (ok := fun _ => True) (okp := fun _ => True) ?hr ?hp (fun _ hk => hk) trivial (Below.refl _ _) (Nat.le_refl _) (by simp) ?_; (case hd => rfl); (case hg => rfl); (case hr => go_simp <;> rfl); (case hp => exact (Reps.one (show Kd.M (Kd.int .i64) _ _ _ 0 [.int .i64 0] from rfl) (Reps.none _ _))); intro v328 w17 ho18 hb hg_ hnew_; clear hg_ hnew_; (first | rw [← Ny327.out] at ho18 | (simp only [Int.reduceToNat] at ho18; rw [← Ny327.out] at ho18)); replace HO325 := ak_ (Kd.R_below (Kd.pR HO325.out) hb); have HO329 := ak_ (Kd.R_lower ho18 (bz_ bl_)); replace BK321 := ak_ (blk_below (pk BK321.out) hb); replace HB := ak_ (bs_ bl_ hb); clear hb ho18))
     go_loopg [5, 6] k (fun kq v5 v6 w' => ∃ (x4_1 : List Bool) (x5_1 : List Int) (x6_1 : Int), v6 = .int .i64 x6_1 ∧ Aside0 (spec_CountCampsReached.l0 kq x4_1 x5_1 x6_1 l0_0 a0_1 a0_2 = some (r1, r2)) ∧ Aside0 (kq ≤ k) ∧ Aside0 (Kd.R Kd.bool 4 w' w.heap.size (fun _ => True) (.slice (some ⟨go8, 0, none⟩) y323.length co8) x4_1) ∧ Aside0 (Kd.R (Kd.int .i64) 3 w' w.heap.size (fun _ => True) v5 x5_1) ∧ Aside0 (w'.heap[gb321]? = some (.cells #[(.slice A0_0 l0_0.length c0_0), .int .i64 a0_1, .int .i64 a0_2] 33 (0, 0))) ∧ Aside0 (Below w.heap.size w w'))
     case atStart => exact ⟨(y326), (y327), (0), (ry_), H', ⟨Nat.le_refl _⟩, ⟨Kd.pR HO325.out⟩, ⟨Kd.pR HO329.out⟩, ⟨pk BK321.out⟩, ⟨bl_⟩⟩
     case round =>
      clear H'
      try clear c2
      try clear p2
      try clear c3
      try clear c5
      try clear c5b0
      try clear c5b1
      try clear c6
      try clear c6b0
      try clear c6b1
      try clear p6
      try clear c7
      try clear c7b0
      try clear c7b1
      try clear p8
      try clear q8
      try clear hx8
      try clear qi8
      try clear hf8
      try clear hcz10_0
      try clear hcz10_1
      try clear hcz10_2
      try clear hcz12_0
      try clear hcz12_1
      try clear hcz12_2
      try clear hfz10_0
      try clear hfz10_1
      try clear hfz10_2
      try clear hfz12_0
      try clear hfz12_1
      try clear hfz12_2
      try clear hx8_0
      try clear p8
      try clear q8
      obtain ⟨x4_1, x5_1, x6_1, rfl, HA, HK1, HO_4, HO_5, BK321, HB⟩ := hrel
      have hl4_1 := (Kd.R_reads' HO_4.out).1
      rw [hl4_1] at HO_4
      (try simp only [hl4_1])
      (try simp only [hl4_1] at BK321)
      (try simp only [hl4_1] at HO_5)
      cases gk with
      | zero => exact absurd HA.out (by simp [spec_CountCampsReached.l0])
      | succ k1 =>
       have H := HA.out
       clear HA
       simp only [spec_CountCampsReached.l0] at H
       by_cases c19 : x6_1 < (x5_1.length : Int)
       ·
        rw [if_pos c19] at H
        have c19b0 := decide_eq_true c19
        clear c19
        by_cases c20 : 0 ≤ x6_1
        ·
         rw [if_pos c20] at H
         have c20b0 := decide_eq_true c20
         clear c20
         replace H := Option.bind_eq_some_iff.mp H
         obtain ⟨⟨t331, t334⟩, A210, H⟩ := H
         replace H : ((spec_toRounds.f k1 l0_0 a0_1 a0_2 t331 t334).bind fun t336 => (spec_CountCampsReached.l1 k1 x4_1 x5_1 x6_1 t336 (t336.length : Int) 0 l0_0 a0_1 a0_2 t331 t334)) = some (r1, r2) := H
         have A21 := ak_ A210
         clear A210
         replace H := Option.bind_eq_some_iff.mp H
         obtain ⟨t336, A220, H⟩ := H
         replace H : (spec_CountCampsReached.l1 k1 x4_1 x5_1 x6_1 t336 (t336.length : Int) 0 l0_0 a0_1 a0_2 t331 t334) = some (r1, r2) := H
         have A22 := ak_ A220
         clear A220
         have H' := ak_ H
         clear H
         obtain ⟨Ao23, co23, eo23⟩ := Kd.R_slice HO_5.out
         subst eo23
         try go_wp2
         have n0_ := ak_ (Kd.R_drew HO_4.out)
         have n1_ := ak_ (Kd.R_drew HO_5.out)
         have n2_ := ak_ (k1_ BK321.out)
         have n3_ := ak_ (b1_ HB.out)
         clear HO_4 HO_5 BK321 HB
         have HO_4 := n0_; have HO_5 := n1_; have BK321 := n2_; have HB := n3_
         clear n0_ n1_ n2_ n3_
         have p330 : 0 ≤ (x6_1 : Int) := od_
         have q330 : x6_1 < (x5_1.length : Int) := od_
         obtain ⟨ad330, e330, hx330_0⟩ := Kd.at_int (Kd.R_reads' HO_5.out).2.2 x6_1 p330 q330
         cases e330
         replace p330 := eq_true p330
         replace q330 := eq_true q330
         refine start_ (n := 8) (S := fun w' => w'.cell? ⟨gb321, 0, none⟩ = some (.slice A0_0 l0_0.length c0_0) ∧ w'.cell? ⟨gb321, 1, none⟩ = some (.int .i64 a0_1) ∧ w'.cell? ⟨gb321, 2, none⟩ = some (.int .i64 a0_2) ∧ w'.cell? (ad330.add (x6_1).toNat) = some (.int .i64 (rd x5_1 x6_1))) (ds := []) (mb_ 8 0) (by kernel_rfl) rfl rfl ⟨(blk_cell BK321.out 0).trans rfl, (blk_cell BK321.out 1).trans rfl, (blk_cell BK321.out 2).trans rfl, hx330_0⟩ (fun hHeld => ?_); refine with_tabW spec_CountCampsReached.tab9 spec_CountCampsReached.bits9 (fun HT_ HW_ => ?_)
         generalize wr.drew = w24 at HO_4 HO_5 BK321 HB hx330_0 hHeld ⊢
         refine pu_ 1 32 8 2 ?_
         refine pu_ 2 33 8 6 ?_
         refine pu_ 3 34 8 14 ?_
         refine tk_ 0 31 8 15 ?_ (hy := by rintro w' ⟨s0, s1, s2, s3⟩; go_simp; with_reducible rfl)
         refine tk_ 4 35 8 31 ?_ (hy := by rintro w' ⟨s0, s1, s2, s3⟩; go_simp; with_reducible rfl)
         refine join_ (σ := Value × Nat) 1 (mb_ 8 127) (fun s_ => [(36, .agg #[s_.1, .int .i64 t334]), (7, .pointer (some ⟨s_.2, 0, none⟩))]) (fun s_ w' => (w'.cell? ⟨gb321, 0, none⟩ = some (.slice A0_0 l0_0.length c0_0) ∧ w'.cell? ⟨gb321, 1, none⟩ = some (.int .i64 a0_1) ∧ w'.cell? ⟨gb321, 2, none⟩ = some (.int .i64 a0_2) ∧ w'.cell? (ad330.add (x6_1).toNat) = some (.int .i64 (rd x5_1 x6_1))) ∧ (Kd.R Kd.bool 4 w' w.heap.size (fun k_ => some k_ ≠ (.slice (some ⟨go8, 0, none⟩) x4_1.length co8 : Value).ownBlock) s_.1 t331) ∧ (Kd.R Kd.bool 4 w' w.heap.size (fun k_ => some k_ ≠ (s_.1 : Value).ownBlock) (.slice (some ⟨go8, 0, none⟩) x4_1.length co8) x4_1) ∧ (Kd.R (Kd.int .i64) 3 w' w.heap.size (fun _ => True) (.slice (some ad330) x5_1.length co23) x5_1) ∧ (w'.heap[gb321]? = some (.cells #[.slice A0_0 l0_0.length c0_0, .int .i64 a0_1, .int .i64 a0_2] 33 (0, 0))) ∧ (w'.heap[s_.2]? = some (.cells #[.slice none 0 0, .int .i64 0] 35 (0, 0))) ∧ (w.heap.size ≤ s_.2) ∧ (w.heap.size ≤ s_.2) ∧ (gb321 ≠ s_.2) ∧ (s_.2 ≠ gb321) ∧ (Below w.heap.size w w')) ?_ ?_
         rotate_left
         ·
          intro hCont
          refine two_ (i := 5) (j := 6) (Ni := some 36) (Nj := some 7) (mb_ 8 63) (mb_ 8 95) rfl rfl rfl rfl (two_of HT_.out (by kernel_rfl)) (by decide) (by decide) (fun K hK => ?_) (fun K hK => ?_)
          ·
           skip
           refine goes_ Try.func51 (by kernel_rfl) rfl #[.agg #[.slice A0_0 l0_0.length c0_0, .int .i64 a0_1, .int .i64 a0_2], .int .i64 (rd x5_1 x6_1)] (by rfl) rfl rfl rs_ ?_
           with_reducible refine (spec_toCampOf.calls k1 _ _ l0_0 a0_1 a0_2 (rd x5_1 x6_1) t331 t334 _ ?side1 ?side2 A21.out).mono ?_
           (case side1 => exact cs_ (Kd.C_below HR0_0.out HB.out))
           (case side2 => exact HC0_0.out)
           rintro e w25 ⟨v332, rfl, ho0, hb⟩
           have HS3_ := (hb.cell (World.block_lt_of_cell? _ _ (hHeld.2.2.2))).trans (hHeld.2.2.2)
           refine ⟨_, rfl, ?_⟩
           have n0_ := ak_ (Kd.R_elder' (Kd.pR HO_4.out) (Kd.R_base ho0) hb)
           have n1_ := ak_ (Kd.R_below (Kd.pR HO_5.out) hb)
           have n2_ := ak_ (Kd.R_lower (Kd.R_new' ho0 (Kd.R_lt (Kd.pR HO_4.out))) (bz_ bl_))
           have n3_ := ak_ (blk_below (pk BK321.out) hb)
           have n4_ := ak_ (bs_ bl_ hb)
           clear HO_4 HO_5 BK321 HB
           have HO_4 := n0_; have HO_5 := n1_; have HO333 := n2_; have BK321 := n3_; have HB := n4_
           clear n0_ n1_ n2_ n3_ n4_
           (try clear hb)
           (try clear hb2)
           (try clear hk)
           (try clear hi)
           (try clear ho0)
           refine hK.out _ _ ⟨(blk_cell BK321.out 0).trans rfl, (blk_cell BK321.out 1).trans rfl, (blk_cell BK321.out 2).trans rfl, HS3_⟩ (fun hHeld => ?_)
           clear hK K
           refine nm_ ?_
           refine on_ 6 7 8 127 (fun K hK => ?_)
           refine box_step ?hg (N := 7) ?hd (cs := #[.slice none 0 0, .int .i64 0]) (t := 35) ?hr ?_; (case hd => rfl); (case hg => rfl); (case hr => go_simp <;> rfl)
           intro gb335 hg w26 hbox hb
           have HS3_ := (hb.cell (World.block_lt_of_cell? _ _ (hHeld.2.2.2))).trans (hHeld.2.2.2)
           have n0_ := ak_ (Kd.R_below (Kd.pR HO_4.out) hb)
           have n1_ := ak_ (Kd.R_below (Kd.pR HO_5.out) hb)
           have n2_ := ak_ (Kd.R_below (Kd.pR HO333.out) hb)
           have n3_ := ak_ (blk_below (pk BK321.out) hb)
           have n4_ := ak_ (bs_ bl_ hb)
           have n5_ := ak_ (hbox)
           have n6_ := ak_ ((by rw [hg]; exact (bz_ bl_) : w.heap.size ≤ gb335))
           have n7_ := n6_
           have n8_ := ak_ ((by rw [hg]; exact Nat.ne_of_lt (blk_lt (pk BK321.out)) : gb321 ≠ gb335))
           have n9_ := ak_ n8_.out.symm
           clear HO_4 HO_5 HO333 BK321 HB
           have HO_4 := n0_; have HO_5 := n1_; have HO333 := n2_; have BK321 := n3_; have HB := n4_; have BK335 := n5_; have GW335 := n6_; have GE335 := n7_; have NB321_335 := n8_; have NB335_321 := n9_
           clear n0_ n1_ n2_ n3_ n4_ n5_ n6_ n7_ n8_ n9_ hb hbox hg
           refine hK.out _ _ ⟨(blk_cell BK321.out 0).trans rfl, (blk_cell BK321.out 1).trans rfl, (blk_cell BK321.out 2).trans rfl, HS3_⟩ (fun hHeld => ?_)
           clear hK K
           refine nm_ ?_
           exact norm_ (by simp only [putAll, Act.put, setIfInBounds_toArray, set_cons_zero, set_cons_succ]) (hCont (v332, gb335) _ ⟨hHeld, (by (with_reducible repeat (first | apply Kd.R_alloc | apply Kd.R_drewN | apply Kd.R_drew)); exact Kd.R_mono HO333.out (fun _ hk => hk.2)), (by (with_reducible repeat (first | apply Kd.R_alloc | apply Kd.R_drewN | apply Kd.R_drew)); exact Kd.R_mono HO_4.out (fun _ hk => hk.2)), (Kd.pR HO_5.out), (pk BK321.out), (pk BK335.out), GW335.out, GE335.out, NB321_335.out, NB335_321.out, bl_⟩)
          ·
           skip
           refine box_step ?hg (N := 7) ?hd (cs := #[.slice none 0 0, .int .i64 0]) (t := 35) ?hr ?_; (case hd => rfl); (case hg => rfl); (case hr => go_simp <;> rfl)
           intro gb335 hg w25 hbox hb
           have HS3_ := (hb.cell (World.block_lt_of_cell? _ _ (hHeld.2.2.2))).trans (hHeld.2.2.2)
           have n0_ := ak_ (Kd.R_below (Kd.pR HO_4.out) hb)
           have n1_ := ak_ (Kd.R_below (Kd.pR HO_5.out) hb)
           have n2_ := ak_ (blk_below (pk BK321.out) hb)
           have n3_ := ak_ (bs_ bl_ hb)
           have n4_ := ak_ (hbox)
           have n5_ := ak_ ((by rw [hg]; exact (bz_ bl_) : w.heap.size ≤ gb335))
           have n6_ := n5_
           have n7_ := ak_ ((by rw [hg]; exact Nat.ne_of_lt (blk_lt (pk BK321.out)) : gb321 ≠ gb335))
           have n8_ := ak_ n7_.out.symm
           clear HO_4 HO_5 BK321 HB
           have HO_4 := n0_; have HO_5 := n1_; have BK321 := n2_; have HB := n3_; have BK335 := n4_; have GW335 := n5_; have GE335 := n6_; have NB321_335 := n7_; have NB335_321 := n8_
           clear n0_ n1_ n2_ n3_ n4_ n5_ n6_ n7_ n8_ hb hbox hg
           refine hK.out _ _ ⟨(blk_cell BK321.out 0).trans rfl, (blk_cell BK321.out 1).trans rfl, (blk_cell BK321.out 2).trans rfl, HS3_⟩ (fun hHeld => ?_)
           clear hK K
           refine nm_ ?_
           refine on_ 5 36 8 127 (fun K hK => ?_)
           refine goes_ Try.func51 (by kernel_rfl) rfl #[.agg #[.slice A0_0 l0_0.length c0_0, .int .i64 a0_1, .int .i64 a0_2], .int .i64 (rd x5_1 x6_1)] (by rfl) rfl rfl rs_ ?_
           with_reducible refine (spec_toCampOf.calls k1 _ _ l0_0 a0_1 a0_2 (rd x5_1 x6_1) t331 t334 _ ?side1 ?side2 A21.out).mono ?_
           (case side1 => exact cs_ (Kd.C_below HR0_0.out HB.out))
           (case side2 => exact HC0_0.out)
           rintro e w26 ⟨v332, rfl, ho0, hb⟩
           have HS3_ := (hb.cell (World.block_lt_of_cell? _ _ (hHeld.2.2.2))).trans (hHeld.2.2.2)
           refine ⟨_, rfl, ?_⟩
           have n0_ := ak_ (Kd.R_elder' (Kd.pR HO_4.out) (Kd.R_base ho0) hb)
           have n1_ := ak_ (Kd.R_below (Kd.pR HO_5.out) hb)
           have n2_ := ak_ (Kd.R_lower (Kd.R_new' ho0 (Kd.R_lt (Kd.pR HO_4.out))) (bz_ bl_))
           have n3_ := ak_ (blk_below (pk BK321.out) hb)
           have n4_ := ak_ (blk_below (pk BK335.out) hb)
           have n5_ := ak_ (bs_ bl_ hb)
           clear HO_4 HO_5 BK321 BK335 HB
           have HO_4 := n0_; have HO_5 := n1_; have HO333 := n2_; have BK321 := n3_; have BK335 := n4_; have HB := n5_
           clear n0_ n1_ n2_ n3_ n4_ n5_
           (try clear hb)
           (try clear hb2)
           (try clear hk)
           (try clear hi)
           (try clear ho0)
           refine hK.out _ _ ⟨(blk_cell BK321.out 0).trans rfl, (blk_cell BK321.out 1).trans rfl, (blk_cell BK321.out 2).trans rfl, HS3_⟩ (fun hHeld => ?_)
           clear hK K
           refine nm_ ?_
           exact norm_ (by simp only [putAll, Act.put, setIfInBounds_toArray, set_cons_zero, set_cons_succ]) (hCont (v332, gb335) _ ⟨hHeld, (by (with_reducible repeat (first | apply Kd.R_alloc | apply Kd.R_drewN | apply Kd.R_drew)); exact Kd.R_mono HO333.out (fun _ hk => hk.2)), (by (with_reducible repeat (first | apply Kd.R_alloc | apply Kd.R_drewN | apply Kd.R_drew)); exact Kd.R_mono HO_4.out (fun _ hk => hk.2)), (Kd.pR HO_5.out), (pk BK321.out), (pk BK335.out), GW335.out, GE335.out, NB321_335.out, NB335_321.out, bl_⟩)
         rintro ⟨v332, gb335⟩ w27 ⟨hS_, h0_, h1_, h2_, h3_, h4_, h5_, h6_, h7_, h8_, h9_⟩
         have n0_ : Aside0 (Kd.R Kd.bool 4 w27 w.heap.size (fun k_ => some k_ ≠ (.slice (some ⟨go8, 0, none⟩) x4_1.length co8 : Value).ownBlock) v332 t331) := ⟨h0_⟩
         have n1_ : Aside0 (Kd.R Kd.bool 4 w27 w.heap.size (fun k_ => some k_ ≠ (v332 : Value).ownBlock) (.slice (some ⟨go8, 0, none⟩) x4_1.length co8) x4_1) := ⟨h1_⟩
         have n2_ : Aside0 (Kd.R (Kd.int .i64) 3 w27 w.heap.size (fun _ => True) (.slice (some ad330) x5_1.length co23) x5_1) := ⟨h2_⟩
         have n3_ : Aside0 (w27.heap[gb321]? = some (.cells #[.slice A0_0 l0_0.length c0_0, .int .i64 a0_1, .int .i64 a0_2] 33 (0, 0))) := ⟨h3_⟩
         have n4_ : Aside0 (w27.heap[gb335]? = some (.cells #[.slice none 0 0, .int .i64 0] 35 (0, 0))) := ⟨h4_⟩
         have n5_ : Aside0 (w.heap.size ≤ gb335) := ⟨h5_⟩
         have n6_ : Aside0 (w.heap.size ≤ gb335) := ⟨h6_⟩
         have n7_ : Aside0 (gb321 ≠ gb335) := ⟨h7_⟩
         have n8_ : Aside0 (gb335 ≠ gb321) := ⟨h8_⟩
         have n9_ : Aside0 (Below w.heap.size w w27) := ⟨h9_⟩
         clear HO_4 HO_5 BK321 HB h0_ h1_ h2_ h3_ h4_ h5_ h6_ h7_ h8_ h9_
         have HO333 := n0_; have HO_4 := n1_; have HO_5 := n2_; have BK321 := n3_; have BK335 := n4_; have GW335 := n5_; have GE335 := n6_; have NB321_335 := n7_; have NB335_321 := n8_; have HB := n9_
         clear n0_ n1_ n2_ n3_ n4_ n5_ n6_ n7_ n8_ n9_
         have hHeld : w27.cell? ⟨gb321, 0, none⟩ = some (.slice A0_0 l0_0.length c0_0) ∧ w27.cell? ⟨gb321, 1, none⟩ = some (.int .i64 a0_1) ∧ w27.cell? ⟨gb321, 2, none⟩ = some (.int .i64 a0_2) ∧ w27.cell? (ad330.add (x6_1).toNat) = some (.int .i64 (rd x5_1 x6_1)) := hS_
         obtain ⟨Ao28, co28, eo28⟩ := Kd.R_slice HO333.out
         (first | subst eo28 | (injection eo28 with f1_ f2_ f3_; have f4_ := f1_.symm; have f5_ := f3_.symm; clear f1_ f2_ f3_; subst f4_; subst f5_))
         refine norm_ (a' := ?_) ?_ ?_
         rotate_left
         ·
          simp only [putAll, Act.put, setIfInBounds_toArray, set_cons_zero, set_cons_succ]
          rfl
         refine one_ (i := 7) (N := none) (mb_ 8 255) rfl rfl (one_of HT_.out (by kernel_rfl)) (by decide) (fun K hK => ?_)
         have hs29 : w27.cell? ⟨gb335, 0, none⟩ = some (.slice none 0 0) := (blk_cell BK335.out 0).trans rfl
         have hfs29 := blk_frozen BK335.out 0
         have hns29_0 := NB321_335.out
         have hms29_0 := NB335_321.out
         have hs30 : w27.cell? ⟨gb335, 1, none⟩ = some (.int .i64 0) := (blk_cell BK335.out 1).trans rfl
         have hfs30 := blk_frozen BK335.out 1
         have hns30_0 := NB321_335.out
         have hms30_0 := NB335_321.out
         refine skip_ (w1 := ?_) (by rfl) rfl ?_ ?_
         rotate_left
         ·
          go_simp
          rfl
         refine hK.out _ _ ⟨((cell_far (p := ⟨gb335, _, none⟩) NB321_335.out _).trans (((cell_far (p := ⟨gb335, _, none⟩) NB321_335.out _).trans (hHeld.1)))), ((cell_far (p := ⟨gb335, _, none⟩) NB321_335.out _).trans (((cell_far (p := ⟨gb335, _, none⟩) NB321_335.out _).trans (hHeld.2.1)))), ((cell_far (p := ⟨gb335, _, none⟩) NB321_335.out _).trans (((cell_far (p := ⟨gb335, _, none⟩) NB321_335.out _).trans (hHeld.2.2.1)))), ((cell_far (p := ⟨gb335, _, none⟩) (by first | exact Kd.own_blk (Kd.R_ne HO_5.out BK335.out (by decide)) | (rw [add_block]; exact Kd.own_blk (Kd.R_ne HO_5.out BK335.out (by decide))) | (show (Addr.add _ _).block ≠ _; rw [add_block]; exact Kd.own_blk (Kd.R_ne HO_5.out BK335.out (by decide))) | (dsimp only; exact Kd.own_blk (Kd.R_ne HO_5.out BK335.out (by decide)))) _).trans (((cell_far (p := ⟨gb335, _, none⟩) (by first | exact Kd.own_blk (Kd.R_ne HO_5.out BK335.out (by decide)) | (rw [add_block]; exact Kd.own_blk (Kd.R_ne HO_5.out BK335.out (by decide))) | (show (Addr.add _ _).block ≠ _; rw [add_block]; exact Kd.own_blk (Kd.R_ne HO_5.out BK335.out (by decide))) | (dsimp only; exact Kd.own_blk (Kd.R_ne HO_5.out BK335.out (by decide)))) _).trans (hHeld.2.2.2))))⟩ (fun hHeld => ?_)
         clear hK K
         refine done_ (done_of HT_.out (by kernel_rfl)) ?_
         have hnb31 := NB321_335.out
         have hnc31 := NB335_321.out
         obtain ⟨hcz32_0, hcz32_1, hcz32_2, hfz32_0, hfz32_1, hfz32_2⟩ := c3_ BK321.out
         obtain ⟨hcz33_0, hcz33_1, hfz33_0, hfz33_1⟩ := c2_ BK335.out
         try go_wp2_with (first | ((with_reducible refine gate_callee (f := 38) rfl ?_); refine goesL_ (some 39) rfl rfl Try.func38 (by kernel_rfl) rfl #[.agg #[.slice A0_0 l0_0.length c0_0, .int .i64 a0_1, .int .i64 a0_2], .agg #[.slice Ao28 t331.length co28, .int .i64 t334]] rfl rs_ ?_; (with_reducible refine (spec_toRounds.calls k1 _ _ l0_0 a0_1 a0_2 _ _ t331 t334 t336 _ ?side1 ?side2 ?side3 ?side4 A22.out).mono ?_); (case side1 => exact Kd.C_below HR0_0.out bl_); (case side2 => exact HC0_0.out); (case side3 => refine (Kd.R_reads' (e := 4) (base := w.heap.size) (ok := fun k_ => some k_ ≠ (.slice (some ⟨go8, 0, none⟩) x4_1.length co8 : Value).ownBlock) (n := t331.length) (c := co28) ?_).2.2; exact (by (with_reducible repeat (first | apply Kd.R_alloc | apply Kd.R_drewN | apply Kd.R_drew)); exact (Kd.R_mono (Kd.R_far (p := ⟨gb335, 1, none⟩) (Kd.R_far (p := ⟨gb335, 0, none⟩) (Kd.R_types HO333.out BK335.out (by decide)) (fun _ hk => hk.2) (.slice Ao28 t331.length co28)) (fun _ hk => hk.2) (.int .i64 t334)) (fun _ h_ => h_.1)))); (case side4 => exact (Kd.R_reads' HO333.out).2.1); rintro e w34 ⟨v337, rfl, ho0, hb⟩; refine ⟨_, rfl, ?_⟩; have HO338 := ak_ (Kd.N_lower (Kd.N_mono (ok' := fun k_ => some k_ ≠ (.slice (some ⟨go8, 0, none⟩) x4_1.length co8 : Value).ownBlock ∧ some k_ ≠ (.slice (some ad330) x5_1.length co23 : Value).ownBlock ∧ some k_ ≠ (.slice Ao28 t331.length co28 : Value).ownBlock ∧ k_ ≠ gb321 ∧ k_ ≠ gb335) ho0 (fun k_ hk_ => ⟨(Kd.fresh' (Kd.R_lt (by (with_reducible repeat (first | apply Kd.R_alloc | apply Kd.R_drewN | apply Kd.R_drew)); exact (Kd.R_mono (Kd.R_far (p := ⟨gb335, 1, none⟩) (Kd.R_far (p := ⟨gb335, 0, none⟩) (Kd.R_types HO_4.out BK335.out (by decide)) (fun _ hk => hk.2) (.slice Ao28 t331.length co28)) (fun _ hk => hk.2) (.int .i64 t334)) (fun _ h_ => h_.1)))) k_ hk_), (Kd.fresh' (Kd.R_lt (by (with_reducible repeat (first | apply Kd.R_alloc | apply Kd.R_drewN | apply Kd.R_drew)); exact (Kd.R_mono (Kd.R_far (p := ⟨gb335, 1, none⟩) (Kd.R_far (p := ⟨gb335, 0, none⟩) (Kd.R_types HO_5.out BK335.out (by decide)) (fun _ hk => hk.2) (.slice Ao28 t331.length co28)) (fun _ hk => hk.2) (.int .i64 t334)) (fun _ h_ => h_.1)))) k_ hk_), (Kd.fresh' (Kd.R_lt (by (with_reducible repeat (first | apply Kd.R_alloc | apply Kd.R_drewN | apply Kd.R_drew)); exact (Kd.R_mono (Kd.R_far (p := ⟨gb335, 1, none⟩) (Kd.R_far (p := ⟨gb335, 0, none⟩) (Kd.R_types HO333.out BK335.out (by decide)) (fun _ hk => hk.2) (.slice Ao28 t331.length co28)) (fun _ hk => hk.2) (.int .i64 t334)) (fun _ h_ => h_.1)))) k_ hk_), (Kd.freshB (g := gb321) (o := .cells #[.slice A0_0 l0_0.length c0_0, .int .i64 a0_1, .int .i64 a0_2] 33 (0, 0)) (by (with_reducible repeat (first | refine kN_ ?_ _ | refine k1_ ?_ | refine ka_ ?_ _)); refine blk_far ?_ NB321_335.out _; (with_reducible repeat (first | refine kN_ ?_ _ | refine k1_ ?_ | refine ka_ ?_ _)); refine blk_far ?_ NB321_335.out _; exact pk BK321.out) k_ hk_), (Kd.freshB (g := gb335) (o := .cells #[.slice Ao28 t331.length co28, .int .i64 t334] 35 (0, 0)) (by (with_reducible repeat (first | refine kN_ ?_ _ | refine k1_ ?_ | refine ka_ ?_ _)); refine blk_put (cs := #[.slice Ao28 t331.length co28, .int .i64 0]) ?_ 1 _ rfl; (with_reducible repeat (first | refine kN_ ?_ _ | refine k1_ ?_ | refine ka_ ?_ _)); refine blk_put (cs := #[.slice none 0 0, .int .i64 0]) ?_ 0 _ rfl; exact pk BK335.out) k_ hk_)⟩)) (bz_ bl_)); replace HO_4 := ak_ (Kd.R_below (by (with_reducible repeat (first | apply Kd.R_alloc | apply Kd.R_drewN | apply Kd.R_drew)); exact (Kd.R_mono (Kd.R_far (p := ⟨gb335, 1, none⟩) (Kd.R_far (p := ⟨gb335, 0, none⟩) (Kd.R_types HO_4.out BK335.out (by decide)) (fun _ hk => hk.2) (.slice Ao28 t331.length co28)) (fun _ hk => hk.2) (.int .i64 t334)) (fun _ h_ => h_.1))) hb); replace HO_5 := ak_ (Kd.R_below (by (with_reducible repeat (first | apply Kd.R_alloc | apply Kd.R_drewN | apply Kd.R_drew)); exact (Kd.R_mono (Kd.R_far (p := ⟨gb335, 1, none⟩) (Kd.R_far (p := ⟨gb335, 0, none⟩) (Kd.R_types HO_5.out BK335.out (by decide)) (fun _ hk => hk.2) (.slice Ao28 t331.length co28)) (fun _ hk => hk.2) (.int .i64 t334)) (fun _ h_ => h_.1))) hb); replace HO333 := ak_ (Kd.R_below (by (with_reducible repeat (first | apply Kd.R_alloc | apply Kd.R_drewN | apply Kd.R_drew)); exact (Kd.R_mono (Kd.R_far (p := ⟨gb335, 1, none⟩) (Kd.R_far (p := ⟨gb335, 0, none⟩) (Kd.R_types HO333.out BK335.out (by decide)) (fun _ hk => hk.2) (.slice Ao28 t331.length co28)) (fun _ hk => hk.2) (.int .i64 t334)) (fun _ h_ => h_.1))) hb); replace BK321 := ak_ (blk_below (g := gb321) (o := .cells #[.slice A0_0 l0_0.length c0_0, .int .i64 a0_1, .int .i64 a0_2] 33 (0, 0)) (by (with_reducible repeat (first | refine kN_ ?_ _ | refine k1_ ?_ | refine ka_ ?_ _)); refine blk_far ?_ NB321_335.out _; (with_reducible repeat (first | refine kN_ ?_ _ | refine k1_ ?_ | refine ka_ ?_ _)); refine blk_far ?_ NB321_335.out _; exact pk BK321.out) hb); replace BK335 := ak_ (blk_below (g := gb335) (o := .cells #[.slice Ao28 t331.length co28, .int .i64 t334] 35 (0, 0)) (by (with_reducible repeat (first | refine kN_ ?_ _ | refine k1_ ?_ | refine ka_ ?_ _)); refine blk_put (cs := #[.slice Ao28 t331.length co28, .int .i64 0]) ?_ 1 _ rfl; (with_reducible repeat (first | refine kN_ ?_ _ | refine k1_ ?_ | refine ka_ ?_ _)); refine blk_put (cs := #[.slice none 0 0, .int .i64 0]) ?_ 0 _ rfl; exact pk BK335.out) hb); replace HB := ak_ (bs_ bl_ hb); (try clear hb); (try clear hb2); (try clear hk); (try clear hi); (try clear ho0); obtain ⟨Ao35, co35, eo35⟩ := Kd.N_slice HO338.out; subst eo35))
         go_loopg [5, 41] k1 (fun kq v5 v41 w' => ∃ (x4_2 : List Bool) (x5_2 : List Int) (x41_2 : Int), v41 = .int .i64 x41_2 ∧ Aside0 (spec_CountCampsReached.l1 kq x4_2 x5_2 x6_1 t336 (t336.length : Int) x41_2 l0_0 a0_1 a0_2 t331 t334 = some (r1, r2)) ∧ Aside0 (kq ≤ k1) ∧ Aside0 (Kd.R Kd.bool 4 w' w.heap.size (fun k_ => some k_ ≠ ((.slice Ao28 t331.length co28) : Value).ownBlock) (.slice (some ⟨go8, 0, none⟩) x4_1.length co8) x4_2) ∧ Aside0 (Kd.R (Kd.int .i64) 3 w' w.heap.size (fun _ => True) v5 x5_2) ∧ Aside0 (Kd.N (Kd.slice 22 (Kd.slice 3 (Kd.int .i64))) 57 w' w.heap.size (fun k_ => some k_ ≠ ((.slice (some ⟨go8, 0, none⟩) x4_1.length co8) : Value).ownBlock ∧ some k_ ≠ (v5 : Value).ownBlock ∧ some k_ ≠ ((.slice Ao28 t331.length co28) : Value).ownBlock ∧ k_ ≠ gb321 ∧ k_ ≠ gb335) (.slice Ao35 t336.length co35) t336) ∧ Aside0 (Kd.R Kd.bool 4 w' w.heap.size (fun k_ => some k_ ≠ ((.slice (some ⟨go8, 0, none⟩) x4_1.length co8) : Value).ownBlock) (.slice Ao28 t331.length co28) t331) ∧ Aside0 (w'.heap[gb321]? = some (.cells #[(.slice A0_0 l0_0.length c0_0), .int .i64 a0_1, .int .i64 a0_2] 33 (0, 0))) ∧ Aside0 (w'.heap[gb335]? = some (.cells #[(.slice Ao28 t331.length co28), .int .i64 t334] 35 (0, 0))) ∧ Aside0 (Below w.heap.size w w'))
         case atStart => exact ⟨(x4_1), (x5_1), (0), (ry_), H', ⟨Nat.le_refl _⟩, ⟨by (try simp only [hl4_1]); exact Kd.pR HO_4.out⟩, ⟨by (try simp only [hl4_1]); exact Kd.pR HO_5.out⟩, ⟨by (try simp only [hl4_1]); exact Kd.pN HO338.out⟩, ⟨by (try simp only [hl4_1]); exact Kd.pR HO333.out⟩, ⟨by (try simp only [hl4_1]); exact pk BK321.out⟩, ⟨by (try simp only [hl4_1]); exact pk BK335.out⟩, ⟨bl_⟩⟩
         case round =>
          clear H'
          try clear c1
          try clear c2
          try clear p2
          try clear c3
          try clear p3
          try clear q3
          try clear hx3
          try clear c5
          try clear c5b0
          try clear c5b1
          try clear c6
          try clear c6b0
          try clear c6b1
          try clear p6
          try clear c7
          try clear c7b0
          try clear c7b1
          try clear p8
          try clear q8
          try clear hx8
          try clear qi8
          try clear hf8
          try clear c19
          try clear c19b0
          try clear c20
          try clear c20b0
          try clear c23
          try clear c31
          try clear p33
          try clear q33
          try clear hx33
          try clear hcz10_0
          try clear hcz10_1
          try clear hcz10_2
          try clear hcz12_0
          try clear hcz12_1
          try clear hcz12_2
          try clear hcz32_0
          try clear hcz32_1
          try clear hcz32_2
          try clear hcz33_0
          try clear hcz33_1
          try clear hfz10_0
          try clear hfz10_1
          try clear hfz10_2
          try clear hfz12_0
          try clear hfz12_1
          try clear hfz12_2
          try clear hfz32_0
          try clear hfz32_1
          try clear hfz32_2
          try clear hfz33_0
          try clear hfz33_1
          try clear hx330_0
          try clear hx8_0
          try clear p2
          try clear p330
          try clear p6
          try clear p8
          try clear q330
          try clear q8
          obtain ⟨x4_2, x5_2, x41_2, rfl, HA, HK2, HO_4, HO_5, HO_39, HO_336000, BK321, BK335, HB⟩ := hrel
          have hl4_2 := (Kd.R_reads' HO_4.out).1
          rw [hl4_2] at HO_4
          (try simp only [hl4_2])
          (try simp only [hl4_2] at BK321)
          (try simp only [hl4_2] at BK335)
          (try simp only [hl4_2] at HO_5)
          (try simp only [hl4_2] at HO_39)
          (try simp only [hl4_2] at HO_336000)
          cases gk with
          | zero => exact absurd HA.out (by simp [spec_CountCampsReached.l1])
          | succ k2 =>
           have H := HA.out
           clear HA
           simp only [spec_CountCampsReached.l1] at H
           by_cases c36 : x41_2 < (t336.length : Int)
           ·
            rw [if_pos c36] at H
            have c36b0 := decide_eq_true c36
            clear c36
            by_cases c37 : 0 ≤ x41_2
            ·
             rw [if_pos c37] at H
             have c37b0 := decide_eq_true c37
             clear c37
             by_cases c38 : x41_2 < (t336.length : Int)
             ·
              rw [if_pos c38] at H
              have c38b0 := decide_eq_true c38
              clear c38
              replace H := Option.bind_eq_some_iff.mp H
              obtain ⟨⟨t340, t343⟩, A390, H⟩ := H
              replace H : ((spec_toCode.f k2 l0_0 a0_1 a0_2 t340 t343).bind fun t344 => (if 0 ≤ t344 then (if t344 < (x4_2.length : Int) then (if rdOf false x4_2 t344 = true then (spec_CountCampsReached.l1 k2 x4_2 x5_2 x6_1 t336 (t336.length : Int) (wrap64 (x41_2 + 1)) l0_0 a0_1 a0_2 t331 t334) else (if x5_2.length < 17592186044416 then (spec_CountCampsReached.l1 k2 (x4_2.set (t344 : Int).toNat true) (x5_2 ++ [t344]) x6_1 t336 (t336.length : Int) (wrap64 (x41_2 + 1)) l0_0 a0_1 a0_2 t331 t334) else (none))) else (none)) else (none))) = some (r1, r2) := H
              have A39 := ak_ A390
              clear A390
              replace H := Option.bind_eq_some_iff.mp H
              obtain ⟨t344, A400, H⟩ := H
              replace H : (if 0 ≤ t344 then (if t344 < (x4_2.length : Int) then (if rdOf false x4_2 t344 = true then (spec_CountCampsReached.l1 k2 x4_2 x5_2 x6_1 t336 (t336.length : Int) (wrap64 (x41_2 + 1)) l0_0 a0_1 a0_2 t331 t334) else (if x5_2.length < 17592186044416 then (spec_CountCampsReached.l1 k2 (x4_2.set (t344 : Int).toNat true) (x5_2 ++ [t344]) x6_1 t336 (t336.length : Int) (wrap64 (x41_2 + 1)) l0_0 a0_1 a0_2 t331 t334) else (none))) else (none)) else (none)) = some (r1, r2) := H
              have A40 := ak_ A400
              clear A400
              by_cases c41 : 0 ≤ t344
              ·
               rw [if_pos c41] at H
               have c41b0 := decide_eq_true c41
               clear c41
               by_cases c42 : t344 < (x4_2.length : Int)
               ·
                rw [if_pos c42] at H
                have c42b0 := decide_eq_true c42
                clear c42
                obtain ⟨bq43, hbq43⟩ : ∃ b_ : Bool, b_ = (rdOf false x4_2 t344) := ⟨_, rfl⟩
                replace H : (if bq43 = true then (spec_CountCampsReached.l1 k2 x4_2 x5_2 x6_1 t336 (t336.length : Int) (wrap64 (x41_2 + 1)) l0_0 a0_1 a0_2 t331 t334) else (if x5_2.length < 17592186044416 then (spec_CountCampsReached.l1 k2 (x4_2.set (t344 : Int).toNat true) (x5_2 ++ [t344]) x6_1 t336 (t336.length : Int) (wrap64 (x41_2 + 1)) l0_0 a0_1 a0_2 t331 t334) else (none))) = some (r1, r2) := by rw [← hbq43] at H; exact H
                have Nbq43 := ak_ hbq43
                clear hbq43
                by_cases c44 : bq43 = true
                ·
                 subst c44
                 have H1 : (spec_CountCampsReached.l1 k2 x4_2 x5_2 x6_1 t336 (t336.length : Int) (wrap64 (x41_2 + 1)) l0_0 a0_1 a0_2 t331 t334) = some (r1, r2) := by rw [if_pos rfl] at H; exact H
                 clear H
                 have H := H1
                 clear H1
                 have H' := ak_ H
                 clear H
                 have p339 : 0 ≤ (x41_2 : Int) := od_
                 have q339 : x41_2 < (t336.length : Int) := od_
                 obtain ⟨ad339, A339_0, c339_0, e339, hx339_0, hl339_0, hi339_0⟩ := at_L3 (Kd.N_reads' HO_39.out).2.2 x41_2 p339 q339
                 cases e339
                 obtain ⟨ce339, hce339, hMe339, hcc339⟩ := Kd.N_get HO_39.out [] x41_2 p339 (by first | exact q339 | exact odt_ (by assumption) | (have e_ := (Kd.N_reads' HO_39.out).1; omega))
                 obtain ⟨ua339_0, uc339_0, rfl, ul339_0, ge339_0⟩ := Kd.FK_slice_open hMe339
                 have hv339_0 := hcc339 0 _ rfl
                 rw [Nat.add_zero, show ((Kd.slice 22 (Kd.slice 3 (Kd.int .i64)))).sz = 1 from rfl, Nat.mul_one] at hv339_0
                 replace hv339_0 := Option.some.inj (hv339_0.symm.trans hx339_0)
                 injection hv339_0 with hva_ hvn_ hvc_
                 rw [hva_] at ge339_0
                 rw [hvc_] at ul339_0
                 have HL339_0 := ak_ (show Kd.V (Kd.slice 3 (Kd.int .i64)) 22 _ w.heap.size _ _ (rd_L3 t336 x41_2) from Kd.V_mk ul339_0 ge339_0)
                 clear hva_ hvn_ hvc_ ge339_0 ul339_0 hcc339 hce339
                 have HR339_0 := ak_ hi339_0
                 have HC339_0 := ak_ hl339_0
                 clear hi339_0 hl339_0
                 replace p339 := eq_true p339
                 replace q339 := eq_true q339
                 try go_wp2
                 have n0_ := ak_ (Kd.R_drew HO_4.out)
                 have n1_ := ak_ (Kd.R_drew HO_5.out)
                 have n2_ := ak_ (Kd.N_drew HO_39.out)
                 have n3_ := ak_ (Kd.R_drew HO_336000.out)
                 have n4_ := ak_ (Kd.V_drew HL339_0.out)
                 have n5_ := ak_ (k1_ BK321.out)
                 have n6_ := ak_ (k1_ BK335.out)
                 have n7_ := ak_ (Kd.C_drew HR339_0.out)
                 have n8_ := ak_ (b1_ HB.out)
                 clear HO_4 HO_5 HO_39 HO_336000 HL339_0 BK321 BK335 HR339_0 HB
                 have HO_4 := n0_; have HO_5 := n1_; have HO_39 := n2_; have HO_336000 := n3_; have HL339_0 := n4_; have BK321 := n5_; have BK335 := n6_; have HR339_0 := n7_; have HB := n8_
                 clear n0_ n1_ n2_ n3_ n4_ n5_ n6_ n7_ n8_
                 refine start_ (n := 6) (S := fun w' => w'.cell? ⟨gb321, 0, none⟩ = some (.slice A0_0 l0_0.length c0_0) ∧ w'.cell? ⟨gb321, 1, none⟩ = some (.int .i64 a0_1) ∧ w'.cell? ⟨gb321, 2, none⟩ = some (.int .i64 a0_2) ∧ w'.cell? ⟨gb335, 0, none⟩ = some (.slice Ao28 t331.length co28) ∧ w'.cell? ⟨gb335, 1, none⟩ = some (.int .i64 t334)) (ds := []) (mb_ 6 0) (by kernel_rfl) rfl rfl ⟨(blk_cell BK321.out 0).trans rfl, (blk_cell BK321.out 1).trans rfl, (blk_cell BK321.out 2).trans rfl, (blk_cell BK335.out 0).trans rfl, (blk_cell BK335.out 1).trans rfl⟩ (fun hHeld => ?_)
                 generalize wr.drew = w45 at HO_4 HO_5 HO_39 HO_336000 HL339_0 BK321 BK335 HR339_0 HB hHeld ⊢
                 refine pure_ (i := 2) (N := some 47) (v := ?_) (a' := ?_) (mb_ 6 4) rfl rfl (by kernel_rfl) (fun _ _ _ h => h) (Or.inl ⟨by rfl, ?_⟩) ?_ ?_
                 rotate_left
                 ·
                  intro w'
                  go_simp
                  with_reducible rfl
                 rotate_left
                 ·
                  simp only [Act.put, setIfInBounds_toArray, set_cons_zero, set_cons_succ, i64_w, i32_w]
                  rfl
                 refine take_ (i := 0) (N := some 45) (v := ?_) (a' := ?_) (mb_ 6 5) rfl rfl (by kernel_rfl) (fun _ _ _ h => h) (Or.inl ⟨by rfl, ?_⟩) hHeld ?_ ?_
                 rotate_left
                 ·
                  rintro w' ⟨s0, s1, s2, s3, s4⟩
                  go_simp
                  with_reducible rfl
                 rotate_left
                 ·
                  simp only [Act.put, setIfInBounds_toArray, set_cons_zero, set_cons_succ, i64_w, i32_w]
                  rfl
                 refine take_ (i := 1) (N := some 46) (v := ?_) (a' := ?_) (mb_ 6 7) rfl rfl (by kernel_rfl) (fun _ _ _ h => h) (Or.inl ⟨by rfl, ?_⟩) hHeld ?_ ?_
                 rotate_left
                 ·
                  rintro w' ⟨s0, s1, s2, s3, s4⟩
                  go_simp
                  with_reducible rfl
                 rotate_left
                 ·
                  simp only [Act.put, setIfInBounds_toArray, set_cons_zero, set_cons_succ, i64_w, i32_w]
                  rfl
                 refine one_ (i := 3) (N := some 48) (mb_ 6 15) rfl rfl (by kernel_rfl) (by decide) (fun K hK => ?_)
                 refine goes_ Try.func53 (by kernel_rfl) rfl #[.agg #[.slice Ao28 t331.length co28, .int .i64 t334], .slice A339_0 (rd_L3 t336 x41_2).length c339_0] (by rfl) rfl rfl rs_ ?_
                 with_reducible refine (spec_toAfter.calls k2 _ _ t331 t334 _ _ (rd_L3 t336 x41_2) t340 t343 _ ?side1 ?side2 ?side3 ?side4 A39.out).mono ?_
                 (case side1 => exact cs_ ((Kd.R_reads' HO_336000.out).2.2))
                 (case side2 => exact (Kd.R_reads' HO_336000.out).2.1)
                 (case side3 => repeat (first | exact (by repeat (first | (with_reducible exact HR339_0.out) | (with_reducible refine Kd.C_alloc ?_ _) | (with_reducible refine Kd.C_drewN ?_ _) | (with_reducible refine Kd.C_drew ?_) | exact HR339_0.out)) | (with_reducible refine Kd.C_alloc ?_ _) | (with_reducible refine Kd.C_drewN ?_ _) | (with_reducible refine Kd.C_drew ?_)))
                 (case side4 => exact HC339_0.out)
                 rintro e w46 ⟨v341, rfl, ho0, hb⟩
                 refine ⟨_, rfl, ?_⟩
                 have n0_ := ak_ (Kd.R_elder' (Kd.pR HO_4.out) (Kd.R_base ho0) hb)
                 have n1_ := ak_ (Kd.R_below (Kd.pR HO_5.out) hb)
                 have n2_ := ak_ (Kd.N_elder' (Kd.pN HO_39.out) (Kd.R_base ho0) hb)
                 have n3_ := ak_ (Kd.R_elder' (Kd.pR HO_336000.out) (Kd.R_base ho0) hb)
                 have n4_ := ak_ (Kd.V_elder' (Kd.pV HL339_0.out) (Kd.R_base ho0) hb)
                 have n5_ := ak_ (Kd.R_lower (Kd.R_new' (Kd.R_new' ho0 (Kd.R_lt (Kd.pR HO_4.out))) (Kd.R_lt (Kd.pR HO_336000.out))) (bz_ bl_))
                 have n6_ := ak_ (blk_below (pk BK321.out) hb)
                 have n7_ := ak_ (blk_below (pk BK335.out) hb)
                 have n8_ := ak_ (Kd.C_below (by repeat (first | (with_reducible exact HR339_0.out) | (with_reducible refine Kd.C_alloc ?_ _) | (with_reducible refine Kd.C_drewN ?_ _) | (with_reducible refine Kd.C_drew ?_) | exact HR339_0.out)) hb)
                 have n9_ := ak_ (bs_ bl_ hb)
                 clear HO_4 HO_5 HO_39 HO_336000 HL339_0 BK321 BK335 HR339_0 HB
                 have HO_4 := n0_; have HO_5 := n1_; have HO_39 := n2_; have HO_336000 := n3_; have HL339_0 := n4_; have HO342 := n5_; have BK321 := n6_; have BK335 := n7_; have HR339_0 := n8_; have HB := n9_
                 clear n0_ n1_ n2_ n3_ n4_ n5_ n6_ n7_ n8_ n9_
                 (try clear hb)
                 (try clear hb2)
                 (try clear hk)
                 (try clear hi)
                 (try clear ho0)
                 obtain ⟨Ao47, co47, eo47⟩ := Kd.R_slice HO342.out
                 (first | subst eo47 | (injection eo47 with f1_ f2_ f3_; have f4_ := f1_.symm; have f5_ := f3_.symm; clear f1_ f2_ f3_; subst f4_; subst f5_))
                 refine hK.out _ _ ⟨(blk_cell BK321.out 0).trans rfl, (blk_cell BK321.out 1).trans rfl, (blk_cell BK321.out 2).trans rfl, (blk_cell BK335.out 0).trans rfl, (blk_cell BK335.out 1).trans rfl⟩ (fun hHeld => ?_)
                 clear hK K
                 refine nm_ ?_
                 refine one_ (i := 4) (N := some 49) (mb_ 6 31) rfl rfl (by kernel_rfl) (by decide) (fun K hK => ?_)
                 refine goes_ Try.func52 (by kernel_rfl) rfl #[.agg #[.slice A0_0 l0_0.length c0_0, .int .i64 a0_1, .int .i64 a0_2], .agg #[.slice Ao47 t340.length co47, .int .i64 t343]] (by rfl) rfl rfl rs_ ?_
                 with_reducible refine (spec_toCode.calls k2 _ _ l0_0 a0_1 a0_2 _ _ t340 t343 t344 _ ?side1 ?side2 ?side3 ?side4 A40.out).mono ?_
                 (case side1 => exact cs_ (Kd.C_below HR0_0.out HB.out))
                 (case side2 => exact HC0_0.out)
                 (case side3 => exact cs_ ((Kd.R_reads' HO342.out).2.2))
                 (case side4 => exact (Kd.R_reads' HO342.out).2.1)
                 rintro e w48 ⟨rfl, hb⟩
                 refine ⟨_, rfl, ?_⟩
                 have n0_ := ak_ (Kd.R_below (Kd.pR HO_4.out) hb)
                 have n1_ := ak_ (Kd.R_below (Kd.pR HO_5.out) hb)
                 have n2_ := ak_ (Kd.N_below (Kd.pN HO_39.out) hb)
                 have n3_ := ak_ (Kd.R_below (Kd.pR HO_336000.out) hb)
                 have n4_ := ak_ (Kd.V_below (Kd.pV HL339_0.out) hb)
                 have n5_ := ak_ (Kd.R_below (Kd.pR HO342.out) hb)
                 have n6_ := ak_ (blk_below (pk BK321.out) hb)
                 have n7_ := ak_ (blk_below (pk BK335.out) hb)
                 have n8_ := ak_ (Kd.C_below (by repeat (first | (with_reducible exact HR339_0.out) | (with_reducible refine Kd.C_alloc ?_ _) | (with_reducible refine Kd.C_drewN ?_ _) | (with_reducible refine Kd.C_drew ?_) | exact HR339_0.out)) hb)
                 have n9_ := ak_ (bs_ bl_ hb)
                 clear HO_4 HO_5 HO_39 HO_336000 HL339_0 HO342 BK321 BK335 HR339_0 HB
                 have HO_4 := n0_; have HO_5 := n1_; have HO_39 := n2_; have HO_336000 := n3_; have HL339_0 := n4_; have HO342 := n5_; have BK321 := n6_; have BK335 := n7_; have HR339_0 := n8_; have HB := n9_
                 clear n0_ n1_ n2_ n3_ n4_ n5_ n6_ n7_ n8_ n9_
                 (try clear hb)
                 (try clear hb2)
                 (try clear hk)
                 (try clear hi)
                 refine hK.out _ _ ⟨(blk_cell BK321.out 0).trans rfl, (blk_cell BK321.out 1).trans rfl, (blk_cell BK321.out 2).trans rfl, (blk_cell BK335.out 0).trans rfl, (blk_cell BK335.out 1).trans rfl⟩ (fun hHeld => ?_)
                 clear hK K
                 refine nm_ ?_
                 refine pure_ (i := 5) (N := some 10) (v := ?_) (a' := ?_) (mb_ 6 63) rfl rfl (by kernel_rfl) (fun _ _ _ h => h) (Or.inl ⟨by rfl, ?_⟩) ?_ ?_
                 rotate_left
                 ·
                  intro w'
                  go_simp
                  with_reducible rfl
                 rotate_left
                 ·
                  simp only [Act.put, setIfInBounds_toArray, set_cons_zero, set_cons_succ, i64_w, i32_w]
                  rfl
                 refine done_ (by kernel_rfl) ?_
                 have p345 : 0 ≤ (t344 : Int) := od_
                 have q345 : t344 < (x4_2.length : Int) := od_
                 obtain ⟨ad345, e345, hx345_0⟩ := Kd.at_bool (Kd.R_reads' HO_4.out).2.2 t344 p345 q345
                 (try rw [← Nbq43.out] at hx345_0)
                 obtain rfl : (⟨go8, 0, none⟩ : Addr) = ad345 := (by injection e345)
                 (first | simp only [add_plain] at hx345_0 | simp only [add_at] at hx345_0 | simp only [Addr.add, Nat.zero_add] at hx345_0 | skip)
                 replace p345 := eq_true p345
                 replace q345 := eq_true q345
                 try go_wp2
                 (try simp only [← hl4_2])
                 go_roundg k2
                 case measure => have := HK1.out; have := HK2.out; omega
                 case rel => exact ⟨(x4_2), (x5_2), (wrap64 (x41_2 + 1)), (ry_), H', ⟨by have := HK1.out; have := HK2.out; omega⟩, ⟨by (try simp only [hl4_1, hl4_2]); (with_reducible repeat (first | apply Kd.R_alloc | apply Kd.R_drewN | apply Kd.R_drew)); exact Kd.R_mono HO_4.out (fun _ hk => hk.1)⟩, ⟨by (try simp only [hl4_1, hl4_2]); exact Kd.pR HO_5.out⟩, ⟨by (try simp only [hl4_1, hl4_2]); (with_reducible repeat (first | apply Kd.N_alloc | apply Kd.N_drewN | apply Kd.N_drew)); exact Kd.N_mono HO_39.out (fun _ hk => ⟨hk.1.1, ⟨hk.1.2.1, ⟨hk.1.2.2.1, ⟨hk.1.2.2.2.1, hk.1.2.2.2.2⟩⟩⟩⟩)⟩, ⟨by (try simp only [hl4_1, hl4_2]); (with_reducible repeat (first | apply Kd.R_alloc | apply Kd.R_drewN | apply Kd.R_drew)); exact Kd.R_mono HO_336000.out (fun _ hk => hk.1)⟩, ⟨by (try simp only [hl4_1, hl4_2]); exact pk BK321.out⟩, ⟨by (try simp only [hl4_1, hl4_2]); exact pk BK335.out⟩, ⟨bl_⟩⟩
                ·
                 replace c44 := Bool.eq_false_iff.mpr c44
                 subst c44
                 have H1 : (if x5_2.length < 17592186044416 then (spec_CountCampsReached.l1 k2 (x4_2.set (t344 : Int).toNat true) (x5_2 ++ [t344]) x6_1 t336 (t336.length : Int) (wrap64 (x41_2 + 1)) l0_0 a0_1 a0_2 t331 t334) else (none)) = some (r1, r2) := by rw [if_neg (show ¬ (false = true) by decide)] at H; exact H
                 clear H
                 have H := H1
                 clear H1
                 obtain ⟨y346, hy346⟩ : ∃ y_ : List Bool, y_ = (x4_2.set (t344 : Int).toNat true) := ⟨_, rfl⟩
                 replace H : (if x5_2.length < 17592186044416 then (spec_CountCampsReached.l1 k2 y346 (x5_2 ++ [t344]) x6_1 t336 (t336.length : Int) (wrap64 (x41_2 + 1)) l0_0 a0_1 a0_2 t331 t334) else (none)) = some (r1, r2) := by first | (rw [hy346]; exact H) | exact H
                 have Ny346 := ak_ hy346
                 clear hy346
                 by_cases c50 : x5_2.length < 17592186044416
                 ·
                  rw [if_pos c50] at H
                  have LMc50 := ak_ c50
                  clear c50
                  obtain ⟨y347, hy347⟩ : ∃ y_ : List Int, y_ = (x5_2 ++ [t344]) := ⟨_, rfl⟩
                  replace H : (spec_CountCampsReached.l1 k2 y346 y347 x6_1 t336 (t336.length : Int) (wrap64 (x41_2 + 1)) l0_0 a0_1 a0_2 t331 t334) = some (r1, r2) := by first | (rw [hy347]; exact H) | exact H
                  have Ny347 := ak_ hy347
                  clear hy347
                  have H' := ak_ H
                  clear H
                  have p339 : 0 ≤ (x41_2 : Int) := od_
                  have q339 : x41_2 < (t336.length : Int) := od_
                  obtain ⟨ad339, A339_0, c339_0, e339, hx339_0, hl339_0, hi339_0⟩ := at_L3 (Kd.N_reads' HO_39.out).2.2 x41_2 p339 q339
                  cases e339
                  obtain ⟨ce339, hce339, hMe339, hcc339⟩ := Kd.N_get HO_39.out [] x41_2 p339 (by first | exact q339 | exact odt_ (by assumption) | (have e_ := (Kd.N_reads' HO_39.out).1; omega))
                  obtain ⟨ua339_0, uc339_0, rfl, ul339_0, ge339_0⟩ := Kd.FK_slice_open hMe339
                  have hv339_0 := hcc339 0 _ rfl
                  rw [Nat.add_zero, show ((Kd.slice 22 (Kd.slice 3 (Kd.int .i64)))).sz = 1 from rfl, Nat.mul_one] at hv339_0
                  replace hv339_0 := Option.some.inj (hv339_0.symm.trans hx339_0)
                  injection hv339_0 with hva_ hvn_ hvc_
                  rw [hva_] at ge339_0
                  rw [hvc_] at ul339_0
                  have HL339_0 := ak_ (show Kd.V (Kd.slice 3 (Kd.int .i64)) 22 _ w.heap.size _ _ (rd_L3 t336 x41_2) from Kd.V_mk ul339_0 ge339_0)
                  clear hva_ hvn_ hvc_ ge339_0 ul339_0 hcc339 hce339
                  have HR339_0 := ak_ hi339_0
                  have HC339_0 := ak_ hl339_0
                  clear hi339_0 hl339_0
                  replace p339 := eq_true p339
                  replace q339 := eq_true q339
                  try go_wp2
                  have n0_ := ak_ (Kd.R_drew HO_4.out)
                  have n1_ := ak_ (Kd.R_drew HO_5.out)
                  have n2_ := ak_ (Kd.N_drew HO_39.out)
                  have n3_ := ak_ (Kd.R_drew HO_336000.out)
                  have n4_ := ak_ (Kd.V_drew HL339_0.out)
                  have n5_ := ak_ (k1_ BK321.out)
                  have n6_ := ak_ (k1_ BK335.out)
                  have n7_ := ak_ (Kd.C_drew HR339_0.out)
                  have n8_ := ak_ (b1_ HB.out)
                  clear HO_4 HO_5 HO_39 HO_336000 HL339_0 BK321 BK335 HR339_0 HB
                  have HO_4 := n0_; have HO_5 := n1_; have HO_39 := n2_; have HO_336000 := n3_; have HL339_0 := n4_; have BK321 := n5_; have BK335 := n6_; have HR339_0 := n7_; have HB := n8_
                  clear n0_ n1_ n2_ n3_ n4_ n5_ n6_ n7_ n8_
                  refine start_ (n := 6) (S := fun w' => w'.cell? ⟨gb321, 0, none⟩ = some (.slice A0_0 l0_0.length c0_0) ∧ w'.cell? ⟨gb321, 1, none⟩ = some (.int .i64 a0_1) ∧ w'.cell? ⟨gb321, 2, none⟩ = some (.int .i64 a0_2) ∧ w'.cell? ⟨gb335, 0, none⟩ = some (.slice Ao28 t331.length co28) ∧ w'.cell? ⟨gb335, 1, none⟩ = some (.int .i64 t334)) (ds := []) (mb_ 6 0) (by kernel_rfl) rfl rfl ⟨(blk_cell BK321.out 0).trans rfl, (blk_cell BK321.out 1).trans rfl, (blk_cell BK321.out 2).trans rfl, (blk_cell BK335.out 0).trans rfl, (blk_cell BK335.out 1).trans rfl⟩ (fun hHeld => ?_)
                  generalize wr.drew = w51 at HO_4 HO_5 HO_39 HO_336000 HL339_0 BK321 BK335 HR339_0 HB hHeld ⊢
                  refine pure_ (i := 2) (N := some 47) (v := ?_) (a' := ?_) (mb_ 6 4) rfl rfl (by kernel_rfl) (fun _ _ _ h => h) (Or.inl ⟨by rfl, ?_⟩) ?_ ?_
                  rotate_left
                  ·
                   intro w'
                   go_simp
                   with_reducible rfl
                  rotate_left
                  ·
                   simp only [Act.put, setIfInBounds_toArray, set_cons_zero, set_cons_succ, i64_w, i32_w]
                   rfl
                  refine take_ (i := 0) (N := some 45) (v := ?_) (a' := ?_) (mb_ 6 5) rfl rfl (by kernel_rfl) (fun _ _ _ h => h) (Or.inl ⟨by rfl, ?_⟩) hHeld ?_ ?_
                  rotate_left
                  ·
                   rintro w' ⟨s0, s1, s2, s3, s4⟩
                   go_simp
                   with_reducible rfl
                  rotate_left
                  ·
                   simp only [Act.put, setIfInBounds_toArray, set_cons_zero, set_cons_succ, i64_w, i32_w]
                   rfl
                  refine take_ (i := 1) (N := some 46) (v := ?_) (a' := ?_) (mb_ 6 7) rfl rfl (by kernel_rfl) (fun _ _ _ h => h) (Or.inl ⟨by rfl, ?_⟩) hHeld ?_ ?_
                  rotate_left
                  ·
                   rintro w' ⟨s0, s1, s2, s3, s4⟩
                   go_simp
                   with_reducible rfl
                  rotate_left
                  ·
                   simp only [Act.put, setIfInBounds_toArray, set_cons_zero, set_cons_succ, i64_w, i32_w]
                   rfl
                  refine one_ (i := 3) (N := some 48) (mb_ 6 15) rfl rfl (by kernel_rfl) (by decide) (fun K hK => ?_)
                  refine goes_ Try.func53 (by kernel_rfl) rfl #[.agg #[.slice Ao28 t331.length co28, .int .i64 t334], .slice A339_0 (rd_L3 t336 x41_2).length c339_0] (by rfl) rfl rfl rs_ ?_
                  with_reducible refine (spec_toAfter.calls k2 _ _ t331 t334 _ _ (rd_L3 t336 x41_2) t340 t343 _ ?side1 ?side2 ?side3 ?side4 A39.out).mono ?_
                  (case side1 => exact cs_ ((Kd.R_reads' HO_336000.out).2.2))
                  (case side2 => exact (Kd.R_reads' HO_336000.out).2.1)
                  (case side3 => repeat (first | exact (by repeat (first | (with_reducible exact HR339_0.out) | (with_reducible refine Kd.C_alloc ?_ _) | (with_reducible refine Kd.C_drewN ?_ _) | (with_reducible refine Kd.C_drew ?_) | exact HR339_0.out)) | (with_reducible refine Kd.C_alloc ?_ _) | (with_reducible refine Kd.C_drewN ?_ _) | (with_reducible refine Kd.C_drew ?_)))
                  (case side4 => exact HC339_0.out)
                  rintro e w52 ⟨v341, rfl, ho0, hb⟩
                  refine ⟨_, rfl, ?_⟩
                  have n0_ := ak_ (Kd.R_elder' (Kd.pR HO_4.out) (Kd.R_base ho0) hb)
                  have n1_ := ak_ (Kd.R_below (Kd.pR HO_5.out) hb)
                  have n2_ := ak_ (Kd.N_elder' (Kd.pN HO_39.out) (Kd.R_base ho0) hb)
                  have n3_ := ak_ (Kd.R_elder' (Kd.pR HO_336000.out) (Kd.R_base ho0) hb)
                  have n4_ := ak_ (Kd.V_elder' (Kd.pV HL339_0.out) (Kd.R_base ho0) hb)
                  have n5_ := ak_ (Kd.R_lower (Kd.R_new' (Kd.R_new' ho0 (Kd.R_lt (Kd.pR HO_4.out))) (Kd.R_lt (Kd.pR HO_336000.out))) (bz_ bl_))
                  have n6_ := ak_ (blk_below (pk BK321.out) hb)
                  have n7_ := ak_ (blk_below (pk BK335.out) hb)
                  have n8_ := ak_ (Kd.C_below (by repeat (first | (with_reducible exact HR339_0.out) | (with_reducible refine Kd.C_alloc ?_ _) | (with_reducible refine Kd.C_drewN ?_ _) | (with_reducible refine Kd.C_drew ?_) | exact HR339_0.out)) hb)
                  have n9_ := ak_ (bs_ bl_ hb)
                  clear HO_4 HO_5 HO_39 HO_336000 HL339_0 BK321 BK335 HR339_0 HB
                  have HO_4 := n0_; have HO_5 := n1_; have HO_39 := n2_; have HO_336000 := n3_; have HL339_0 := n4_; have HO342 := n5_; have BK321 := n6_; have BK335 := n7_; have HR339_0 := n8_; have HB := n9_
                  clear n0_ n1_ n2_ n3_ n4_ n5_ n6_ n7_ n8_ n9_
                  (try clear hb)
                  (try clear hb2)
                  (try clear hk)
                  (try clear hi)
                  (try clear ho0)
                  obtain ⟨Ao53, co53, eo53⟩ := Kd.R_slice HO342.out
                  (first | subst eo53 | (injection eo53 with f1_ f2_ f3_; have f4_ := f1_.symm; have f5_ := f3_.symm; clear f1_ f2_ f3_; subst f4_; subst f5_))
                  refine hK.out _ _ ⟨(blk_cell BK321.out 0).trans rfl, (blk_cell BK321.out 1).trans rfl, (blk_cell BK321.out 2).trans rfl, (blk_cell BK335.out 0).trans rfl, (blk_cell BK335.out 1).trans rfl⟩ (fun hHeld => ?_)
                  clear hK K
                  refine nm_ ?_
                  refine one_ (i := 4) (N := some 49) (mb_ 6 31) rfl rfl (by kernel_rfl) (by decide) (fun K hK => ?_)
                  refine goes_ Try.func52 (by kernel_rfl) rfl #[.agg #[.slice A0_0 l0_0.length c0_0, .int .i64 a0_1, .int .i64 a0_2], .agg #[.slice Ao53 t340.length co53, .int .i64 t343]] (by rfl) rfl rfl rs_ ?_
                  with_reducible refine (spec_toCode.calls k2 _ _ l0_0 a0_1 a0_2 _ _ t340 t343 t344 _ ?side1 ?side2 ?side3 ?side4 A40.out).mono ?_
                  (case side1 => exact cs_ (Kd.C_below HR0_0.out HB.out))
                  (case side2 => exact HC0_0.out)
                  (case side3 => exact cs_ ((Kd.R_reads' HO342.out).2.2))
                  (case side4 => exact (Kd.R_reads' HO342.out).2.1)
                  rintro e w54 ⟨rfl, hb⟩
                  refine ⟨_, rfl, ?_⟩
                  have n0_ := ak_ (Kd.R_below (Kd.pR HO_4.out) hb)
                  have n1_ := ak_ (Kd.R_below (Kd.pR HO_5.out) hb)
                  have n2_ := ak_ (Kd.N_below (Kd.pN HO_39.out) hb)
                  have n3_ := ak_ (Kd.R_below (Kd.pR HO_336000.out) hb)
                  have n4_ := ak_ (Kd.V_below (Kd.pV HL339_0.out) hb)
                  have n5_ := ak_ (Kd.R_below (Kd.pR HO342.out) hb)
                  have n6_ := ak_ (blk_below (pk BK321.out) hb)
                  have n7_ := ak_ (blk_below (pk BK335.out) hb)
                  have n8_ := ak_ (Kd.C_below (by repeat (first | (with_reducible exact HR339_0.out) | (with_reducible refine Kd.C_alloc ?_ _) | (with_reducible refine Kd.C_drewN ?_ _) | (with_reducible refine Kd.C_drew ?_) | exact HR339_0.out)) hb)
                  have n9_ := ak_ (bs_ bl_ hb)
                  clear HO_4 HO_5 HO_39 HO_336000 HL339_0 HO342 BK321 BK335 HR339_0 HB
                  have HO_4 := n0_; have HO_5 := n1_; have HO_39 := n2_; have HO_336000 := n3_; have HL339_0 := n4_; have HO342 := n5_; have BK321 := n6_; have BK335 := n7_; have HR339_0 := n8_; have HB := n9_
                  clear n0_ n1_ n2_ n3_ n4_ n5_ n6_ n7_ n8_ n9_
                  (try clear hb)
                  (try clear hb2)
                  (try clear hk)
                  (try clear hi)
                  refine hK.out _ _ ⟨(blk_cell BK321.out 0).trans rfl, (blk_cell BK321.out 1).trans rfl, (blk_cell BK321.out 2).trans rfl, (blk_cell BK335.out 0).trans rfl, (blk_cell BK335.out 1).trans rfl⟩ (fun hHeld => ?_)
                  clear hK K
                  refine nm_ ?_
                  refine pure_ (i := 5) (N := some 10) (v := ?_) (a' := ?_) (mb_ 6 63) rfl rfl (by kernel_rfl) (fun _ _ _ h => h) (Or.inl ⟨by rfl, ?_⟩) ?_ ?_
                  rotate_left
                  ·
                   intro w'
                   go_simp
                   with_reducible rfl
                  rotate_left
                  ·
                   simp only [Act.put, setIfInBounds_toArray, set_cons_zero, set_cons_succ, i64_w, i32_w]
                   rfl
                  refine done_ (by kernel_rfl) ?_
                  have p345 : 0 ≤ (t344 : Int) := od_
                  have q345 : t344 < (x4_2.length : Int) := od_
                  obtain ⟨ad345, e345, hx345_0⟩ := Kd.at_bool (Kd.R_reads' HO_4.out).2.2 t344 p345 q345
                  (try rw [← Nbq43.out] at hx345_0)
                  obtain rfl : (⟨go8, 0, none⟩ : Addr) = ad345 := (by injection e345)
                  (first | simp only [add_plain] at hx345_0 | simp only [add_at] at hx345_0 | simp only [Addr.add, Nat.zero_add] at hx345_0 | skip)
                  replace p345 := eq_true p345
                  replace q345 := eq_true q345
                  have p49 : 0 ≤ (t344 : Int) := od_
                  have q49 : (t344 : Int) < ((x4_2.length : Int) : Int) := od_
                  obtain ⟨hx49_0, hf49_0⟩ := Kd.R_celln false HO_4.out (t344 : Int) p49 q49
                  replace p49 := eq_true p49
                  replace q49 := eq_true q49
                  obtain ⟨hy55_, hz55_⟩ := Kd.R_celln false HO_4.out (t344 : Int) (odt_ (by assumption)) (odt_ (by assumption))
                  have HP55 := Kd.R_putg HO_4.out (t344 : Int) true
                  try go_wp2_with (first | ((with_reducible refine gate_store (t := 4) (p := 57) rfl ?_); refine store_event (t := 4) (p := 57) (v := ?vo_w56) (w1 := (w54.setCell ⟨go8, (t344 : Int).toNat, none⟩ (.bool true))) ?hg ?ho ?hn ?hr ?_; (case ho => rfl); (case hg => rfl); (case hn => rfl); (case hr => go_simp <;> rfl); intro w56 hw; have hg : w54.grownBy w56 (some go8) := (by rw [hw]; exact HP55.2); have hp_ : Kd.R Kd.bool 4 w56 w.heap.size (fun k_ => some k_ ≠ (.slice Ao28 t331.length co28 : Value).ownBlock ∧ some k_ ≠ (.slice Ao53 t340.length co53 : Value).ownBlock) (.slice (some ⟨go8, 0, none⟩) x4_2.length co8) y346 := (by rw [hw, Ny346.out]; exact HP55.1); clear HP55; replace HO_5 := ak_ (Kd.R_over' (v := (.slice (some ⟨go8, 0, none⟩) x4_2.length co8)) (Kd.pR HO_5.out) (Kd.R_typed HO_4.out) (by decide) hg); replace HO_39 := ak_ (Kd.N_afterv (v := (.slice (some ⟨go8, 0, none⟩) x4_2.length co8)) (v1 := (.slice (some ⟨go8, 0, none⟩) x4_2.length co8)) (ok := (fun k_ => some k_ ≠ (u5 : Value).ownBlock ∧ some k_ ≠ (.slice Ao28 t331.length co28 : Value).ownBlock ∧ some k_ ≠ (.slice Ao53 t340.length co53 : Value).ownBlock ∧ k_ ≠ gb321 ∧ k_ ≠ gb335)) (by (with_reducible repeat (first | apply Kd.N_alloc | apply Kd.N_drewN | apply Kd.N_drew)); exact Kd.N_mono HO_39.out (fun _ hk => ⟨⟨hk.1.2.1, ⟨hk.1.2.2.1, ⟨hk.2, ⟨hk.1.2.2.2.1, hk.1.2.2.2.2⟩⟩⟩⟩, hk.1.1⟩)) hg (.inl rfl)); replace HO_336000 := ak_ (Kd.R_after (v := (.slice (some ⟨go8, 0, none⟩) x4_2.length co8)) (v1 := (.slice (some ⟨go8, 0, none⟩) x4_2.length co8)) (ok := (fun k_ => some k_ ≠ (.slice Ao53 t340.length co53 : Value).ownBlock)) (by (with_reducible repeat (first | apply Kd.R_alloc | apply Kd.R_drewN | apply Kd.R_drew)); exact Kd.R_mono HO_336000.out (fun _ hk => ⟨hk.2, hk.1⟩)) hg (.inl rfl)); replace BK321 := ak_ (blk_grown (pk BK321.out) hg (Kd.R_ne HO_4.out BK321.out (by decide))); replace BK335 := ak_ (blk_grown (pk BK335.out) hg (Kd.R_ne HO_4.out BK335.out (by decide))); replace HO_4 := ak_ (hp_); replace HL339_0 := ak_ (Kd.V_afterv (v := (.slice (some ⟨go8, 0, none⟩) x4_2.length co8)) (v1 := (.slice (some ⟨go8, 0, none⟩) x4_2.length co8)) (ok := (fun k_ => some k_ ≠ (u5 : Value).ownBlock ∧ some k_ ≠ (.slice (some ad339) t336.length co35 : Value).ownBlock ∧ some k_ ≠ (.slice Ao28 t331.length co28 : Value).ownBlock ∧ some k_ ≠ (.slice Ao53 t340.length co53 : Value).ownBlock ∧ k_ ≠ gb321 ∧ k_ ≠ gb335)) (by (with_reducible repeat (first | apply Kd.V_alloc | apply Kd.V_drewN | apply Kd.V_drew)); exact Kd.V_mono HL339_0.out (fun _ hk => ⟨⟨hk.1.1.2.1, ⟨hk.1.2, ⟨hk.1.1.2.2.1, ⟨hk.2, ⟨hk.1.1.2.2.2.1, hk.1.1.2.2.2.2⟩⟩⟩⟩⟩, hk.1.1.1⟩)) hg (.inl rfl)); replace HO342 := ak_ (Kd.R_after (v := (.slice (some ⟨go8, 0, none⟩) x4_2.length co8)) (v1 := (.slice (some ⟨go8, 0, none⟩) x4_2.length co8)) (ok := (fun k_ => some k_ ≠ (.slice Ao28 t331.length co28 : Value).ownBlock)) (by (with_reducible repeat (first | apply Kd.R_alloc | apply Kd.R_drewN | apply Kd.R_drew)); exact Kd.R_mono HO342.out (fun _ hk => ⟨hk.2, hk.1.2⟩)) hg (.inl rfl)); replace HB := ak_ ((by rw [hw]; exact below_set (HB.out) GB8.out : Below w.heap.size w w56)); clear hg hw hp_) | ((with_reducible refine gate_builtin (b := .append) (xs := #[.tmp 58, .tmp 60]) rfl ?_); at_builtin; refine Kd.R_append (Kd.int .i64) (w0 := w) w.heap.size rfl (.tmp 58) (.tmp 60) 22 3 (.int .i64 0) 8 rfl Try.underlying22 info3 rfl (by decide) (by omega) u5 x5_2 t344 [.int .i64 t344] (fun _ => True) (fun _ => False) rfl rfl ?aP (fun _ hk => hk.elim) ?aF ?aO ?aB ?aS ?aL ?_; (case aP => exact rfl); (case aB => exact bl_); (case aF => exact (fun _ _ => trivial)); (case aO => exact (Kd.pR HO_5.out)); (case aS => exact (bz_ bl_)); (case aL => have := LMc50.out; omega); intro v348 w57 ho hb hg hat; rw [← Ny347.out] at ho; replace HO_4 := ak_ (Kd.R_over' (Kd.pR HO_4.out) (Kd.R_typed (Kd.pR HO_5.out)) (by decide) hg); replace HO_39 := ak_ (Kd.N_afterv (ok := (fun k_ => some k_ ≠ (.slice (some ⟨go8, 0, none⟩) x4_2.length co8 : Value).ownBlock ∧ some k_ ≠ (.slice Ao28 t331.length co28 : Value).ownBlock ∧ some k_ ≠ (.slice Ao53 t340.length co53 : Value).ownBlock ∧ k_ ≠ gb321 ∧ k_ ≠ gb335)) (by (with_reducible repeat (first | apply Kd.N_alloc | apply Kd.N_drewN | apply Kd.N_drew)); exact Kd.N_mono HO_39.out (fun _ hk => ⟨⟨hk.2, ⟨hk.1.2.1, ⟨hk.1.2.2.1, ⟨hk.1.2.2.2.1, hk.1.2.2.2.2⟩⟩⟩⟩, hk.1.1⟩)) hg hat); replace HO_336000 := ak_ (Kd.R_over' (Kd.pR HO_336000.out) (Kd.R_typed (Kd.pR HO_5.out)) (by decide) hg); replace BK321 := ak_ (blk_grown (pk BK321.out) hg (Kd.R_ne HO_5.out BK321.out (by decide))); replace BK335 := ak_ (blk_grown (pk BK335.out) hg (Kd.R_ne HO_5.out BK335.out (by decide))); replace HL339_0 := ak_ (Kd.V_afterv (ok := (fun k_ => some k_ ≠ (.slice (some ⟨go8, 0, none⟩) x4_2.length co8 : Value).ownBlock ∧ some k_ ≠ (.slice (some ad339) t336.length co35 : Value).ownBlock ∧ some k_ ≠ (.slice Ao28 t331.length co28 : Value).ownBlock ∧ some k_ ≠ (.slice Ao53 t340.length co53 : Value).ownBlock ∧ k_ ≠ gb321 ∧ k_ ≠ gb335)) (by (with_reducible repeat (first | apply Kd.V_alloc | apply Kd.V_drewN | apply Kd.V_drew)); exact Kd.V_mono HL339_0.out (fun _ hk => ⟨⟨hk.2, ⟨hk.1.2.1, ⟨hk.1.2.2.1, ⟨hk.1.2.2.2.1, ⟨hk.1.2.2.2.2.1, hk.1.2.2.2.2.2⟩⟩⟩⟩⟩, hk.1.1⟩)) hg hat); replace HO342 := ak_ (Kd.R_over' (Kd.pR HO342.out) (Kd.R_typed (Kd.pR HO_5.out)) (by decide) hg); replace HB := ak_ (hb); have HO349 := ak_ (ho); clear HO_5; clear ho hb hg hat))
                  (try simp only [← hl4_2])
                  go_roundg k2
                  case measure => have := HK1.out; have := HK2.out; omega
                  case rel => exact ⟨(y346), (y347), (wrap64 (x41_2 + 1)), (ry_), H', ⟨by have := HK1.out; have := HK2.out; omega⟩, ⟨by (try simp only [hl4_1, hl4_2]); (with_reducible repeat (first | apply Kd.R_alloc | apply Kd.R_drewN | apply Kd.R_drew)); exact Kd.R_mono HO_4.out (fun _ hk => hk.1)⟩, ⟨by (try simp only [hl4_1, hl4_2]); exact Kd.pR HO349.out⟩, ⟨by (try simp only [hl4_1, hl4_2]); (with_reducible repeat (first | apply Kd.N_alloc | apply Kd.N_drewN | apply Kd.N_drew)); exact Kd.N_mono HO_39.out (fun _ hk => ⟨hk.1.1, ⟨hk.2, ⟨hk.1.2.1, ⟨hk.1.2.2.2.1, hk.1.2.2.2.2⟩⟩⟩⟩)⟩, ⟨by (try simp only [hl4_1, hl4_2]); (with_reducible repeat (first | apply Kd.R_alloc | apply Kd.R_drewN | apply Kd.R_drew)); exact Kd.R_mono HO_336000.out (fun _ hk => hk.2)⟩, ⟨by (try simp only [hl4_1, hl4_2]); exact pk BK321.out⟩, ⟨by (try simp only [hl4_1, hl4_2]); exact pk BK335.out⟩, ⟨bl_⟩⟩
                 ·
                  rw [if_neg c50] at H
                  exact absurd H (by simp)
               ·
                rw [if_neg c42] at H
                exact absurd H (by simp)
              ·
               rw [if_neg c41] at H
               exact absurd H (by simp)
             ·
              rw [if_neg c38] at H
              exact absurd H (by simp)
            ·
             rw [if_neg c37] at H
             exact absurd H (by simp)
           ·
            rw [if_neg c36] at H
            have c36b0 := decide_eq_false c36
            have c36b9 := c36b0; (try rw [hl4_2] at c36b9)
            clear c36
            have H' := ak_ H
            clear H
            go_wp2
            (try simp only [← hl4_1, ← hl4_2])
            go_roundg k2
            case measure => have := HK1.out; have := HK2.out; omega
            case rel => exact ⟨(x4_2), (x5_2), (wrap64 (x6_1 + 1)), (ry_), H', ⟨by have := HK1.out; have := HK2.out; omega⟩, ⟨by (try simp only [hl4_1, hl4_2]); (with_reducible repeat (first | apply Kd.R_alloc | apply Kd.R_drewN | apply Kd.R_drew)); exact Kd.R_mono HO_4.out (fun _ hk => trivial)⟩, ⟨by (try simp only [hl4_1, hl4_2]); exact Kd.pR HO_5.out⟩, ⟨by (try simp only [hl4_1, hl4_2]); exact pk BK321.out⟩, ⟨bl_⟩⟩
        ·
         rw [if_neg c20] at H
         exact absurd H (by simp)
       ·
        rw [if_neg c19] at H
        have c19b0 := decide_eq_false c19
        have c19b9 := c19b0; (try rw [hl4_2] at c19b9)
        clear c19
        simp only [Option.some.injEq, Prod.mk.injEq] at H
        obtain ⟨rfl, rfl⟩ := H
        obtain ⟨Ao58, co58, eo58⟩ := Kd.R_slice HO_5.out
        subst eo58
        go_wp2
        go_ret2
        exact ⟨by first | rfl | (simp [errW_none, errW_some] <;> rfl) | (simp only [← hji4]; first | rfl | (simp [errW_none, errW_some] <;> rfl)) | (simp [*, errW_none, errW_some] <;> rfl), bl_⟩
    ·
     rw [if_neg c7] at H
     exact absurd H (by simp)
   ·
    rw [if_neg c6] at H
    exact absurd H (by simp)
  ·
   rw [if_neg c5] at H
   exact absurd H (by simp)
 ·
  replace c3 := Bool.eq_false_iff.mpr c3
  subst c3
  have H1 : (some (0, false)) = some (r1, r2) := by rw [if_neg (show ¬ (false = true) by decide)] at H; exact H
  clear H
  have H := H1
  clear H1
  simp only [Option.some.injEq, Prod.mk.injEq] at H
  obtain ⟨rfl, rfl⟩ := H
  go_enter Try.func23, Try.ntmps23
  go_wp2_with (first | ((with_reducible refine gate_dst (N := 1) rfl ?_); refine bx_ 1 #[.slice A0_0 l0_0.length c0_0, .int .i64 a0_1, .int .i64 a0_2] 33 ?_; intro gb321 hg w59 hbox hb; have BK321 := ak_ (hbox); have GW321 := ak_ ((by rw [hg]; exact (bz_ (bb_ HB.out)) : w.heap.size ≤ gb321)); replace HB := ak_ (bs_ (bb_ HB.out) hb); have GE321 := GW321; clear hb hbox hg; obtain ⟨hcz60_0, hcz60_1, hcz60_2, hfz60_0, hfz60_1, hfz60_2⟩ := c3_ BK321.out) | ((with_reducible refine gate_callee (f := 50) rfl ?_); refine goesL_ (some 12) rfl rfl Try.func50 (by kernel_rfl) rfl #[.agg #[.slice A0_0 l0_0.length c0_0, .int .i64 a0_1, .int .i64 a0_2]] rfl rs_ ?_; (with_reducible refine (spec_toGood.calls k _ _ l0_0 a0_1 a0_2 false _ ?side1 ?side2 A2.out).mono ?_); (case side1 => exact cs_ (Kd.C_below HR0_0.out HB.out)); (case side2 => exact HC0_0.out); rintro e w61 ⟨rfl, hb⟩; refine ⟨_, rfl, ?_⟩; replace BK321 := ak_ (blk_below (pk BK321.out) hb); replace HB := ak_ (bs_ bl_ hb); (try clear hb); (try clear hb2); (try clear hk); (try clear hi)))
  go_ret2
  exact ⟨rx_, bl_⟩
end Go.Proofs.Ytmdbhpbogbekmaa.QNt
