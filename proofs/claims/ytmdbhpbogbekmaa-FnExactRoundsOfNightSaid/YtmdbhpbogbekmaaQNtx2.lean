/- Contracts of functions of the given program, walked: each call returns what its Lean function says. Conditions: those that stand at each theorem. (Written by a program of this session.) -/
import Derived.Test.YtmdbhpbogbekmaaQNtx0
import Derived.Test.YtmdbhpbogbekmaaQNtx1
namespace Go.Proofs.Ytmdbhpbogbekmaa.QNt
open Go.RowKit Go.Proofs.YtmdbhpbogbekmaaW.PrintWords Go.Proofs.YtmdbhpbogbekmaaW.PrintLast Go.Proofs.YtmdbhpbogbekmaaW.PrintMore
open List (setIfInBounds_toArray set_cons_zero set_cons_succ map_toArray map_cons map_nil)
attribute [local go_sem] max2_int min2_int max_two min_two max_three min_three max_four min_four
set_option linter.unusedVariables false
set_option maxHeartbeats 8000000
set_option maxRecDepth 100000
set_option linter.unusedSimpArgs false
mutual
def spec_paGroups.j0 : Nat → List Int → List Int → Int → Int → List (List Int) → Option ((List (List Int)))
 | 0, _, _, _, _, _ => none
 | k + 1, x0, x1, x2, x3, x9 => if (x1.length : Int) = x3 then (some x9) else (spec_paGroups.l0 k x0 x1 x3 x9 x2)
def spec_paGroups.l0 : Nat → List Int → List Int → Int → List (List Int) → Int → Option ((List (List Int)))
 | 0, _, _, _, _, _ => none
 | k + 1, x0, x1, x3, x9, x10 => if x10 < (x0.length : Int) then ((spec_l1Own.f x1).bind fun t131 => (if 0 ≤ x10 then ((some (([rd x0 x10] : List Int) : List Int)).bind fun y135 => (if t131.length + y135.length < 17592186044416 then ((spec_paGroups.f k x0 (t131 ++ y135) (wrap64 (x10 + 1)) x3).bind fun t141 => (if x9.length + t141.length < 5864062014805 then (spec_paGroups.l0 k x0 x1 x3 (x9 ++ t141) (wrap64 (x10 + 1))) else (none))) else (none))) else (none))) else (some x9)
def spec_paGroups.f : Nat → List Int → List Int → Int → Int → Option ((List (List Int)))
 | 0, _, _, _, _ => none
 | k + 1, l0, l1, a2, a3 => if (l1.length : Int) > 0 then ((spec_l1Own.f l1).bind fun t122 => ((some (([t122] : List (List Int)) : List (List Int))).bind fun y125 => (if ([] : List (List Int)).length + y125.length < 5864062014805 then (spec_paGroups.j0 k l0 l1 a2 a3 (([] : List (List Int)) ++ y125)) else (none)))) else (spec_paGroups.j0 k l0 l1 a2 a3 ([] : List (List Int)))
end
def spec_paGroups.T9 : Bool × List (List Nat × List Nat) := (true, [([], []), ([], []), ([], []), ([2], [2]), ([], []), ([], []), ([4, 5], [4, 5]), ([6], [6]), ([7], [7]), ([3, 8, 3], [3, 8]), ([], []), ([10], [10]), ([], []), ([1, 9, 11, 12, 9], [1, 9, 11, 12]), ([0, 13, 13], [0, 13]), ([14, 14, 0, 1, 2, 3, 4, 5, 6, 7, 8, 9, 10, 11, 12, 13, 14], [0, 14])])
def spec_paGroups.B9 : List Nat := [0, 0, 0, 4, 0, 0, 48, 112, 240, 508, 0, 1024, 0, 8190, 16383, 32767]
theorem spec_paGroups.tab9 : rtab .any (opsOf Try.f65 9) = spec_paGroups.T9 := by kernel_rfl
theorem spec_paGroups.bits9 : waitsOk spec_paGroups.T9.2 spec_paGroups.B9 = true := by kernel_rfl
theorem spec_paGroups.calls (k : Nat) : ∀ (A0 : Option Addr) (c0 : Nat) (l0 : List Int) (A1 : Option Addr) (c1 : Nat) (l1 : List Int) (a2 : Int) (a3 : Int) (r : List (List Int)) (w : World) (hr0 : Kd.C (Kd.int .i64) w A0 l0.length l0) (hc0 : l0.length ≤ c0) (hr1 : Kd.C (Kd.int .i64) w A1 l1.length l1) (hc1 : l1.length ≤ c1) (h : spec_paGroups.f k l0 l1 a2 a3 = some r),
  Calls Try.prog 65 #[.slice A0 l0.length c0, .slice A1 l1.length c1, .int .i64 a2, .int .i64 a3] w fun e w' => ∃ v0_ : Value, e = .returned (v0_) ∧ Kd.N (Kd.slice 3 (Kd.int .i64)) 22 w' w.heap.size (fun k_ => (w.heap.size ≤ k_)) v0_ r ∧ Below w.heap.size w w' := by
 induction k using Nat.strongRecOn with
 | _ k ih =>
 intro A0 c0 l0 A1 c1 l1 a2 a3 r w hr0 hc0 hr1 hc1 h
 cases k with
 | zero => exact absurd h (by simp [spec_paGroups.f])
 | succ k =>
 simp only [spec_paGroups.f] at h
 have HR0 := ak_ hr0
 have HC0 := ak_ hc0
 clear hr0 hc0
 have HR1 := ak_ hr1
 have HC1 := ak_ hc1
 clear hr1 hc1
 have HB := ak_ (Below.refl w.heap.size w)
 have H : (if (l1.length : Int) > 0 then ((spec_l1Own.f l1).bind fun t122 => ((some (([t122] : List (List Int)) : List (List Int))).bind fun y125 => (if ([] : List (List Int)).length + y125.length < 5864062014805 then (spec_paGroups.j0 k l0 l1 a2 a3 (([] : List (List Int)) ++ y125)) else (none)))) else (spec_paGroups.j0 k l0 l1 a2 a3 ([] : List (List Int)))) = some r := h
 clear h
 have HC5 := ak_ H
 clear H
 go_enter Try.func65, Try.ntmps65
 go_upto_if 13 with (fail)
 go_cut [9] (fun v9 wc => ∃ (kq : Nat) (x9_4 : List (List Int)), Aside0 (spec_paGroups.j0 kq l0 l1 a2 a3 x9_4 = some r) ∧ Aside0 (kq ≤ k) ∧ Aside0 (Kd.N (Kd.slice 3 (Kd.int .i64)) 22 wc w.heap.size (fun k_ => (w.heap.size ≤ k_)) v9 x9_4) ∧ Aside0 (Below w.heap.size w wc))
 case first =>
  have H := HC5.out
  clear HC5
  by_cases c6 : (l1.length : Int) > 0
  ·
   rw [if_pos c6] at H
   have c6b0 : decide (0 < (l1.length : Int)) = true := decide_eq_true c6
   have c6b1 : decide (0 < l1.length) = true := decide_eq_true (by omega)
   clear c6
   (first | rw [c6b0] | (simp only [i64_w, i32_w]; rw [c6b0]) | rw [c6b1] | skip)
   replace H := Option.bind_eq_some_iff.mp H
   obtain ⟨t122, A70, H⟩ := H
   replace H : ((some (([t122] : List (List Int)) : List (List Int))).bind fun y125 => (if ([] : List (List Int)).length + y125.length < 5864062014805 then (spec_paGroups.j0 k l0 l1 a2 a3 (([] : List (List Int)) ++ y125)) else (none))) = some r := H
   have A7 := ak_ A70
   clear A70
   obtain ⟨y125, hy125⟩ : ∃ y_ : List (List Int), y_ = (([t122] : List (List Int))) := ⟨_, rfl⟩
   replace H : (if ([] : List (List Int)).length + y125.length < 5864062014805 then (spec_paGroups.j0 k l0 l1 a2 a3 (([] : List (List Int)) ++ y125)) else (none)) = some r := by first | (rw [hy125]; exact H) | exact H
   have Ny125 := ak_ hy125
   clear hy125
   by_cases c8 : ([] : List (List Int)).length + y125.length < 5864062014805
   ·
    rw [if_pos c8] at H
    have LMc8 := ak_ c8
    clear c8
    obtain ⟨y128, hy128⟩ : ∃ y_ : List (List Int), y_ = (([] : List (List Int)) ++ y125) := ⟨_, rfl⟩
    replace H : (spec_paGroups.j0 k l0 l1 a2 a3 y128) = some r := by first | (rw [hy128]; exact H) | exact H
    have Ny128 := ak_ hy128
    clear hy128
    have H' := ak_ H
    clear H
    go_wp2_with (first | ((with_reducible refine gate_callee (f := 66) rfl ?_); refine goesL_ (some 16) rfl rfl Try.func66 (by kernel_rfl) rfl #[.slice A1 l1.length c1] rfl (by first | rfl | (simp only [map_toArray, map_cons, map_nil]; try rfl)) ?_; (with_reducible refine (spec_l1Own.calls _ _ l1 t122 _ ?side1 ?side2 A7.out).mono ?_); (case side1 => repeat (first | exact (Kd.C_below HR1.out HB.out) | (with_reducible refine Kd.C_alloc ?_ _) | (with_reducible refine Kd.C_drewN ?_ _) | (with_reducible refine Kd.C_drew ?_))); (case side2 => exact HC1.out); rintro e w9 ⟨v123, rfl, ho0, hb⟩; refine ⟨_, rfl, ?_⟩; have n0_ := ak_ (Kd.R_lower (Kd.R_newM (M := fun k_ => (w.heap.size ≤ k_)) ho0 (bz_ (bb_ HB.out)) (fun k_ h_ => h_)) (bz_ (bb_ HB.out))); have n1_ := ak_ (bs_ (bb_ HB.out) hb); clear HB; have HO124 := n0_; have HB := n1_; clear n0_ n1_; (try clear hb); (try clear hb2); (try clear hk); (try clear hi); (try clear ho0); obtain ⟨Ao10, co10, eo10⟩ := Kd.R_slice HO124.out; subst eo10) | ((with_reducible refine gate_dst (N := 17) rfl ?_); refine Kd.N_lit (Kd.slice 3 (Kd.int .i64)) _ 22 ?hg (N' := 17) ?hd (xs := ([t122] : List (List Int))) (inner := [.slice Ao10 t122.length co10]) (ok := (fun k_ => (w.heap.size ≤ k_))) (okp := (fun k_ => (w.heap.size ≤ k_))) ?hr ?hp (fun _ hk => hk) ((show ∀ k_, w9.heap.size ≤ k_ → (fun k_ => (w.heap.size ≤ k_)) k_ from fun k_ hk => (Nat.le_trans (bz_ (bb_ HB.out)) hk)) _ (Nat.le_refl _)) (Below.refl _ _) (Nat.le_refl _) (by simp) ?_; (case hd => rfl); (case hg => rfl); (case hr => go_simp <;> rfl); (case hp => exact (Reps.one (show Kd.FK (Kd.slice 3 (Kd.int .i64)) _ _ t122 [.slice Ao10 t122.length co10] from (Kd.FK_slice_mk (Kd.R_reads' (Kd.R_mono (ok' := (fun k_ => (w.heap.size ≤ k_))) (HO124.out) (fun k_ hk => hk.1))).2.1 (Kd.R_F (Kd.R_mono (ok' := (fun k_ => (w.heap.size ≤ k_))) (HO124.out) (fun k_ hk => hk.1))))) (Reps.none _ _))); intro v126 w11 ho12 hb hg_ hnew_; clear hg_ hnew_; (first | rw [← Ny125.out] at ho12 | (simp only [Int.reduceToNat] at ho12; rw [← Ny125.out] at ho12)); have n0_ := ak_ (Kd.N_lower ho12 (bz_ (bb_ HB.out))); have n1_ := ak_ (bs_ (bb_ HB.out) hb); clear HB; clear HO124; have HO127 := n0_; have HB := n1_; clear n0_ n1_; clear hb ho12; obtain ⟨Ao14, co14, eo14⟩ := Kd.N_slice HO127.out; subst eo14) | ((with_reducible refine gate_builtin (b := .append) (xs := #[.tmp 14, .tmp 17]) rfl ?_); at_builtin; refine Kd.N_append_rows (Kd.slice 3 (Kd.int .i64)) (w0 := w) w.heap.size rfl (.tmp 14) (.tmp 17) 57 22 (.slice none 0 0) 24 rfl Try.underlying57 info22 rfl (by decide) (by omega) (.slice none 0 0) ([] : List (List Int)) y125 _ _ _ (fun k_ => (w.heap.size ≤ k_)) (fun k_ => ((fun k_ => (w.heap.size ≤ k_))) k_ ∧ some k_ ≠ (.slice none 0 0 : Value).ownBlock) rfl rfl ?aO ?aR (fun _ hk => hk) ?aF ?aB ?aS ?aL ?_; (case aR => exact (by skip; exact Kd.N_F (Kd.N_mono (ok' := (fun k_ => ((fun k_ => (w.heap.size ≤ k_))) k_ ∧ some k_ ≠ (.slice none 0 0 : Value).ownBlock)) (HO127.out) (fun k_ hk => ⟨hk, (by simp [Value.ownBlock])⟩)))); (case aB => exact (bb_ HB.out)); (case aF => exact (fun k_ hk => (Nat.le_trans (bz_ (bb_ HB.out)) hk))); (case aO => exact ((Kd.N_nil _ _ _ _ (fun k_ => (w.heap.size ≤ k_))))); (case aS => exact (bz_ (bb_ HB.out))); (case aL => have := LMc8.out; omega); intro v129 w13 ho hb hg hat; rw [← Ny128.out] at ho; have n0_ := ak_ (Kd.N_afterv (Kd.N_apart_nil (Kd.pN HO127.out)) hg hat); have n1_ := ak_ (hb); have n2_ := ak_ (ho); clear HO127; clear HB; have HO127 := n0_; have HB := n1_; have HO130 := n2_; clear n0_ n1_ n2_; clear ho hb hg hat))
    go_meet
    case rel => exact ⟨_, (y128), H', ⟨by first | omega | exact Nat.le_refl _⟩, ⟨Kd.pN HO130.out⟩, ⟨bb_ HB.out⟩⟩
   ·
    rw [if_neg c8] at H
    exact absurd H (by simp)
  ·
   rw [if_neg c6] at H
   have c6b0 : decide (0 < (l1.length : Int)) = false := decide_eq_false c6
   have c6b1 : decide (0 < l1.length) = false := decide_eq_false (by omega)
   clear c6
   (first | rw [c6b0] | (simp only [i64_w, i32_w]; rw [c6b0]) | rw [c6b1] | skip)
   have H' := ak_ H
   clear H
   go_wp2
   go_meet
   case rel => exact ⟨_, (([] : List (List Int))), H', ⟨by first | omega | exact Nat.le_refl _⟩, ⟨by first | exact Kd.S_nil _ _ _ _ _ | exact Kd.N_nil _ _ _ _ _ | exact Kd.V_nil _ _ _ _ _ | exact Kd.Q_nil _ _ _ _ _ | exact Kd.R_nil _ _ _ _ _⟩, ⟨bb_ HB.out⟩⟩
 case rest =>
  clear HC5
  try clear c1
  try clear p2
  try clear c6
  try clear c6b0
  try clear c6b1
  try clear c8
  obtain ⟨kq, x9_4, HA, HJ4, HO_9, HB⟩ := hcut
  cases kq with
  | zero => exact absurd HA.out (by simp [spec_paGroups.j0])
  | succ kj4 =>
   have H := HA.out
   clear HA
   simp only [spec_paGroups.j0] at H
   by_cases c15 : (l1.length : Int) = a3
   ·
    rw [if_pos c15] at H
    have c15b0 : ((l1.length : Int) == a3) = true := beq_iff_eq.mpr c15
    have c15b1 : ((l1.length : Int) != a3) = false := bne_eq_false_iff_eq.mpr c15
    clear c15
    obtain rfl := Option.some.inj H
    go_wp2
    go_ret
    exact ⟨_, rx_, by (with_reducible repeat (first | apply Kd.N_alloc | apply Kd.N_drewN | apply Kd.N_drew)); exact HO_9.out, bb_ HB.out⟩
   ·
    rw [if_neg c15] at H
    have c15b0 : ((l1.length : Int) == a3) = false := beq_eq_false_iff_ne.mpr c15
    have c15b1 : ((l1.length : Int) != a3) = true := bne_iff_ne.mpr c15
    have H' := ak_ H
    clear H
    go_wp2
    go_loopg [9, 10] kj4 (fun kq v9 v10 w' => ∃ (x9_2 : List (List Int)) (x10_2 : Int), v10 = .int .i64 x10_2 ∧ Aside0 (spec_paGroups.l0 kq l0 l1 a3 x9_2 x10_2 = some r) ∧ Aside0 (kq ≤ kj4) ∧ Aside0 (Kd.N (Kd.slice 3 (Kd.int .i64)) 22 w' w.heap.size (fun k_ => (w.heap.size ≤ k_)) v9 x9_2) ∧ Aside0 (Below w.heap.size w w'))
    case atStart => exact ⟨(x9_4), (a2), (ry_), H', ⟨Nat.le_refl _⟩, ⟨Kd.pN HO_9.out⟩, ⟨bb_ HB.out⟩⟩
    case round =>
     clear H'
     try clear c1
     try clear p2
     try clear c6
     try clear c6b0
     try clear c6b1
     try clear c8
     try clear c15
     try clear c15b0
     try clear c15b1
     try clear p2
     obtain ⟨x9_2, x10_2, rfl, HA, HK2, HO_9, HB⟩ := hrel
     cases gk with
     | zero => exact absurd HA.out (by simp [spec_paGroups.l0])
     | succ k2 =>
      have H := HA.out
      clear HA
      simp only [spec_paGroups.l0] at H
      by_cases c16 : x10_2 < (l0.length : Int)
      ·
       rw [if_pos c16] at H
       have c16b0 : decide (x10_2 < (l0.length : Int)) = true := decide_eq_true c16
       clear c16
       replace H := Option.bind_eq_some_iff.mp H
       obtain ⟨t131, A170, H⟩ := H
       replace H : (if 0 ≤ x10_2 then ((some (([rd l0 x10_2] : List Int) : List Int)).bind fun y135 => (if t131.length + y135.length < 17592186044416 then ((spec_paGroups.f k2 l0 (t131 ++ y135) (wrap64 (x10_2 + 1)) a3).bind fun t141 => (if x9_2.length + t141.length < 5864062014805 then (spec_paGroups.l0 k2 l0 l1 a3 (x9_2 ++ t141) (wrap64 (x10_2 + 1))) else (none))) else (none))) else (none)) = some r := H
       have A17 := ak_ A170
       clear A170
       by_cases c18 : 0 ≤ x10_2
       ·
        rw [if_pos c18] at H
        have c18b0 : decide (0 ≤ x10_2) = true := decide_eq_true c18
        clear c18
        obtain ⟨y135, hy135⟩ : ∃ y_ : List Int, y_ = (([rd l0 x10_2] : List Int)) := ⟨_, rfl⟩
        replace H : (if t131.length + y135.length < 17592186044416 then ((spec_paGroups.f k2 l0 (t131 ++ y135) (wrap64 (x10_2 + 1)) a3).bind fun t141 => (if x9_2.length + t141.length < 5864062014805 then (spec_paGroups.l0 k2 l0 l1 a3 (x9_2 ++ t141) (wrap64 (x10_2 + 1))) else (none))) else (none)) = some r := by first | (rw [hy135]; exact H) | exact H
        have Ny135 := ak_ hy135
        clear hy135
        by_cases c19 : t131.length + y135.length < 17592186044416
        ·
         rw [if_pos c19] at H
         have LMc19 := ak_ c19
         clear c19
         obtain ⟨y138, hy138⟩ : ∃ y_ : List Int, y_ = (t131 ++ y135) := ⟨_, rfl⟩
         replace H : ((spec_paGroups.f k2 l0 y138 (wrap64 (x10_2 + 1)) a3).bind fun t141 => (if x9_2.length + t141.length < 5864062014805 then (spec_paGroups.l0 k2 l0 l1 a3 (x9_2 ++ t141) (wrap64 (x10_2 + 1))) else (none))) = some r := by first | (rw [hy138]; exact H) | exact H
         have Ny138 := ak_ hy138
         clear hy138
         replace H := Option.bind_eq_some_iff.mp H
         obtain ⟨t141, A200, H⟩ := H
         replace H : (if x9_2.length + t141.length < 5864062014805 then (spec_paGroups.l0 k2 l0 l1 a3 (x9_2 ++ t141) (wrap64 (x10_2 + 1))) else (none)) = some r := H
         have A20 := ak_ A200
         clear A200
         by_cases c21 : x9_2.length + t141.length < 5864062014805
         ·
          rw [if_pos c21] at H
          have LMc21 := ak_ c21
          clear c21
          obtain ⟨y144, hy144⟩ : ∃ y_ : List (List Int), y_ = (x9_2 ++ t141) := ⟨_, rfl⟩
          replace H : (spec_paGroups.l0 k2 l0 l1 a3 y144 (wrap64 (x10_2 + 1))) = some r := by first | (rw [hy144]; exact H) | exact H
          have Ny144 := ak_ hy144
          clear hy144
          have H' := ak_ H
          clear H
          obtain ⟨Ao22, co22, eo22⟩ := Kd.N_slice HO_9.out
          subst eo22
          try go_wp2
          have n0_ := ak_ (Kd.N_drew HO_9.out)
          have n1_ := ak_ (b1_ HB.out)
          clear HO_9 HB
          have HO_9 := n0_; have HB := n1_
          clear n0_ n1_
          have p134 : 0 ≤ (x10_2 : Int) := odt_ (by assumption)
          have q134 : x10_2 < (l0.length : Int) := odt_ (by assumption)
          obtain ⟨ad134, e134, hx134_0⟩ := Kd.at_int HR0.out x10_2 p134 q134
          have hw134_0 := hx134_0
          cases e134
          try replace hx134_0 := (HB.out.cell (World.block_lt_of_cell? w _ hx134_0)).trans hx134_0
          replace p134 := eq_true p134
          replace q134 := eq_true q134
          refine start_ (n := 16) (S := fun w' => w'.cell? (ad134.add (x10_2).toNat) = some (.int .i64 (rd l0 x10_2))) (ds := []) (mb_ 16 0) (by kernel_rfl) rfl rfl (((HB.out.cell (World.block_lt_of_cell? w _ hw134_0)).trans hw134_0)) (fun hHeld => ?_); refine with_tabW spec_paGroups.tab9 spec_paGroups.bits9 (fun HT_ HW_ => ?_)
          generalize wr.drew = w23 at HO_9 HB hx134_0 hHeld ⊢
          refine pu_ 0 31 16 1 ?_
          refine pu_ 1 32 16 3 ?_
          refine pu_ 2 33 16 7 ?_
          refine pu_ 4 35 16 23 ?_
          refine pu_ 5 36 16 55 ?_
          refine pu_ 6 37 16 119 ?_
          refine pu_ 10 41 16 1143 ?_
          refine pu_ 11 42 16 3191 ?_
          refine pu_ 12 43 16 7287 ?_
          refine take_ (i := 7) (N := some 38) (v := ?_) (a' := ?_) (mb_ 16 7415) rfl rfl (take_ofW HT_.out HW_.out (by kernel_rfl)) (fun _ _ _ h => h) (Or.inl ⟨by rfl, ?_⟩) hHeld ?_ ?_
          rotate_left
          ·
           intro w' s0
           go_simp
           with_reducible rfl
          rotate_left
          ·
           simp only [Act.put, setIfInBounds_toArray, set_cons_zero, set_cons_succ, i64_w, i32_w]
           rfl
          refine join_ (σ := Value × Value) 4 (mb_ 16 7679) (fun s_ => [(34, s_.1), (39, s_.2)]) (fun s_ w' => (w'.cell? (ad134.add (x10_2).toNat) = some (.int .i64 (rd l0 x10_2))) ∧ (Kd.R (Kd.int .i64) 3 w' w.heap.size (fun k_ => (w.heap.size ≤ k_) ∧ some k_ ≠ (s_.2 : Value).ownBlock) s_.1 t131) ∧ (Kd.R (Kd.int .i64) 3 w' w.heap.size (fun k_ => (w.heap.size ≤ k_) ∧ some k_ ≠ (s_.1 : Value).ownBlock) s_.2 y135) ∧ (Kd.N (Kd.slice 3 (Kd.int .i64)) 22 w' w.heap.size (fun k_ => (w.heap.size ≤ k_) ∧ some k_ ≠ (s_.1 : Value).ownBlock ∧ some k_ ≠ (s_.2 : Value).ownBlock) (.slice Ao22 x9_2.length co22) x9_2) ∧ (Below w.heap.size w w')) ?_ ?_
          rotate_left
          ·
           intro hCont
           refine two_ (i := 3) (j := 8) (Ni := some 34) (Nj := some 39) (mb_ 16 7423) (mb_ 16 7671) rfl rfl rfl rfl (two_of HT_.out (by kernel_rfl)) (by decide) (by decide) (fun K hK => ?_) (fun K hK => ?_)
           ·
            skip
            refine goes_ Try.func66 (by kernel_rfl) rfl #[.slice A1 l1.length c1] (by rfl) rfl rfl (by first | rfl | (simp only [map_toArray, map_cons, map_nil]; try rfl)) ?_
            with_reducible refine (spec_l1Own.calls _ _ l1 t131 _ ?side1 ?side2 A17.out).mono ?_
            (case side1 => repeat (first | exact (Kd.C_below HR1.out HB.out) | (with_reducible refine Kd.C_alloc ?_ _) | (with_reducible refine Kd.C_drewN ?_ _) | (with_reducible refine Kd.C_drew ?_)))
            (case side2 => exact HC1.out)
            rintro e w24 ⟨v132, rfl, ho0, hb⟩
            refine ⟨_, rfl, ?_⟩
            have n0_ := ak_ (Kd.N_elder' (Kd.pN HO_9.out) (Kd.R_base ho0) hb)
            have n1_ := ak_ (Kd.R_lower (Kd.R_newM (M := fun k_ => (w.heap.size ≤ k_)) ho0 (bz_ (bb_ HB.out)) (fun k_ h_ => h_)) (bz_ (bb_ HB.out)))
            have n2_ := ak_ (bs_ (bb_ HB.out) hb)
            clear HO_9 HB
            have HO_9 := n0_; have HO133 := n1_; have HB := n2_
            clear n0_ n1_ n2_
            (try clear hb)
            (try clear hb2)
            (try clear hk)
            (try clear hi)
            (try clear ho0)
            refine hK.out _ _ (((HB.out.cell (World.block_lt_of_cell? w _ hw134_0)).trans hw134_0)) (fun hHeld => ?_)
            clear hK K
            refine nm_ ?_
            refine on_ 8 39 16 7679 (fun K hK => ?_)
            refine Kd.R_lit_step (Kd.int .i64) _ 3 ?hg (N := 39) ?hd (xs := ([rd l0 x10_2] : List Int)) (inner := [.int .i64 (rd l0 x10_2)]) (ok := fun _ => True) (okp := fun _ => True) ?hr ?hp (fun _ hk => hk) trivial (Below.refl _ _) (Nat.le_refl _) (by simp) ?_; (case hd => rfl); (case hg => rfl); (case hr => go_simp <;> rfl); (case hp => exact (Reps.one (show Kd.M (Kd.int .i64) _ _ _ (rd l0 x10_2) [.int .i64 (rd l0 x10_2)] from rfl) (Reps.none _ _)))
            intro v136 w25 ho26 hb hg_ hnew_
            clear hg_ hnew_
            (first | rw [← Ny135.out] at ho26 | (simp only [Int.reduceToNat] at ho26; rw [← Ny135.out] at ho26))
            have n0_ := ak_ (Kd.N_elder' (Kd.pN HO_9.out) (Kd.R_base ho26) hb)
            have n1_ := ak_ (Kd.R_elder' (Kd.pR HO133.out) (Kd.R_base ho26) hb)
            have n2_ := ak_ (Kd.R_lower (Kd.R_new' (Kd.R_newM (M := fun k_ => (w.heap.size ≤ k_)) ho26 (bz_ (bb_ HB.out)) (fun k_ h_ => h_)) (Kd.R_lt (Kd.pR HO133.out))) (bz_ (bb_ HB.out)))
            have n3_ := ak_ (bs_ (bb_ HB.out) hb)
            clear HO_9 HO133 HB
            have HO_9 := n0_; have HO133 := n1_; have HO137 := n2_; have HB := n3_
            clear n0_ n1_ n2_ n3_ hb ho26
            refine hK.out _ _ (((HB.out.cell (World.block_lt_of_cell? w _ hw134_0)).trans hw134_0)) (fun hHeld => ?_)
            clear hK K
            refine nm_ ?_
            exact norm_ (by simp only [putAll, Act.put, setIfInBounds_toArray, set_cons_zero, set_cons_succ]) (hCont (v132, v136) _ ⟨hHeld, (by (with_reducible repeat (first | apply Kd.R_alloc | apply Kd.R_drewN | apply Kd.R_drew)); exact Kd.R_mono HO133.out (fun _ hk => ⟨hk.1.1, hk.2⟩)), (by (with_reducible repeat (first | apply Kd.R_alloc | apply Kd.R_drewN | apply Kd.R_drew)); exact Kd.R_mono HO137.out (fun _ hk => ⟨hk.1.1, hk.2⟩)), (by (with_reducible repeat (first | apply Kd.N_alloc | apply Kd.N_drewN | apply Kd.N_drew)); exact Kd.N_mono HO_9.out (fun _ hk => ⟨hk.1.1, ⟨hk.1.2, hk.2⟩⟩)), (bb_ HB.out)⟩)
           ·
            skip
            refine Kd.R_lit_step (Kd.int .i64) _ 3 ?hg (N := 39) ?hd (xs := ([rd l0 x10_2] : List Int)) (inner := [.int .i64 (rd l0 x10_2)]) (ok := fun _ => True) (okp := fun _ => True) ?hr ?hp (fun _ hk => hk) trivial (Below.refl _ _) (Nat.le_refl _) (by simp) ?_; (case hd => rfl); (case hg => rfl); (case hr => go_simp <;> rfl); (case hp => exact (Reps.one (show Kd.M (Kd.int .i64) _ _ _ (rd l0 x10_2) [.int .i64 (rd l0 x10_2)] from rfl) (Reps.none _ _)))
            intro v136 w24 ho25 hb hg_ hnew_
            clear hg_ hnew_
            (first | rw [← Ny135.out] at ho25 | (simp only [Int.reduceToNat] at ho25; rw [← Ny135.out] at ho25))
            have n0_ := ak_ (Kd.N_elder' (Kd.pN HO_9.out) (Kd.R_base ho25) hb)
            have n1_ := ak_ (Kd.R_lower (Kd.R_newM (M := fun k_ => (w.heap.size ≤ k_)) ho25 (bz_ (bb_ HB.out)) (fun k_ h_ => h_)) (bz_ (bb_ HB.out)))
            have n2_ := ak_ (bs_ (bb_ HB.out) hb)
            clear HO_9 HB
            have HO_9 := n0_; have HO137 := n1_; have HB := n2_
            clear n0_ n1_ n2_ hb ho25
            refine hK.out _ _ (((HB.out.cell (World.block_lt_of_cell? w _ hw134_0)).trans hw134_0)) (fun hHeld => ?_)
            clear hK K
            refine nm_ ?_
            refine on_ 3 34 16 7679 (fun K hK => ?_)
            refine goes_ Try.func66 (by kernel_rfl) rfl #[.slice A1 l1.length c1] (by rfl) rfl rfl (by first | rfl | (simp only [map_toArray, map_cons, map_nil]; try rfl)) ?_
            with_reducible refine (spec_l1Own.calls _ _ l1 t131 _ ?side1 ?side2 A17.out).mono ?_
            (case side1 => repeat (first | exact (Kd.C_below HR1.out HB.out) | (with_reducible refine Kd.C_alloc ?_ _) | (with_reducible refine Kd.C_drewN ?_ _) | (with_reducible refine Kd.C_drew ?_)))
            (case side2 => exact HC1.out)
            rintro e w26 ⟨v132, rfl, ho0, hb⟩
            refine ⟨_, rfl, ?_⟩
            have n0_ := ak_ (Kd.N_elder' (Kd.pN HO_9.out) (Kd.R_base ho0) hb)
            have n1_ := ak_ (Kd.R_elder' (Kd.pR HO137.out) (Kd.R_base ho0) hb)
            have n2_ := ak_ (Kd.R_lower (Kd.R_new' (Kd.R_newM (M := fun k_ => (w.heap.size ≤ k_)) ho0 (bz_ (bb_ HB.out)) (fun k_ h_ => h_)) (Kd.R_lt (Kd.pR HO137.out))) (bz_ (bb_ HB.out)))
            have n3_ := ak_ (bs_ (bb_ HB.out) hb)
            clear HO_9 HO137 HB
            have HO_9 := n0_; have HO137 := n1_; have HO133 := n2_; have HB := n3_
            clear n0_ n1_ n2_ n3_
            (try clear hb)
            (try clear hb2)
            (try clear hk)
            (try clear hi)
            (try clear ho0)
            refine hK.out _ _ (((HB.out.cell (World.block_lt_of_cell? w _ hw134_0)).trans hw134_0)) (fun hHeld => ?_)
            clear hK K
            refine nm_ ?_
            exact norm_ (by simp only [putAll, Act.put, setIfInBounds_toArray, set_cons_zero, set_cons_succ]) (hCont (v132, v136) _ ⟨hHeld, (by (with_reducible repeat (first | apply Kd.R_alloc | apply Kd.R_drewN | apply Kd.R_drew)); exact Kd.R_mono HO133.out (fun _ hk => ⟨hk.1.1, hk.2⟩)), (by (with_reducible repeat (first | apply Kd.R_alloc | apply Kd.R_drewN | apply Kd.R_drew)); exact Kd.R_mono HO137.out (fun _ hk => ⟨hk.1.1, hk.2⟩)), (by (with_reducible repeat (first | apply Kd.N_alloc | apply Kd.N_drewN | apply Kd.N_drew)); exact Kd.N_mono HO_9.out (fun _ hk => ⟨hk.1.1, ⟨hk.2, hk.1.2⟩⟩)), (bb_ HB.out)⟩)
          rintro ⟨v132, v136⟩ w27 ⟨hS_, h0_, h1_, h2_, h3_⟩
          have n0_ : Aside0 (Kd.R (Kd.int .i64) 3 w27 w.heap.size (fun k_ => (w.heap.size ≤ k_) ∧ some k_ ≠ (v136 : Value).ownBlock) v132 t131) := ⟨h0_⟩
          have n1_ : Aside0 (Kd.R (Kd.int .i64) 3 w27 w.heap.size (fun k_ => (w.heap.size ≤ k_) ∧ some k_ ≠ (v132 : Value).ownBlock) v136 y135) := ⟨h1_⟩
          have n2_ : Aside0 (Kd.N (Kd.slice 3 (Kd.int .i64)) 22 w27 w.heap.size (fun k_ => (w.heap.size ≤ k_) ∧ some k_ ≠ (v132 : Value).ownBlock ∧ some k_ ≠ (v136 : Value).ownBlock) (.slice Ao22 x9_2.length co22) x9_2) := ⟨h2_⟩
          have n3_ : Aside0 (Below w.heap.size w w27) := ⟨h3_⟩
          clear HO_9 HB h0_ h1_ h2_ h3_
          have HO133 := n0_; have HO137 := n1_; have HO_9 := n2_; have HB := n3_
          clear n0_ n1_ n2_ n3_
          have hHeld : w27.cell? (ad134.add (x10_2).toNat) = some (.int .i64 (rd l0 x10_2)) := hS_
          obtain ⟨Ao29, co29, eo29⟩ := Kd.R_slice HO137.out
          (first | subst eo29 | (injection eo29 with f1_ f2_ f3_; have f4_ := f1_.symm; have f5_ := f3_.symm; clear f1_ f2_ f3_; subst f4_; subst f5_))
          refine norm_ (a' := ?_) ?_ ?_
          rotate_left
          ·
           simp only [putAll, Act.put, setIfInBounds_toArray, set_cons_zero, set_cons_succ]
           rfl
          refine on_ 9 40 16 8191 (fun K hK => ?_)
          refine Kd.R_append_rows_step (Kd.int .i64) (w0 := w) w.heap.size (by rfl) (.tmp 34) (.tmp 39) 22 3 (.int .i64 0) 8 rfl Try.underlying22 info3 rfl (by decide) (by omega) v132 t131 y135 _ _ _ (fun k_ => (w.heap.size ≤ k_) ∧ some k_ ≠ (.slice Ao29 y135.length co29 : Value).ownBlock) (fun _ => False) rfl rfl ?aO ?aR (fun _ _ h => h) (fun _ h => h.elim) ?aF ?aB ?aS ?aL ?_
          (case aR => repeat (first | exact (Kd.R_reads' HO137.out).2.2 | (with_reducible refine Kd.C_alloc ?_ _) | (with_reducible refine Kd.C_drewN ?_ _) | (with_reducible refine Kd.C_drew ?_)))
          (case aB => exact (bb_ HB.out))
          (case aF => exact (fun k_ hk => ⟨(Nat.le_trans (bz_ (bb_ HB.out)) hk), Kd.fresh' (Kd.R_lt (Kd.pR HO137.out)) k_ hk⟩))
          (case aO => exact (Kd.pR HO133.out))
          (case aS => exact (bz_ (bb_ HB.out)))
          (case aL => have := LMc19.out; omega)
          intro v139 w28 ho hb hg hat
          rw [← Ny138.out] at ho
          have n0_ := ak_ (Kd.N_afterv (ok := (fun k_ => (w.heap.size ≤ k_) ∧ some k_ ≠ (.slice Ao29 y135.length co29 : Value).ownBlock)) (by (with_reducible repeat (first | apply Kd.N_alloc | apply Kd.N_drewN | apply Kd.N_drew)); exact Kd.N_mono HO_9.out (fun _ hk => ⟨⟨hk.1, hk.2.2⟩, hk.2.1⟩)) hg hat)
          have n1_ := ak_ (Kd.R_after (ok := (fun k_ => (w.heap.size ≤ k_))) (Kd.pR HO137.out) hg hat)
          have n2_ := ak_ (hb)
          have n3_ := ak_ (ho)
          clear HO_9 HO137 HB HO133
          have HO_9 := n0_; have HO137 := n1_; have HB := n2_; have HO140 := n3_
          clear n0_ n1_ n2_ n3_ ho hb hg hat
          obtain ⟨Ao30, co30, eo30⟩ := Kd.R_slice HO140.out
          (first | subst eo30 | (injection eo30 with f1_ f2_ f3_; have f4_ := f1_.symm; have f5_ := f3_.symm; clear f1_ f2_ f3_; subst f4_; subst f5_))
          refine hK.out _ _ (((HB.out.cell (World.block_lt_of_cell? w _ hw134_0)).trans hw134_0)) (fun hHeld => ?_)
          clear hK K
          refine nm_ ?_
          refine on_ 13 44 16 16383 (fun K hK => ?_)
          refine goes_ Try.func65 (by kernel_rfl) rfl #[.slice (some ad134) l0.length c0, .slice Ao30 y138.length co30, .int .i64 (wrap64 (x10_2 + 1)), .int .i64 a3] (by rfl) rfl rfl (by first | rfl | (simp only [map_toArray, map_cons, map_nil]; try rfl)) ?_
          with_reducible refine (ih k2 (by have := HJ4.out; have := HK2.out; omega) _ _ l0 _ _ y138 (wrap64 (x10_2 + 1)) a3 t141 _ ?side1 ?side2 ?side3 ?side4 A20.out).mono ?_
          (case side1 => repeat (first | exact (Kd.C_below HR0.out HB.out) | (with_reducible refine Kd.C_alloc ?_ _) | (with_reducible refine Kd.C_drewN ?_ _) | (with_reducible refine Kd.C_drew ?_)))
          (case side2 => exact HC0.out)
          (case side3 => repeat (first | exact (Kd.R_reads' HO140.out).2.2 | (with_reducible refine Kd.C_alloc ?_ _) | (with_reducible refine Kd.C_drewN ?_ _) | (with_reducible refine Kd.C_drew ?_)))
          (case side4 => exact (Kd.R_reads' HO140.out).2.1)
          rintro e w31 ⟨v142, rfl, ho0, hb⟩
          refine ⟨_, rfl, ?_⟩
          have n0_ := ak_ (Kd.N_elder' (Kd.pN HO_9.out) (Kd.N_base ho0) hb)
          have n1_ := ak_ (Kd.R_below (Kd.pR HO137.out) hb)
          have n2_ := ak_ (Kd.R_below (Kd.pR HO140.out) hb)
          have n3_ := ak_ (Kd.N_lower (Kd.N_mono (ok' := fun k_ => (w.heap.size ≤ k_) ∧ some k_ ≠ (.slice Ao22 x9_2.length co22 : Value).ownBlock ∧ some k_ ≠ (.slice Ao29 y135.length co29 : Value).ownBlock ∧ some k_ ≠ (.slice Ao30 y138.length co30 : Value).ownBlock) ho0 (fun k_ hk_ => ⟨(Nat.le_trans (bz_ (bb_ HB.out)) hk_), (Kd.fresh' (Kd.N_lt (Kd.pN HO_9.out)) k_ hk_), (Kd.fresh' (Kd.R_lt (Kd.pR HO137.out)) k_ hk_), (Kd.fresh' (Kd.R_lt (Kd.pR HO140.out)) k_ hk_)⟩)) (bz_ (bb_ HB.out)))
          have n4_ := ak_ (bs_ (bb_ HB.out) hb)
          clear HO_9 HO137 HO140 HB
          have HO_9 := n0_; have HO137 := n1_; have HO140 := n2_; have HO143 := n3_; have HB := n4_
          clear n0_ n1_ n2_ n3_ n4_
          (try clear hb)
          (try clear hb2)
          (try clear hk)
          (try clear hi)
          (try clear ho0)
          obtain ⟨Ao33, co33, eo33⟩ := Kd.N_slice HO143.out
          (first | subst eo33 | (injection eo33 with f1_ f2_ f3_; have f4_ := f1_.symm; have f5_ := f3_.symm; clear f1_ f2_ f3_; subst f4_; subst f5_))
          refine hK.out _ _ (((HB.out.cell (World.block_lt_of_cell? w _ hw134_0)).trans hw134_0)) (fun hHeld => ?_)
          clear hK K
          refine nm_ ?_
          refine on_ 14 45 16 32767 (fun K hK => ?_)
          refine Kd.N_append_rows_step (Kd.slice 3 (Kd.int .i64)) (w0 := w) w.heap.size (by rfl) (.tmp 31) (.tmp 44) 57 22 (.slice none 0 0) 24 rfl Try.underlying57 info22 rfl (by decide) (by omega) (.slice Ao22 x9_2.length co22) x9_2 t141 _ _ _ (fun k_ => (w.heap.size ≤ k_) ∧ some k_ ≠ (.slice Ao29 y135.length co29 : Value).ownBlock ∧ some k_ ≠ (.slice Ao30 y138.length co30 : Value).ownBlock) (fun k_ => ((fun k_ => (w.heap.size ≤ k_) ∧ some k_ ≠ (.slice Ao29 y135.length co29 : Value).ownBlock ∧ some k_ ≠ (.slice Ao30 y138.length co30 : Value).ownBlock)) k_ ∧ some k_ ≠ (.slice Ao22 x9_2.length co22 : Value).ownBlock) rfl rfl ?aO ?aR (fun _ hk => hk) ?aF ?aB ?aS ?aL ?_
          (case aR => exact (by skip; exact Kd.N_F (Kd.N_mono (ok' := (fun k_ => ((fun k_ => (w.heap.size ≤ k_) ∧ some k_ ≠ (.slice Ao29 y135.length co29 : Value).ownBlock ∧ some k_ ≠ (.slice Ao30 y138.length co30 : Value).ownBlock)) k_ ∧ some k_ ≠ (.slice Ao22 x9_2.length co22 : Value).ownBlock)) (HO143.out) (fun k_ hk => ⟨⟨hk.1, ⟨hk.2.2.1, hk.2.2.2⟩⟩, hk.2.1⟩))))
          (case aB => exact (bb_ HB.out))
          (case aF => exact (fun k_ hk => ⟨(Nat.le_trans (bz_ (bb_ HB.out)) hk), Kd.fresh' (Kd.R_lt (Kd.pR HO137.out)) k_ hk, Kd.fresh' (Kd.R_lt (Kd.pR HO140.out)) k_ hk⟩))
          (case aO => exact (by (with_reducible repeat (first | apply Kd.N_alloc | apply Kd.N_drewN | apply Kd.N_drew)); exact Kd.N_mono HO_9.out (fun _ hk => ⟨hk.1.1.1, ⟨hk.1.1.2, hk.1.2⟩⟩)))
          (case aS => exact (bz_ (bb_ HB.out)))
          (case aL => have := LMc21.out; omega)
          intro v145 w32 ho hb hg hat
          rw [← Ny144.out] at ho
          have n0_ := ak_ (Kd.R_over' (Kd.pR HO137.out) (Kd.N_typed (Kd.pN HO_9.out)) (by decide) hg)
          have n1_ := ak_ (Kd.R_over' (Kd.pR HO140.out) (Kd.N_typed (Kd.pN HO_9.out)) (by decide) hg)
          have n2_ := ak_ (Kd.N_afterv (ok := (fun k_ => (w.heap.size ≤ k_) ∧ some k_ ≠ (.slice Ao29 y135.length co29 : Value).ownBlock ∧ some k_ ≠ (.slice Ao30 y138.length co30 : Value).ownBlock)) (by (with_reducible repeat (first | apply Kd.N_alloc | apply Kd.N_drewN | apply Kd.N_drew)); exact Kd.N_mono HO143.out (fun _ hk => ⟨⟨hk.1, ⟨hk.2.2.1, hk.2.2.2⟩⟩, hk.2.1⟩)) hg hat)
          have n3_ := ak_ (hb)
          have n4_ := ak_ (ho)
          clear HO137 HO140 HO143 HB HO_9
          have HO137 := n0_; have HO140 := n1_; have HO143 := n2_; have HB := n3_; have HO146 := n4_
          clear n0_ n1_ n2_ n3_ n4_ ho hb hg hat
          refine hK.out _ _ (((HB.out.cell (World.block_lt_of_cell? w _ hw134_0)).trans hw134_0)) (fun hHeld => ?_)
          clear hK K
          refine nm_ ?_
          refine pu_ 15 9 16 65535 ?_
          refine done_ (done_of HT_.out (by kernel_rfl)) ?_
          try go_wp2
          go_roundg k2
          case measure => have := HJ4.out; have := HK2.out; omega
          case rel => exact ⟨(y144), (wrap64 (x10_2 + 1)), (ry_), H', ⟨by have := HJ4.out; have := HK2.out; omega⟩, ⟨by (with_reducible repeat (first | apply Kd.N_alloc | apply Kd.N_drewN | apply Kd.N_drew)); exact Kd.N_mono HO146.out (fun _ hk => hk.1)⟩, ⟨bb_ HB.out⟩⟩
         ·
          rw [if_neg c21] at H
          exact absurd H (by simp)
        ·
         rw [if_neg c19] at H
         exact absurd H (by simp)
       ·
        rw [if_neg c18] at H
        exact absurd H (by simp)
      ·
       rw [if_neg c16] at H
       have c16b0 : decide (x10_2 < (l0.length : Int)) = false := decide_eq_false c16
       clear c16
       obtain rfl := Option.some.inj H
       go_wp2
       go_ret
       exact ⟨_, rx_, by (with_reducible repeat (first | apply Kd.N_alloc | apply Kd.N_drewN | apply Kd.N_drew)); exact HO_9.out, bb_ HB.out⟩
def spec_l1Rising.l0 : Nat → List Int → Int → Int → List Int → Int → Int → Option (Bool)
 | 0, _, _, _, _, _, _ => none
 | k + 1, x0, x1, x2, x9, x10, x11 => if x11 < x10 then (if 0 ≤ x11 then (if x11 < (x9.length : Int) then ((spec_l1In.f (rd x9 x11) x1 x2).bind fun t148 => (if t148 = true then (if x11 > 0 then (if 0 ≤ (wrap64 (x11 - 1)) then (if (wrap64 (x11 - 1)) < (x0.length : Int) then (if (rd x0 (wrap64 (x11 - 1))) ≥ (rd x9 x11) then (some false) else (spec_l1Rising.l0 k x0 x1 x2 x9 x10 (wrap64 (x11 + 1)))) else (none)) else (none)) else (spec_l1Rising.l0 k x0 x1 x2 x9 x10 (wrap64 (x11 + 1)))) else (some false))) else (none)) else (none)) else (some true)
def spec_l1Rising.f (k : Nat) (l0 : List Int) (a1 : Int) (a2 : Int) : Option (Bool) := spec_l1Rising.l0 k l0 a1 a2 l0 (l0.length : Int) 0
theorem spec_l1Rising.mono_l : ∀ k, (∀ y0 y1 y2 y3 y4 y5, LeO (spec_l1Rising.l0 k y0 y1 y2 y3 y4 y5) (spec_l1Rising.l0 (k + 1) y0 y1 y2 y3 y4 y5))
 | 0 => fun _ _ _ _ _ _ r h => by simp [spec_l1Rising.l0] at h
 | k + 1 => by
  have ih0 := spec_l1Rising.mono_l k
  ·intro y0 y1 y2 y3 y4 y5
   unfold spec_l1Rising.l0
   repeat' first
   | (with_reducible first | exact ih0 _ _ _ _ _ _ | exact LeO.refl _ | exact LeO.none _ | refine LeO.ite ?_ ?_ | refine LeO.bind ?_ (fun _ => ?_))
   | exact ih0 _ _ _ _ _ _
   | exact LeO.none _
   | refine LeO.ite ?_ ?_
   | refine LeO.bind ?_ (fun _ => ?_)
theorem spec_l1Rising.mono : ∀ a0 a1 a2 k, LeO (spec_l1Rising.f k a0 a1 a2) (spec_l1Rising.f (k + 1) a0 a1 a2) := by
 intro a0 a1 a2 k
 have ih0 := spec_l1Rising.mono_l k
 unfold spec_l1Rising.f
 repeat' first
  | (with_reducible first | exact ih0 _ _ _ _ _ _ | exact LeO.refl _ | exact LeO.none _ | refine LeO.ite ?_ ?_ | refine LeO.bind ?_ (fun _ => ?_))
  | exact ih0 _ _ _ _ _ _
  | exact LeO.none _
  | refine LeO.ite ?_ ?_
  | refine LeO.bind ?_ (fun _ => ?_)
theorem spec_l1Rising.calls (k : Nat) (A0 : Option Addr) (c0 : Nat) (l0 : List Int) (a1 : Int) (a2 : Int) (r : Bool) (w : World) (hr0 : Kd.C (Kd.int .i64) w A0 l0.length l0) (hc0 : l0.length ≤ c0) (h : spec_l1Rising.f k l0 a1 a2 = some r) :
  Calls Try.prog 102 #[.slice A0 l0.length c0, .int .i64 a1, .int .i64 a2] w fun e w' => e = .returned (.bool r) ∧ Drawn0 w w' := by
 have HR0 := ak_ hr0
 have HC0 := ak_ hc0
 clear hr0 hc0
 have H : (spec_l1Rising.l0 k l0 a1 a2 l0 (l0.length : Int) 0) = some r := h
 clear h
 have H' := ak_ H
 clear H
 go_enter Try.func102, Try.ntmps102
 go_wp2
 go_loopg [11] k (fun kq v11 w' => ∃ (x11_1 : Int), v11 = .int .i64 x11_1 ∧ Aside0 (spec_l1Rising.l0 kq l0 a1 a2 l0 (l0.length : Int) x11_1 = some r) ∧ Aside0 (kq ≤ k) ∧ Drawn0 w w')
 case atStart => exact ⟨(0), (ry_), H', ⟨Nat.le_refl _⟩, by repeat (first | exact Drawn0.refl _ | apply Drawn0.step)⟩
 case round =>
  clear H'
  try clear c1
  try clear p2
  obtain ⟨x11_1, rfl, HA, HK1, ⟨m1, rfl⟩⟩ := hrel
  cases gk with
  | zero => exact absurd HA.out (by simp [spec_l1Rising.l0])
  | succ k1 =>
   have H := HA.out
   clear HA
   simp only [spec_l1Rising.l0] at H
   by_cases c4 : x11_1 < (l0.length : Int)
   ·
    rw [if_pos c4] at H
    have c4b0 : decide (x11_1 < (l0.length : Int)) = true := decide_eq_true c4
    clear c4
    by_cases c5 : 0 ≤ x11_1
    ·
     rw [if_pos c5] at H
     have c5b0 : decide (0 ≤ x11_1) = true := decide_eq_true c5
     clear c5
     by_cases c6 : x11_1 < (l0.length : Int)
     ·
      rw [if_pos c6] at H
      have c6b0 : decide (x11_1 < (l0.length : Int)) = true := decide_eq_true c6
      clear c6
      replace H := Option.bind_eq_some_iff.mp H
      obtain ⟨t148, A70, H⟩ := H
      replace H : (if t148 = true then (if x11_1 > 0 then (if 0 ≤ (wrap64 (x11_1 - 1)) then (if (wrap64 (x11_1 - 1)) < (l0.length : Int) then (if (rd l0 (wrap64 (x11_1 - 1))) ≥ (rd l0 x11_1) then (some false) else (spec_l1Rising.l0 k1 l0 a1 a2 l0 (l0.length : Int) (wrap64 (x11_1 + 1)))) else (none)) else (none)) else (spec_l1Rising.l0 k1 l0 a1 a2 l0 (l0.length : Int) (wrap64 (x11_1 + 1)))) else (some false)) = some r := H
      have A7 := ak_ A70
      clear A70
      by_cases c8 : t148 = true
      ·
       subst c8
       have H1 : (if x11_1 > 0 then (if 0 ≤ (wrap64 (x11_1 - 1)) then (if (wrap64 (x11_1 - 1)) < (l0.length : Int) then (if (rd l0 (wrap64 (x11_1 - 1))) ≥ (rd l0 x11_1) then (some false) else (spec_l1Rising.l0 k1 l0 a1 a2 l0 (l0.length : Int) (wrap64 (x11_1 + 1)))) else (none)) else (none)) else (spec_l1Rising.l0 k1 l0 a1 a2 l0 (l0.length : Int) (wrap64 (x11_1 + 1)))) = some r := by rw [if_pos rfl] at H; exact H
       clear H
       have H := H1
       clear H1
       by_cases c9 : x11_1 > 0
       ·
        rw [if_pos c9] at H
        have c9b0 : decide (0 < x11_1) = true := decide_eq_true c9
        clear c9
        obtain ⟨ji10, hji10⟩ : ∃ j_ : Int, (wrap64 (x11_1 - 1)) = j_ := ⟨_, rfl⟩
        replace H : (if 0 ≤ (ji10) then (if (ji10) < (l0.length : Int) then (if (rd l0 (ji10)) ≥ (rd l0 x11_1) then (some false) else (spec_l1Rising.l0 k1 l0 a1 a2 l0 (l0.length : Int) (wrap64 (x11_1 + 1)))) else (none)) else (none)) = some r := by first | (rw [hji10] at H; exact H) | (simp only [hji10] at H ⊢; exact H)
        (try rw [hji10] at A7)
        have hji10w : (IntKind.i64.wrap (x11_1 - 1)) = ji10 := (i64_w _).trans hji10
        by_cases c11 : 0 ≤ (ji10)
        ·
         rw [if_pos c11] at H
         have c11b0 : decide (0 ≤ (ji10)) = true := decide_eq_true c11
         clear c11
         by_cases c12 : (ji10) < (l0.length : Int)
         ·
          rw [if_pos c12] at H
          have c12b0 : decide ((ji10) < (l0.length : Int)) = true := decide_eq_true c12
          clear c12
          by_cases c13 : (rd l0 (ji10)) ≥ (rd l0 x11_1)
          ·
           rw [if_pos c13] at H
           have c13b0 : decide ((rd l0 x11_1) ≤ (rd l0 (ji10))) = true := decide_eq_true c13
           clear c13
           obtain rfl := Option.some.inj H
           have p147 : 0 ≤ (x11_1 : Int) := odt_ (by assumption)
           have q147 : x11_1 < (l0.length : Int) := odt_ (by assumption)
           obtain ⟨ad147, e147, hx147_0⟩ := Kd.at_int HR0.out x11_1 p147 q147
           cases e147
           replace p147 := eq_true p147
           replace q147 := eq_true q147
           go_wp2_with (first | ((with_reducible refine gate_callee (f := 64) rfl ?_); refine goesL_ (some 19) rfl rfl Try.func64 (by kernel_rfl) rfl #[.int .i64 (rd l0 x11_1), .int .i64 a1, .int .i64 a2] rfl (by first | rfl | (simp only [map_toArray, map_cons, map_nil]; try rfl)) ?_; (with_reducible refine (spec_l1In.calls (rd l0 x11_1) a1 a2 true _ A7.out).mono ?_); rintro e w' ⟨rfl, ⟨nd, rfl⟩⟩; refine ⟨_, rfl, ?_⟩; have p149 : 0 ≤ ((ji10) : Int) := odt_ (by assumption); have q149 : (ji10) < (l0.length : Int) := odt_ (by assumption); obtain ⟨ad149, e149, hx149_0⟩ := Kd.at_int HR0.out (ji10) p149 q149; obtain rfl : ad147 = ad149 := (by injection e149); replace p149 := eq_true p149; replace q149 := eq_true q149))
           go_ret
           exact ⟨by first | rfl | (simp; done) | (simp only [← hji10] <;> (first | rfl | simp)) | (simp [*]; done), by repeat (first | exact Drawn0.refl _ | apply Drawn0.step)⟩
          ·
           rw [if_neg c13] at H
           have c13b0 : decide ((rd l0 x11_1) ≤ (rd l0 (ji10))) = false := decide_eq_false c13
           clear c13
           have H' := ak_ H
           clear H
           have p147 : 0 ≤ (x11_1 : Int) := odt_ (by assumption)
           have q147 : x11_1 < (l0.length : Int) := odt_ (by assumption)
           obtain ⟨ad147, e147, hx147_0⟩ := Kd.at_int HR0.out x11_1 p147 q147
           cases e147
           replace p147 := eq_true p147
           replace q147 := eq_true q147
           go_wp2_with (first | ((with_reducible refine gate_callee (f := 64) rfl ?_); refine goesL_ (some 19) rfl rfl Try.func64 (by kernel_rfl) rfl #[.int .i64 (rd l0 x11_1), .int .i64 a1, .int .i64 a2] rfl (by first | rfl | (simp only [map_toArray, map_cons, map_nil]; try rfl)) ?_; (with_reducible refine (spec_l1In.calls (rd l0 x11_1) a1 a2 true _ A7.out).mono ?_); rintro e w' ⟨rfl, ⟨nd, rfl⟩⟩; refine ⟨_, rfl, ?_⟩; have p149 : 0 ≤ ((ji10) : Int) := odt_ (by assumption); have q149 : (ji10) < (l0.length : Int) := odt_ (by assumption); obtain ⟨ad149, e149, hx149_0⟩ := Kd.at_int HR0.out (ji10) p149 q149; obtain rfl : ad147 = ad149 := (by injection e149); replace p149 := eq_true p149; replace q149 := eq_true q149))
           go_roundg k1
           case measure => have := HK1.out; omega
           case rel => exact ⟨(wrap64 (x11_1 + 1)), (ry_), H', ⟨by have := HK1.out; omega⟩, by repeat (first | exact Drawn0.refl _ | apply Drawn0.step)⟩
         ·
          rw [if_neg c12] at H
          exact absurd H (by simp)
        ·
         rw [if_neg c11] at H
         exact absurd H (by simp)
       ·
        rw [if_neg c9] at H
        have c9b0 : decide (0 < x11_1) = false := decide_eq_false c9
        clear c9
        have H' := ak_ H
        clear H
        have p147 : 0 ≤ (x11_1 : Int) := odt_ (by assumption)
        have q147 : x11_1 < (l0.length : Int) := odt_ (by assumption)
        obtain ⟨ad147, e147, hx147_0⟩ := Kd.at_int HR0.out x11_1 p147 q147
        cases e147
        replace p147 := eq_true p147
        replace q147 := eq_true q147
        go_wp2_with (first | ((with_reducible refine gate_callee (f := 64) rfl ?_); refine goesL_ (some 19) rfl rfl Try.func64 (by kernel_rfl) rfl #[.int .i64 (rd l0 x11_1), .int .i64 a1, .int .i64 a2] rfl (by first | rfl | (simp only [map_toArray, map_cons, map_nil]; try rfl)) ?_; (with_reducible refine (spec_l1In.calls (rd l0 x11_1) a1 a2 true _ A7.out).mono ?_); rintro e w' ⟨rfl, ⟨nd, rfl⟩⟩; refine ⟨_, rfl, ?_⟩))
        go_roundg k1
        case measure => have := HK1.out; omega
        case rel => exact ⟨(wrap64 (x11_1 + 1)), (ry_), H', ⟨by have := HK1.out; omega⟩, by repeat (first | exact Drawn0.refl _ | apply Drawn0.step)⟩
      ·
       replace c8 := Bool.eq_false_iff.mpr c8
       subst c8
       have H1 : (some false) = some r := by rw [if_neg (show ¬ (false = true) by decide)] at H; exact H
       clear H
       have H := H1
       clear H1
       obtain rfl := Option.some.inj H
       have p147 : 0 ≤ (x11_1 : Int) := odt_ (by assumption)
       have q147 : x11_1 < (l0.length : Int) := odt_ (by assumption)
       obtain ⟨ad147, e147, hx147_0⟩ := Kd.at_int HR0.out x11_1 p147 q147
       cases e147
       replace p147 := eq_true p147
       replace q147 := eq_true q147
       go_wp2_with (first | ((with_reducible refine gate_callee (f := 64) rfl ?_); refine goesL_ (some 19) rfl rfl Try.func64 (by kernel_rfl) rfl #[.int .i64 (rd l0 x11_1), .int .i64 a1, .int .i64 a2] rfl (by first | rfl | (simp only [map_toArray, map_cons, map_nil]; try rfl)) ?_; (with_reducible refine (spec_l1In.calls (rd l0 x11_1) a1 a2 false _ A7.out).mono ?_); rintro e w' ⟨rfl, ⟨nd, rfl⟩⟩; refine ⟨_, rfl, ?_⟩))
       go_ret
       exact ⟨ry_, by repeat (first | exact Drawn0.refl _ | apply Drawn0.step)⟩
     ·
      rw [if_neg c6] at H
      exact absurd H (by simp)
    ·
     rw [if_neg c5] at H
     exact absurd H (by simp)
   ·
    rw [if_neg c4] at H
    have c4b0 : decide (x11_1 < (l0.length : Int)) = false := decide_eq_false c4
    clear c4
    obtain rfl := Option.some.inj H
    go_wp2
    go_ret
    exact ⟨ry_, by repeat (first | exact Drawn0.refl _ | apply Drawn0.step)⟩
end Go.Proofs.Ytmdbhpbogbekmaa.QNt
