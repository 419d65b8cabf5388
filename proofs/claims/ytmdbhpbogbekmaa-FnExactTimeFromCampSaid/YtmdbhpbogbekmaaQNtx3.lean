/- Contracts of functions of the given program, walked. Conditions: those at each theorem. -/
import Derived.Test.YtmdbhpbogbekmaaQNtx0
import Derived.Test.YtmdbhpbogbekmaaQNtx1
namespace Go.Proofs.Ytmdbhpbogbekmaa.QNt
open Go.RowKit Go.Proofs.YtmdbhpbogbekmaaW.PrintWords Go.Proofs.YtmdbhpbogbekmaaW.PrintLast Go.Proofs.YtmdbhpbogbekmaaW.PrintMore
open List (setIfInBounds_toArray set_cons_zero set_cons_succ map_toArray map_cons map_nil)
attribute [local go_sem] max2_int min2_int max_two min_two max_three min_three max_four min_four
set_option linter.unusedVariables false
set_option maxHeartbeats 8000000
set_option maxRecDepth 100000
set_option linter.unusedSimpArgs false
mutual
def spec_paGroups.j0 : Nat → List Int → List Int → Int → Int → List (List Int) → Option ((List (List Int)))
 | 0, _, _, _, _, _ => none
 | k + 1, x0, x1, x2, x3, x9 => if (x1.length : Int) = x3 then (some x9) else (spec_paGroups.l0 k x0 x1 x3 x9 x2)
def spec_paGroups.l0 : Nat → List Int → List Int → Int → List (List Int) → Int → Option ((List (List Int)))
 | 0, _, _, _, _, _ => none
 | k + 1, x0, x1, x3, x9, x10 => if x10 < (x0.length : Int) then ((spec_l1Own.f x1).bind fun t166 => (if 0 ≤ x10 then ((some (([rd x0 x10] : List Int) : List Int)).bind fun y170 => (if t166.length + y170.length < 17592186044416 then ((spec_paGroups.f k x0 (t166 ++ y170) (wrap64 (x10 + 1)) x3).bind fun t176 => (if x9.length + t176.length < 5864062014805 then (spec_paGroups.l0 k x0 x1 x3 (x9 ++ t176) (wrap64 (x10 + 1))) else (none))) else (none))) else (none))) else (some x9)
def spec_paGroups.f : Nat → List Int → List Int → Int → Int → Option ((List (List Int)))
 | 0, _, _, _, _ => none
 | k + 1, l0, l1, a2, a3 => if (l1.length : Int) > 0 then ((spec_l1Own.f l1).bind fun t157 => ((some (([t157] : List (List Int)) : List (List Int))).bind fun y160 => (if ([] : List (List Int)).length + y160.length < 5864062014805 then (spec_paGroups.j0 k l0 l1 a2 a3 (([] : List (List Int)) ++ y160)) else (none)))) else (spec_paGroups.j0 k l0 l1 a2 a3 ([] : List (List Int)))
end
theorem spec_paGroups.mono_l : ∀ k, (∀ y0 y1 y2 y3, LeO (spec_paGroups.f k y0 y1 y2 y3) (spec_paGroups.f (k + 1) y0 y1 y2 y3)) ∧ (∀ y0 y1 y2 y3 y4, LeO (spec_paGroups.j0 k y0 y1 y2 y3 y4) (spec_paGroups.j0 (k + 1) y0 y1 y2 y3 y4)) ∧ (∀ y0 y1 y2 y3 y4, LeO (spec_paGroups.l0 k y0 y1 y2 y3 y4) (spec_paGroups.l0 (k + 1) y0 y1 y2 y3 y4))
 | 0 => ⟨fun _ _ _ _ r h => by simp [spec_paGroups.f] at h, fun _ _ _ _ _ r h => by simp [spec_paGroups.j0] at h, fun _ _ _ _ _ r h => by simp [spec_paGroups.l0] at h⟩
 | k + 1 => by
  obtain ⟨ih0, ih1, ih2⟩ := spec_paGroups.mono_l k
  refine ⟨?_, ?_, ?_⟩
  ·intro y0 y1 y2 y3
   unfold spec_paGroups.f
   repeat' first
   | (with_reducible first | exact ih0 _ _ _ _ | exact ih1 _ _ _ _ _ | exact ih2 _ _ _ _ _ | exact LeO.refl _ | exact LeO.none _ | refine LeO.ite ?_ ?_ | refine LeO.bind ?_ (fun _ => ?_))
  ·intro y0 y1 y2 y3 y4
   unfold spec_paGroups.j0
   repeat' first
   | (with_reducible first | exact ih0 _ _ _ _ | exact ih1 _ _ _ _ _ | exact ih2 _ _ _ _ _ | exact LeO.refl _ | exact LeO.none _ | refine LeO.ite ?_ ?_ | refine LeO.bind ?_ (fun _ => ?_))
  ·intro y0 y1 y2 y3 y4
   unfold spec_paGroups.l0
   repeat' first
   | (with_reducible first | exact ih0 _ _ _ _ | exact ih1 _ _ _ _ _ | exact ih2 _ _ _ _ _ | exact LeO.refl _ | exact LeO.none _ | refine LeO.ite ?_ ?_ | refine LeO.bind ?_ (fun _ => ?_))
theorem spec_paGroups.mono : ∀ a0 a1 a2 a3 k, LeO (spec_paGroups.f k a0 a1 a2 a3) (spec_paGroups.f (k + 1) a0 a1 a2 a3) := by
 intro a0 a1 a2 a3 k
 obtain ⟨ih0, ih1, ih2⟩ := spec_paGroups.mono_l k
 exact ih0 a0 a1 a2 a3
def spec_paGroups.T9 : Bool × List (List Nat × List Nat) := (true, [([], []), ([], []), ([], []), ([2], [2]), ([], []), ([], []), ([4, 5], [4, 5]), ([6], [6]), ([7], [7]), ([3, 8, 3], [3, 8]), ([], []), ([10], [10]), ([], []), ([1, 9, 11, 12, 9], [1, 9, 11, 12]), ([0, 13, 13], [0, 13]), ([14, 14, 0, 1, 2, 3, 4, 5, 6, 7, 8, 9, 10, 11, 12, 13, 14], [0, 14])])
def spec_paGroups.B9 : List Nat := [0, 0, 0, 4, 0, 0, 48, 112, 240, 508, 0, 1024, 0, 8190, 16383, 32767]
theorem spec_paGroups.tab9 : rtab .any (opsOf Try.f65 9) = spec_paGroups.T9 := by kernel_rfl
theorem spec_paGroups.bits9 : waitsOk spec_paGroups.T9.2 spec_paGroups.B9 = true := by kernel_rfl
theorem spec_paGroups.calls (k : Nat) : ∀ (A0 : Option Addr) (c0 : Nat) (l0 : List Int) (A1 : Option Addr) (c1 : Nat) (l1 : List Int) (a2 : Int) (a3 : Int) (r : List (List Int)) (w : World) (hr0 : Kd.C (Kd.int .i64) w A0 l0.length l0) (hc0 : l0.length ≤ c0) (hr1 : Kd.C (Kd.int .i64) w A1 l1.length l1) (hc1 : l1.length ≤ c1) (h : spec_paGroups.f k l0 l1 a2 a3 = some r),
  Calls Try.prog 65 #[.slice A0 l0.length c0, .slice A1 l1.length c1, .int .i64 a2, .int .i64 a3] w fun e w' => ∃ v0_ : Value, e = .returned (v0_) ∧ Kd.N (Kd.slice 3 (Kd.int .i64)) 22 w' w.heap.size (fun k_ => (w.heap.size ≤ k_)) v0_ r ∧ Below w.heap.size w w' := by
 induction k using Nat.strongRecOn with
 | _ k ih =>
 intro A0 c0 l0 A1 c1 l1 a2 a3 r w hr0 hc0 hr1 hc1 h
 cases k with
 | zero => exact absurd h (by simp [spec_paGroups.f])
 | succ k =>
 simp only [spec_paGroups.f] at h
 have HR0 := ak_ hr0
 have HC0 := ak_ hc0
 clear hr0 hc0
 have HR1 := ak_ hr1
 have HC1 := ak_ hc1
 clear hr1 hc1
 have HB := ak_ (Below.refl w.heap.size w)
 have H : (if (l1.length : Int) > 0 then ((spec_l1Own.f l1).bind fun t157 => ((some (([t157] : List (List Int)) : List (List Int))).bind fun y160 => (if ([] : List (List Int)).length + y160.length < 5864062014805 then (spec_paGroups.j0 k l0 l1 a2 a3 (([] : List (List Int)) ++ y160)) else (none)))) else (spec_paGroups.j0 k l0 l1 a2 a3 ([] : List (List Int)))) = some r := h
 clear h
 have HC5 := ak_ H
 clear H
 go_enter Try.func65, Try.ntmps65
 go_upto_if 13 with (fail)
 go_cut [9] (fun v9 wc => ∃ (kq : Nat) (x9_4 : List (List Int)), Aside0 (spec_paGroups.j0 kq l0 l1 a2 a3 x9_4 = some r) ∧ Aside0 (kq ≤ k) ∧ Aside0 (Kd.N (Kd.slice 3 (Kd.int .i64)) 22 wc w.heap.size (fun k_ => (w.heap.size ≤ k_)) v9 x9_4) ∧ Aside0 (Below w.heap.size w wc))
 case first =>
  have H := HC5.out
  clear HC5
  by_cases c6 : (l1.length : Int) > 0
  ·
   rw [if_pos c6] at H
   have c6b0 : decide (0 < (l1.length : Int)) = true := decide_eq_true c6
   have c6b1 : decide (0 < l1.length) = true := decide_eq_true (by omega)
   clear c6
   (first | rw [c6b0] | (simp only [i64_w, i32_w]; rw [c6b0]) | rw [c6b1] | skip)
   replace H := Option.bind_eq_some_iff.mp H
   obtain ⟨t157, A70, H⟩ := H
   replace H : ((some (([t157] : List (List Int)) : List (List Int))).bind fun y160 => (if ([] : List (List Int)).length + y160.length < 5864062014805 then (spec_paGroups.j0 k l0 l1 a2 a3 (([] : List (List Int)) ++ y160)) else (none))) = some r := H
   have A7 := ak_ A70
   clear A70
   obtain ⟨y160, hy160⟩ : ∃ y_ : List (List Int), y_ = (([t157] : List (List Int))) := ⟨_, rfl⟩
   replace H : (if ([] : List (List Int)).length + y160.length < 5864062014805 then (spec_paGroups.j0 k l0 l1 a2 a3 (([] : List (List Int)) ++ y160)) else (none)) = some r := by first | (rw [hy160]; exact H) | exact H
   have Ny160 := ak_ hy160
   clear hy160
   by_cases c8 : ([] : List (List Int)).length + y160.length < 5864062014805
   ·
    rw [if_pos c8] at H
    have LMc8 := ak_ c8
    clear c8
    obtain ⟨y163, hy163⟩ : ∃ y_ : List (List Int), y_ = (([] : List (List Int)) ++ y160) := ⟨_, rfl⟩
    replace H : (spec_paGroups.j0 k l0 l1 a2 a3 y163) = some r := by first | (rw [hy163]; exact H) | exact H
    have Ny163 := ak_ hy163
    clear hy163
    have H' := ak_ H
    clear H
    go_wp2_with (first | ((with_reducible refine gate_callee (f := 66) rfl ?_); refine goesL_ (some 16) rfl rfl Try.func66 (by kernel_rfl) rfl #[.slice A1 l1.length c1] rfl rs_ ?_; (with_reducible refine (spec_l1Own.calls _ _ l1 t157 _ ?side1 ?side2 A7.out).mono ?_); (case side1 => exact cs_ (Kd.C_below HR1.out HB.out)); (case side2 => exact HC1.out); rintro e w9 ⟨v158, rfl, ho0, hb⟩; refine ⟨_, rfl, ?_⟩; have HO159 := ak_ (Kd.R_lower (Kd.R_newM (M := fun k_ => (w.heap.size ≤ k_)) ho0 (bz_ (bb_ HB.out)) (fun k_ h_ => h_)) (bz_ (bb_ HB.out))); replace HB := ak_ (bs_ (bb_ HB.out) hb); (try clear hb); (try clear hb2); (try clear hk); (try clear hi); (try clear ho0); obtain ⟨Ao10, co10, eo10⟩ := Kd.R_slice HO159.out; subst eo10) | ((with_reducible refine gate_dst (N := 17) rfl ?_); refine Kd.N_lit (Kd.slice 3 (Kd.int .i64)) _ 22 ?hg (N' := 17) ?hd (xs := ([t157] : List (List Int))) (inner := [.slice Ao10 t157.length co10]) (ok := (fun k_ => (w.heap.size ≤ k_))) (okp := (fun k_ => (w.heap.size ≤ k_))) ?hr ?hp (fun _ hk => hk) ((show ∀ k_, w9.heap.size ≤ k_ → (fun k_ => (w.heap.size ≤ k_)) k_ from fun k_ hk => (Nat.le_trans (bz_ (bb_ HB.out)) hk)) _ (Nat.le_refl _)) (Below.refl _ _) (Nat.le_refl _) (by simp) ?_; (case hd => rfl); (case hg => rfl); (case hr => go_simp <;> rfl); (case hp => exact (Reps.one (show Kd.FK (Kd.slice 3 (Kd.int .i64)) _ _ t157 [.slice Ao10 t157.length co10] from (Kd.FK_slice_mk (Kd.R_reads' (Kd.R_mono (ok' := (fun k_ => (w.heap.size ≤ k_))) (HO159.out) (fun k_ hk => hk.1))).2.1 (Kd.R_F (Kd.R_mono (ok' := (fun k_ => (w.heap.size ≤ k_))) (HO159.out) (fun k_ hk => hk.1))))) (Reps.none _ _))); intro v161 w11 ho12 hb hg_ hnew_; clear hg_ hnew_; (first | rw [← Ny160.out] at ho12 | (simp only [Int.reduceToNat] at ho12; rw [← Ny160.out] at ho12)); have HO162 := ak_ (Kd.N_lower ho12 (bz_ (bb_ HB.out))); replace HB := ak_ (bs_ (bb_ HB.out) hb); clear HO159; clear hb ho12; obtain ⟨Ao14, co14, eo14⟩ := Kd.N_slice HO162.out; subst eo14) | ((with_reducible refine gate_builtin (b := .append) (xs := #[.tmp 14, .tmp 17]) rfl ?_); at_builtin; refine Kd.N_append_rows (Kd.slice 3 (Kd.int .i64)) (w0 := w) w.heap.size rfl (.tmp 14) (.tmp 17) 57 22 (.slice none 0 0) 24 rfl Try.underlying57 info22 rfl (by decide) (by omega) (.slice none 0 0) ([] : List (List Int)) y160 _ _ _ (fun k_ => (w.heap.size ≤ k_)) (fun k_ => ((fun k_ => (w.heap.size ≤ k_))) k_ ∧ some k_ ≠ (.slice none 0 0 : Value).ownBlock) rfl rfl ?aO ?aR (fun _ hk => hk) ?aF ?aB ?aS ?aL ?_; (case aR => exact (by skip; exact Kd.N_F (Kd.N_mono (ok' := (fun k_ => ((fun k_ => (w.heap.size ≤ k_))) k_ ∧ some k_ ≠ (.slice none 0 0 : Value).ownBlock)) (HO162.out) (fun k_ hk => ⟨hk, (by simp [Value.ownBlock])⟩)))); (case aB => exact (bb_ HB.out)); (case aF => exact (fun k_ hk => (Nat.le_trans (bz_ (bb_ HB.out)) hk))); (case aO => exact ((Kd.N_nil _ _ _ _ (fun k_ => (w.heap.size ≤ k_))))); (case aS => exact (bz_ (bb_ HB.out))); (case aL => have := LMc8.out; omega); intro v164 w13 ho hb hg hat; rw [← Ny163.out] at ho; replace HO162 := ak_ (Kd.N_afterv (Kd.N_apart_nil (Kd.pN HO162.out)) hg hat); replace HB := ak_ (hb); have HO165 := ak_ (ho); clear ho hb hg hat))
    go_meet
    case rel => exact ⟨_, (y163), H', ⟨by first | omega | exact Nat.le_refl _⟩, ⟨Kd.pN HO165.out⟩, ⟨bb_ HB.out⟩⟩
   ·
    rw [if_neg c8] at H
    exact absurd H (by simp)
  ·
   rw [if_neg c6] at H
   have c6b0 : decide (0 < (l1.length : Int)) = false := decide_eq_false c6
   have c6b1 : decide (0 < l1.length) = false := decide_eq_false (by omega)
   clear c6
   (first | rw [c6b0] | (simp only [i64_w, i32_w]; rw [c6b0]) | rw [c6b1] | skip)
   have H' := ak_ H
   clear H
   go_wp2
   go_meet
   case rel => exact ⟨_, (([] : List (List Int))), H', ⟨by first | omega | exact Nat.le_refl _⟩, ⟨by first | exact Kd.S_nil _ _ _ _ _ | exact Kd.N_nil _ _ _ _ _ | exact Kd.V_nil _ _ _ _ _ | exact Kd.Q_nil _ _ _ _ _ | exact Kd.R_nil _ _ _ _ _⟩, ⟨bb_ HB.out⟩⟩
 case rest =>
  clear HC5
  try clear c1
  try clear p2
  try clear c6
  try clear c6b0
  try clear c6b1
  try clear c8
  obtain ⟨kq, x9_4, HA, HJ4, HO_9, HB⟩ := hcut
  cases kq with
  | zero => exact absurd HA.out (by simp [spec_paGroups.j0])
  | succ kj4 =>
   have H := HA.out
   clear HA
   simp only [spec_paGroups.j0] at H
   by_cases c15 : (l1.length : Int) = a3
   ·
    rw [if_pos c15] at H
    have c15b0 : ((l1.length : Int) == a3) = true := beq_iff_eq.mpr c15
    have c15b1 : ((l1.length : Int) != a3) = false := bne_eq_false_iff_eq.mpr c15
    clear c15
    obtain rfl := Option.some.inj H
    go_wp2
    go_ret
    exact ⟨_, rx_, by (with_reducible repeat (first | apply Kd.N_alloc | apply Kd.N_drewN | apply Kd.N_drew)); exact HO_9.out, bb_ HB.out⟩
   ·
    rw [if_neg c15] at H
    have c15b0 : ((l1.length : Int) == a3) = false := beq_eq_false_iff_ne.mpr c15
    have c15b1 : ((l1.length : Int) != a3) = true := bne_iff_ne.mpr c15
    have H' := ak_ H
    clear H
    go_wp2
    go_loopg [9, 10] kj4 (fun kq v9 v10 w' => ∃ (x9_2 : List (List Int)) (x10_2 : Int), v10 = .int .i64 x10_2 ∧ Aside0 (spec_paGroups.l0 kq l0 l1 a3 x9_2 x10_2 = some r) ∧ Aside0 (kq ≤ kj4) ∧ Aside0 (Kd.N (Kd.slice 3 (Kd.int .i64)) 22 w' w.heap.size (fun k_ => (w.heap.size ≤ k_)) v9 x9_2) ∧ Aside0 (Below w.heap.size w w'))
    case atStart => exact ⟨(x9_4), (a2), (ry_), H', ⟨Nat.le_refl _⟩, ⟨Kd.pN HO_9.out⟩, ⟨bb_ HB.out⟩⟩
    case round =>
     clear H'
     try clear c1
     try clear p2
     try clear c6
     try clear c6b0
     try clear c6b1
     try clear c8
     try clear c15
     try clear c15b0
     try clear c15b1
     try clear p2
     obtain ⟨x9_2, x10_2, rfl, HA, HK2, HO_9, HB⟩ := hrel
     cases gk with
     | zero => exact absurd HA.out (by simp [spec_paGroups.l0])
     | succ k2 =>
      have H := HA.out
      clear HA
      simp only [spec_paGroups.l0] at H
      by_cases c16 : x10_2 < (l0.length : Int)
      ·
       rw [if_pos c16] at H
       have c16b0 := decide_eq_true c16
       clear c16
       replace H := Option.bind_eq_some_iff.mp H
       obtain ⟨t166, A170, H⟩ := H
       replace H : (if 0 ≤ x10_2 then ((some (([rd l0 x10_2] : List Int) : List Int)).bind fun y170 => (if t166.length + y170.length < 17592186044416 then ((spec_paGroups.f k2 l0 (t166 ++ y170) (wrap64 (x10_2 + 1)) a3).bind fun t176 => (if x9_2.length + t176.length < 5864062014805 then (spec_paGroups.l0 k2 l0 l1 a3 (x9_2 ++ t176) (wrap64 (x10_2 + 1))) else (none))) else (none))) else (none)) = some r := H
       have A17 := ak_ A170
       clear A170
       by_cases c18 : 0 ≤ x10_2
       ·
        rw [if_pos c18] at H
        have c18b0 := decide_eq_true c18
        clear c18
        obtain ⟨y170, hy170⟩ : ∃ y_ : List Int, y_ = (([rd l0 x10_2] : List Int)) := ⟨_, rfl⟩
        replace H : (if t166.length + y170.length < 17592186044416 then ((spec_paGroups.f k2 l0 (t166 ++ y170) (wrap64 (x10_2 + 1)) a3).bind fun t176 => (if x9_2.length + t176.length < 5864062014805 then (spec_paGroups.l0 k2 l0 l1 a3 (x9_2 ++ t176) (wrap64 (x10_2 + 1))) else (none))) else (none)) = some r := by first | (rw [hy170]; exact H) | exact H
        have Ny170 := ak_ hy170
        clear hy170
        by_cases c19 : t166.length + y170.length < 17592186044416
        ·
         rw [if_pos c19] at H
         have LMc19 := ak_ c19
         clear c19
         obtain ⟨y173, hy173⟩ : ∃ y_ : List Int, y_ = (t166 ++ y170) := ⟨_, rfl⟩
         replace H : ((spec_paGroups.f k2 l0 y173 (wrap64 (x10_2 + 1)) a3).bind fun t176 => (if x9_2.length + t176.length < 5864062014805 then (spec_paGroups.l0 k2 l0 l1 a3 (x9_2 ++ t176) (wrap64 (x10_2 + 1))) else (none))) = some r := by first | (rw [hy173]; exact H) | exact H
         have Ny173 := ak_ hy173
         clear hy173
         replace H := Option.bind_eq_some_iff.mp H
         obtain ⟨t176, A200, H⟩ := H
         replace H : (if x9_2.length + t176.length < 5864062014805 then (spec_paGroups.l0 k2 l0 l1 a3 (x9_2 ++ t176) (wrap64 (x10_2 + 1))) else (none)) = some r := H
         have A20 := ak_ A200
         clear A200
         by_cases c21 : x9_2.length + t176.length < 5864062014805
         ·
          rw [if_pos c21] at H
          have LMc21 := ak_ c21
          clear c21
          obtain ⟨y179, hy179⟩ : ∃ y_ : List (List Int), y_ = (x9_2 ++ t176) := ⟨_, rfl⟩
          replace H : (spec_paGroups.l0 k2 l0 l1 a3 y179 (wrap64 (x10_2 + 1))) = some r := by first | (rw [hy179]; exact H) | exact H
          have Ny179 := ak_ hy179
          clear hy179
          have H' := ak_ H
          clear H
          obtain ⟨Ao22, co22, eo22⟩ := Kd.N_slice HO_9.out
          subst eo22
          try go_wp2
          have n0_ := ak_ (Kd.N_drew HO_9.out)
          have n1_ := ak_ (b1_ HB.out)
          clear HO_9 HB
          have HO_9 := n0_; have HB := n1_
          clear n0_ n1_
          have p169 : 0 ≤ (x10_2 : Int) := od_
          have q169 : x10_2 < (l0.length : Int) := od_
          obtain ⟨ad169, e169, hx169_0⟩ := Kd.at_int HR0.out x10_2 p169 q169
          have hw169_0 := hx169_0
          cases e169
          try replace hx169_0 := (HB.out.cell (World.block_lt_of_cell? w _ hx169_0)).trans hx169_0
          replace p169 := eq_true p169
          replace q169 := eq_true q169
          refine start_ (n := 16) (S := fun w' => w'.cell? (ad169.add (x10_2).toNat) = some (.int .i64 (rd l0 x10_2))) (ds := []) (mb_ 16 0) (by kernel_rfl) rfl rfl (((HB.out.cell (World.block_lt_of_cell? w _ hw169_0)).trans hw169_0)) (fun hHeld => ?_); refine with_tabW spec_paGroups.tab9 spec_paGroups.bits9 (fun HT_ HW_ => ?_)
          generalize wr.drew = w23 at HO_9 HB hx169_0 hHeld ⊢
          refine pu_ 0 31 16 1 ?_
          refine pu_ 1 32 16 3 ?_
          refine pu_ 2 33 16 7 ?_
          refine pu_ 4 35 16 23 ?_
          refine pu_ 5 36 16 55 ?_
          refine pu_ 6 37 16 119 ?_
          refine pu_ 10 41 16 1143 ?_
          refine pu_ 11 42 16 3191 ?_
          refine pu_ 12 43 16 7287 ?_
          refine take_ (i := 7) (N := some 38) (v := ?_) (a' := ?_) (mb_ 16 7415) rfl rfl (take_ofW HT_.out HW_.out (by kernel_rfl)) (fun _ _ _ h => h) (Or.inl ⟨by rfl, ?_⟩) hHeld ?_ ?_
          rotate_left
          ·
           intro w' s0
           go_simp
           with_reducible rfl
          rotate_left
          ·
           simp only [Act.put, setIfInBounds_toArray, set_cons_zero, set_cons_succ, i64_w, i32_w]
           rfl
          refine join_ (σ := Value × Value) 4 (mb_ 16 7679) (fun s_ => [(34, s_.1), (39, s_.2)]) (fun s_ w' => (w'.cell? (ad169.add (x10_2).toNat) = some (.int .i64 (rd l0 x10_2))) ∧ (Kd.R (Kd.int .i64) 3 w' w.heap.size (fun k_ => (w.heap.size ≤ k_) ∧ some k_ ≠ (s_.2 : Value).ownBlock) s_.1 t166) ∧ (Kd.R (Kd.int .i64) 3 w' w.heap.size (fun k_ => (w.heap.size ≤ k_) ∧ some k_ ≠ (s_.1 : Value).ownBlock) s_.2 y170) ∧ (Kd.N (Kd.slice 3 (Kd.int .i64)) 22 w' w.heap.size (fun k_ => (w.heap.size ≤ k_) ∧ some k_ ≠ (s_.1 : Value).ownBlock ∧ some k_ ≠ (s_.2 : Value).ownBlock) (.slice Ao22 x9_2.length co22) x9_2) ∧ (Below w.heap.size w w')) ?_ ?_
          rotate_left
          ·
           intro hCont
           refine two_ (i := 3) (j := 8) (Ni := some 34) (Nj := some 39) (mb_ 16 7423) (mb_ 16 7671) rfl rfl rfl rfl (two_of HT_.out (by kernel_rfl)) (by decide) (by decide) (fun K hK => ?_) (fun K hK => ?_)
           ·
            skip
            refine goes_ Try.func66 (by kernel_rfl) rfl #[.slice A1 l1.length c1] (by rfl) rfl rfl rs_ ?_
            with_reducible refine (spec_l1Own.calls _ _ l1 t166 _ ?side1 ?side2 A17.out).mono ?_
            (case side1 => exact cs_ (Kd.C_below HR1.out HB.out))
            (case side2 => exact HC1.out)
            rintro e w24 ⟨v167, rfl, ho0, hb⟩
            refine ⟨_, rfl, ?_⟩
            have n0_ := ak_ (Kd.N_elder' (Kd.pN HO_9.out) (Kd.R_base ho0) hb)
            have n1_ := ak_ (Kd.R_lower (Kd.R_newM (M := fun k_ => (w.heap.size ≤ k_)) ho0 (bz_ (bb_ HB.out)) (fun k_ h_ => h_)) (bz_ (bb_ HB.out)))
            have n2_ := ak_ (bs_ (bb_ HB.out) hb)
            clear HO_9 HB
            have HO_9 := n0_; have HO168 := n1_; have HB := n2_
            clear n0_ n1_ n2_
            (try clear hb)
            (try clear hb2)
            (try clear hk)
            (try clear hi)
            (try clear ho0)
            refine hK.out _ _ (((HB.out.cell (World.block_lt_of_cell? w _ hw169_0)).trans hw169_0)) (fun hHeld => ?_)
            clear hK K
            refine nm_ ?_
            refine on_ 8 39 16 7679 (fun K hK => ?_)
            refine Kd.R_lit_step (Kd.int .i64) _ 3 ?hg (N := 39) ?hd (xs := ([rd l0 x10_2] : List Int)) (inner := [.int .i64 (rd l0 x10_2)]) (ok := fun _ => True) (okp := fun _ => True) ?hr ?hp (fun _ hk => hk) trivial (Below.refl _ _) (Nat.le_refl _) (by simp) ?_; (case hd => rfl); (case hg => rfl); (case hr => go_simp <;> rfl); (case hp => exact (Reps.one (show Kd.M (Kd.int .i64) _ _ _ (rd l0 x10_2) [.int .i64 (rd l0 x10_2)] from rfl) (Reps.none _ _)))
            intro v171 w25 ho26 hb hg_ hnew_
            clear hg_ hnew_
            (first | rw [← Ny170.out] at ho26 | (simp only [Int.reduceToNat] at ho26; rw [← Ny170.out] at ho26))
            have n0_ := ak_ (Kd.N_elder' (Kd.pN HO_9.out) (Kd.R_base ho26) hb)
            have n1_ := ak_ (Kd.R_elder' (Kd.pR HO168.out) (Kd.R_base ho26) hb)
            have n2_ := ak_ (Kd.R_lower (Kd.R_new' (Kd.R_newM (M := fun k_ => (w.heap.size ≤ k_)) ho26 (bz_ (bb_ HB.out)) (fun k_ h_ => h_)) (Kd.R_lt (Kd.pR HO168.out))) (bz_ (bb_ HB.out)))
            have n3_ := ak_ (bs_ (bb_ HB.out) hb)
            clear HO_9 HO168 HB
            have HO_9 := n0_; have HO168 := n1_; have HO172 := n2_; have HB := n3_
            clear n0_ n1_ n2_ n3_ hb ho26
            refine hK.out _ _ (((HB.out.cell (World.block_lt_of_cell? w _ hw169_0)).trans hw169_0)) (fun hHeld => ?_)
            clear hK K
            refine nm_ ?_
            exact norm_ (by simp only [putAll, Act.put, setIfInBounds_toArray, set_cons_zero, set_cons_succ]) (hCont (v167, v171) _ ⟨hHeld, (by (with_reducible repeat (first | apply Kd.R_alloc | apply Kd.R_drewN | apply Kd.R_drew)); exact Kd.R_mono HO168.out (fun _ hk => ⟨hk.1.1, hk.2⟩)), (by (with_reducible repeat (first | apply Kd.R_alloc | apply Kd.R_drewN | apply Kd.R_drew)); exact Kd.R_mono HO172.out (fun _ hk => ⟨hk.1.1, hk.2⟩)), (by (with_reducible repeat (first | apply Kd.N_alloc | apply Kd.N_drewN | apply Kd.N_drew)); exact Kd.N_mono HO_9.out (fun _ hk => ⟨hk.1.1, ⟨hk.1.2, hk.2⟩⟩)), (bb_ HB.out)⟩)
           ·
            skip
            refine Kd.R_lit_step (Kd.int .i64) _ 3 ?hg (N := 39) ?hd (xs := ([rd l0 x10_2] : List Int)) (inner := [.int .i64 (rd l0 x10_2)]) (ok := fun _ => True) (okp := fun _ => True) ?hr ?hp (fun _ hk => hk) trivial (Below.refl _ _) (Nat.le_refl _) (by simp) ?_; (case hd => rfl); (case hg => rfl); (case hr => go_simp <;> rfl); (case hp => exact (Reps.one (show Kd.M (Kd.int .i64) _ _ _ (rd l0 x10_2) [.int .i64 (rd l0 x10_2)] from rfl) (Reps.none _ _)))
            intro v171 w24 ho25 hb hg_ hnew_
            clear hg_ hnew_
            (first | rw [← Ny170.out] at ho25 | (simp only [Int.reduceToNat] at ho25; rw [← Ny170.out] at ho25))
            have n0_ := ak_ (Kd.N_elder' (Kd.pN HO_9.out) (Kd.R_base ho25) hb)
            have n1_ := ak_ (Kd.R_lower (Kd.R_newM (M := fun k_ => (w.heap.size ≤ k_)) ho25 (bz_ (bb_ HB.out)) (fun k_ h_ => h_)) (bz_ (bb_ HB.out)))
            have n2_ := ak_ (bs_ (bb_ HB.out) hb)
            clear HO_9 HB
            have HO_9 := n0_; have HO172 := n1_; have HB := n2_
            clear n0_ n1_ n2_ hb ho25
            refine hK.out _ _ (((HB.out.cell (World.block_lt_of_cell? w _ hw169_0)).trans hw169_0)) (fun hHeld => ?_)
            clear hK K
            refine nm_ ?_
            refine on_ 3 34 16 7679 (fun K hK => ?_)
            refine goes_ Try.func66 (by kernel_rfl) rfl #[.slice A1 l1.length c1] (by rfl) rfl rfl rs_ ?_
            with_reducible refine (spec_l1Own.calls _ _ l1 t166 _ ?side1 ?side2 A17.out).mono ?_
            (case side1 => exact cs_ (Kd.C_below HR1.out HB.out))
            (case side2 => exact HC1.out)
            rintro e w26 ⟨v167, rfl, ho0, hb⟩
            refine ⟨_, rfl, ?_⟩
            have n0_ := ak_ (Kd.N_elder' (Kd.pN HO_9.out) (Kd.R_base ho0) hb)
            have n1_ := ak_ (Kd.R_elder' (Kd.pR HO172.out) (Kd.R_base ho0) hb)
            have n2_ := ak_ (Kd.R_lower (Kd.R_new' (Kd.R_newM (M := fun k_ => (w.heap.size ≤ k_)) ho0 (bz_ (bb_ HB.out)) (fun k_ h_ => h_)) (Kd.R_lt (Kd.pR HO172.out))) (bz_ (bb_ HB.out)))
            have n3_ := ak_ (bs_ (bb_ HB.out) hb)
            clear HO_9 HO172 HB
            have HO_9 := n0_; have HO172 := n1_; have HO168 := n2_; have HB := n3_
            clear n0_ n1_ n2_ n3_
            (try clear hb)
            (try clear hb2)
            (try clear hk)
            (try clear hi)
            (try clear ho0)
            refine hK.out _ _ (((HB.out.cell (World.block_lt_of_cell? w _ hw169_0)).trans hw169_0)) (fun hHeld => ?_)
            clear hK K
            refine nm_ ?_
            exact norm_ (by simp only [putAll, Act.put, setIfInBounds_toArray, set_cons_zero, set_cons_succ]) (hCont (v167, v171) _ ⟨hHeld, (by (with_reducible repeat (first | apply Kd.R_alloc | apply Kd.R_drewN | apply Kd.R_drew)); exact Kd.R_mono HO168.out (fun _ hk => ⟨hk.1.1, hk.2⟩)), (by (with_reducible repeat (first | apply Kd.R_alloc | apply Kd.R_drewN | apply Kd.R_drew)); exact Kd.R_mono HO172.out (fun _ hk => ⟨hk.1.1, hk.2⟩)), (by (with_reducible repeat (first | apply Kd.N_alloc | apply Kd.N_drewN | apply Kd.N_drew)); exact Kd.N_mono HO_9.out (fun _ hk => ⟨hk.1.1, ⟨hk.2, hk.1.2⟩⟩)), (bb_ HB.out)⟩)
          rintro ⟨v167, v171⟩ w27 ⟨hS_, h0_, h1_, h2_, h3_⟩
          have n0_ : Aside0 (Kd.R (Kd.int .i64) 3 w27 w.heap.size (fun k_ => (w.heap.size ≤ k_) ∧ some k_ ≠ (v171 : Value).ownBlock) v167 t166) := ⟨h0_⟩
          have n1_ : Aside0 (Kd.R (Kd.int .i64) 3 w27 w.heap.size (fun k_ => (w.heap.size ≤ k_) ∧ some k_ ≠ (v167 : Value).ownBlock) v171 y170) := ⟨h1_⟩
          have n2_ : Aside0 (Kd.N (Kd.slice 3 (Kd.int .i64)) 22 w27 w.heap.size (fun k_ => (w.heap.size ≤ k_) ∧ some k_ ≠ (v167 : Value).ownBlock ∧ some k_ ≠ (v171 : Value).ownBlock) (.slice Ao22 x9_2.length co22) x9_2) := ⟨h2_⟩
          have n3_ : Aside0 (Below w.heap.size w w27) := ⟨h3_⟩
          clear HO_9 HB h0_ h1_ h2_ h3_
          have HO168 := n0_; have HO172 := n1_; have HO_9 := n2_; have HB := n3_
          clear n0_ n1_ n2_ n3_
          have hHeld : w27.cell? (ad169.add (x10_2).toNat) = some (.int .i64 (rd l0 x10_2)) := hS_
          obtain ⟨Ao29, co29, eo29⟩ := Kd.R_slice HO172.out
          (first | subst eo29 | (injection eo29 with f1_ f2_ f3_; have f4_ := f1_.symm; have f5_ := f3_.symm; clear f1_ f2_ f3_; subst f4_; subst f5_))
          refine norm_ (a' := ?_) ?_ ?_
          rotate_left
          ·
           simp only [putAll, Act.put, setIfInBounds_toArray, set_cons_zero, set_cons_succ]
           rfl
          refine on_ 9 40 16 8191 (fun K hK => ?_)
          refine Kd.R_append_rows_step (Kd.int .i64) (w0 := w) w.heap.size (by rfl) (.tmp 34) (.tmp 39) 22 3 (.int .i64 0) 8 rfl Try.underlying22 info3 rfl (by decide) (by omega) v167 t166 y170 _ _ _ (fun k_ => (w.heap.size ≤ k_) ∧ some k_ ≠ (.slice Ao29 y170.length co29 : Value).ownBlock) (fun _ => False) rfl rfl ?aO ?aR (fun _ _ h => h) (fun _ h => h.elim) ?aF ?aB ?aS ?aL ?_
          (case aR => repeat (first | exact (Kd.R_reads' HO172.out).2.2 | (with_reducible refine Kd.C_alloc ?_ _) | (with_reducible refine Kd.C_drewN ?_ _) | (with_reducible refine Kd.C_drew ?_)))
          (case aB => exact (bb_ HB.out))
          (case aF => exact (fun k_ hk => ⟨(Nat.le_trans (bz_ (bb_ HB.out)) hk), Kd.fresh' (Kd.R_lt (Kd.pR HO172.out)) k_ hk⟩))
          (case aO => exact (Kd.pR HO168.out))
          (case aS => exact (bz_ (bb_ HB.out)))
          (case aL => have := LMc19.out; omega)
          intro v174 w28 ho hb hg hat
          rw [← Ny173.out] at ho
          have n0_ := ak_ (Kd.N_afterv (ok := (fun k_ => (w.heap.size ≤ k_) ∧ some k_ ≠ (.slice Ao29 y170.length co29 : Value).ownBlock)) (by (with_reducible repeat (first | apply Kd.N_alloc | apply Kd.N_drewN | apply Kd.N_drew)); exact Kd.N_mono HO_9.out (fun _ hk => ⟨⟨hk.1, hk.2.2⟩, hk.2.1⟩)) hg hat)
          have n1_ := ak_ (Kd.R_after (ok := (fun k_ => (w.heap.size ≤ k_))) (Kd.pR HO172.out) hg hat)
          have n2_ := ak_ (hb)
          have n3_ := ak_ (ho)
          clear HO_9 HO172 HB HO168
          have HO_9 := n0_; have HO172 := n1_; have HB := n2_; have HO175 := n3_
          clear n0_ n1_ n2_ n3_ ho hb hg hat
          obtain ⟨Ao30, co30, eo30⟩ := Kd.R_slice HO175.out
          (first | subst eo30 | (injection eo30 with f1_ f2_ f3_; have f4_ := f1_.symm; have f5_ := f3_.symm; clear f1_ f2_ f3_; subst f4_; subst f5_))
          refine hK.out _ _ (((HB.out.cell (World.block_lt_of_cell? w _ hw169_0)).trans hw169_0)) (fun hHeld => ?_)
          clear hK K
          refine nm_ ?_
          refine on_ 13 44 16 16383 (fun K hK => ?_)
          refine goes_ Try.func65 (by kernel_rfl) rfl #[.slice (some ad169) l0.length c0, .slice Ao30 y173.length co30, .int .i64 (wrap64 (x10_2 + 1)), .int .i64 a3] (by rfl) rfl rfl rs_ ?_
          with_reducible refine (ih k2 (by have := HJ4.out; have := HK2.out; omega) _ _ l0 _ _ y173 (wrap64 (x10_2 + 1)) a3 t176 _ ?side1 ?side2 ?side3 ?side4 A20.out).mono ?_
          (case side1 => exact cs_ (Kd.C_below HR0.out HB.out))
          (case side2 => exact HC0.out)
          (case side3 => exact cs_ ((Kd.R_reads' HO175.out).2.2))
          (case side4 => exact (Kd.R_reads' HO175.out).2.1)
          rintro e w31 ⟨v177, rfl, ho0, hb⟩
          refine ⟨_, rfl, ?_⟩
          have n0_ := ak_ (Kd.N_elder' (Kd.pN HO_9.out) (Kd.N_base ho0) hb)
          have n1_ := ak_ (Kd.R_below (Kd.pR HO172.out) hb)
          have n2_ := ak_ (Kd.R_below (Kd.pR HO175.out) hb)
          have n3_ := ak_ (Kd.N_lower (Kd.N_mono (ok' := fun k_ => (w.heap.size ≤ k_) ∧ some k_ ≠ (.slice Ao22 x9_2.length co22 : Value).ownBlock ∧ some k_ ≠ (.slice Ao29 y170.length co29 : Value).ownBlock ∧ some k_ ≠ (.slice Ao30 y173.length co30 : Value).ownBlock) ho0 (fun k_ hk_ => ⟨(Nat.le_trans (bz_ (bb_ HB.out)) hk_), (Kd.fresh' (Kd.N_lt (Kd.pN HO_9.out)) k_ hk_), (Kd.fresh' (Kd.R_lt (Kd.pR HO172.out)) k_ hk_), (Kd.fresh' (Kd.R_lt (Kd.pR HO175.out)) k_ hk_)⟩)) (bz_ (bb_ HB.out)))
          have n4_ := ak_ (bs_ (bb_ HB.out) hb)
          clear HO_9 HO172 HO175 HB
          have HO_9 := n0_; have HO172 := n1_; have HO175 := n2_; have HO178 := n3_; have HB := n4_
          clear n0_ n1_ n2_ n3_ n4_
          (try clear hb)
          (try clear hb2)
          (try clear hk)
          (try clear hi)
          (try clear ho0)
          obtain ⟨Ao33, co33, eo33⟩ := Kd.N_slice HO178.out
          (first | subst eo33 | (injection eo33 with f1_ f2_ f3_; have f4_ := f1_.symm; have f5_ := f3_.symm; clear f1_ f2_ f3_; subst f4_; subst f5_))
          refine hK.out _ _ (((HB.out.cell (World.block_lt_of_cell? w _ hw169_0)).trans hw169_0)) (fun hHeld => ?_)
          clear hK K
          refine nm_ ?_
          refine on_ 14 45 16 32767 (fun K hK => ?_)
          refine Kd.N_append_rows_step (Kd.slice 3 (Kd.int .i64)) (w0 := w) w.heap.size (by rfl) (.tmp 31) (.tmp 44) 57 22 (.slice none 0 0) 24 rfl Try.underlying57 info22 rfl (by decide) (by omega) (.slice Ao22 x9_2.length co22) x9_2 t176 _ _ _ (fun k_ => (w.heap.size ≤ k_) ∧ some k_ ≠ (.slice Ao29 y170.length co29 : Value).ownBlock ∧ some k_ ≠ (.slice Ao30 y173.length co30 : Value).ownBlock) (fun k_ => ((fun k_ => (w.heap.size ≤ k_) ∧ some k_ ≠ (.slice Ao29 y170.length co29 : Value).ownBlock ∧ some k_ ≠ (.slice Ao30 y173.length co30 : Value).ownBlock)) k_ ∧ some k_ ≠ (.slice Ao22 x9_2.length co22 : Value).ownBlock) rfl rfl ?aO ?aR (fun _ hk => hk) ?aF ?aB ?aS ?aL ?_
          (case aR => exact (by skip; exact Kd.N_F (Kd.N_mono (ok' := (fun k_ => ((fun k_ => (w.heap.size ≤ k_) ∧ some k_ ≠ (.slice Ao29 y170.length co29 : Value).ownBlock ∧ some k_ ≠ (.slice Ao30 y173.length co30 : Value).ownBlock)) k_ ∧ some k_ ≠ (.slice Ao22 x9_2.length co22 : Value).ownBlock)) (HO178.out) (fun k_ hk => ⟨⟨hk.1, ⟨hk.2.2.1, hk.2.2.2⟩⟩, hk.2.1⟩))))
          (case aB => exact (bb_ HB.out))
          (case aF => exact (fun k_ hk => ⟨(Nat.le_trans (bz_ (bb_ HB.out)) hk), Kd.fresh' (Kd.R_lt (Kd.pR HO172.out)) k_ hk, Kd.fresh' (Kd.R_lt (Kd.pR HO175.out)) k_ hk⟩))
          (case aO => exact (by (with_reducible repeat (first | apply Kd.N_alloc | apply Kd.N_drewN | apply Kd.N_drew)); exact Kd.N_mono HO_9.out (fun _ hk => ⟨hk.1.1.1, ⟨hk.1.1.2, hk.1.2⟩⟩)))
          (case aS => exact (bz_ (bb_ HB.out)))
          (case aL => have := LMc21.out; omega)
          intro v180 w32 ho hb hg hat
          rw [← Ny179.out] at ho
          have n0_ := ak_ (Kd.R_over' (Kd.pR HO172.out) (Kd.N_typed (Kd.pN HO_9.out)) (by decide) hg)
          have n1_ := ak_ (Kd.R_over' (Kd.pR HO175.out) (Kd.N_typed (Kd.pN HO_9.out)) (by decide) hg)
          have n2_ := ak_ (Kd.N_afterv (ok := (fun k_ => (w.heap.size ≤ k_) ∧ some k_ ≠ (.slice Ao29 y170.length co29 : Value).ownBlock ∧ some k_ ≠ (.slice Ao30 y173.length co30 : Value).ownBlock)) (by (with_reducible repeat (first | apply Kd.N_alloc | apply Kd.N_drewN | apply Kd.N_drew)); exact Kd.N_mono HO178.out (fun _ hk => ⟨⟨hk.1, ⟨hk.2.2.1, hk.2.2.2⟩⟩, hk.2.1⟩)) hg hat)
          have n3_ := ak_ (hb)
          have n4_ := ak_ (ho)
          clear HO172 HO175 HO178 HB HO_9
          have HO172 := n0_; have HO175 := n1_; have HO178 := n2_; have HB := n3_; have HO181 := n4_
          clear n0_ n1_ n2_ n3_ n4_ ho hb hg hat
          refine hK.out _ _ (((HB.out.cell (World.block_lt_of_cell? w _ hw169_0)).trans hw169_0)) (fun hHeld => ?_)
          clear hK K
          refine nm_ ?_
          refine pu_ 15 9 16 65535 ?_
          refine done_ (done_of HT_.out (by kernel_rfl)) ?_
          try go_wp2
          go_roundg k2
          case measure => have := HJ4.out; have := HK2.out; omega
          case rel => exact ⟨(y179), (wrap64 (x10_2 + 1)), (ry_), H', ⟨by have := HJ4.out; have := HK2.out; omega⟩, ⟨by (with_reducible repeat (first | apply Kd.N_alloc | apply Kd.N_drewN | apply Kd.N_drew)); exact Kd.N_mono HO181.out (fun _ hk => hk.1)⟩, ⟨bb_ HB.out⟩⟩
         ·
          rw [if_neg c21] at H
          exact absurd H (by simp)
        ·
         rw [if_neg c19] at H
         exact absurd H (by simp)
       ·
        rw [if_neg c18] at H
        exact absurd H (by simp)
      ·
       rw [if_neg c16] at H
       have c16b0 := decide_eq_false c16
       clear c16
       obtain rfl := Option.some.inj H
       go_wp2
       go_ret
       exact ⟨_, rx_, by (with_reducible repeat (first | apply Kd.N_alloc | apply Kd.N_drewN | apply Kd.N_drew)); exact HO_9.out, bb_ HB.out⟩
def spec_l1Rising.l0 : Nat → List Int → Int → Int → List Int → Int → Int → Option (Bool)
 | 0, _, _, _, _, _, _ => none
 | k + 1, x0, x1, x2, x9, x10, x11 => if x11 < x10 then (if 0 ≤ x11 then (if x11 < (x9.length : Int) then ((spec_l1In.f (rd x9 x11) x1 x2).bind fun t183 => (if t183 = true then (if x11 > 0 then (if 0 ≤ (wrap64 (x11 - 1)) then (if (wrap64 (x11 - 1)) < (x0.length : Int) then (if (rd x0 (wrap64 (x11 - 1))) ≥ (rd x9 x11) then (some false) else (spec_l1Rising.l0 k x0 x1 x2 x9 x10 (wrap64 (x11 + 1)))) else (none)) else (none)) else (spec_l1Rising.l0 k x0 x1 x2 x9 x10 (wrap64 (x11 + 1)))) else (some false))) else (none)) else (none)) else (some true)
def spec_l1Rising.f (k : Nat) (l0 : List Int) (a1 : Int) (a2 : Int) : Option (Bool) := spec_l1Rising.l0 k l0 a1 a2 l0 (l0.length : Int) 0
theorem spec_l1Rising.mono_l : ∀ k, (∀ y0 y1 y2 y3 y4 y5, LeO (spec_l1Rising.l0 k y0 y1 y2 y3 y4 y5) (spec_l1Rising.l0 (k + 1) y0 y1 y2 y3 y4 y5))
 | 0 => fun _ _ _ _ _ _ r h => by simp [spec_l1Rising.l0] at h
 | k + 1 => by
  have ih0 := spec_l1Rising.mono_l k
  ·intro y0 y1 y2 y3 y4 y5
   unfold spec_l1Rising.l0
   repeat' first
   | (with_reducible first | exact ih0 _ _ _ _ _ _ | exact LeO.refl _ | exact LeO.none _ | refine LeO.ite ?_ ?_ | refine LeO.bind ?_ (fun _ => ?_))
theorem spec_l1Rising.mono : ∀ a0 a1 a2 k, LeO (spec_l1Rising.f k a0 a1 a2) (spec_l1Rising.f (k + 1) a0 a1 a2) := by
 intro a0 a1 a2 k
 have ih0 := spec_l1Rising.mono_l k
 unfold spec_l1Rising.f
 repeat' first
  | (with_reducible first | exact ih0 _ _ _ _ _ _ | exact LeO.refl _ | exact LeO.none _ | refine LeO.ite ?_ ?_ | refine LeO.bind ?_ (fun _ => ?_))
theorem spec_l1Rising.calls (k : Nat) (A0 : Option Addr) (c0 : Nat) (l0 : List Int) (a1 : Int) (a2 : Int) (r : Bool) (w : World) (hr0 : Kd.C (Kd.int .i64) w A0 l0.length l0) (hc0 : l0.length ≤ c0) (h : spec_l1Rising.f k l0 a1 a2 = some r) :
  Calls Try.prog 102 #[.slice A0 l0.length c0, .int .i64 a1, .int .i64 a2] w fun e w' => e = .returned (.bool r) ∧ Drawn0 w w' := by
 have HR0 := ak_ hr0
 have HC0 := ak_ hc0
 clear hr0 hc0
 have H : (spec_l1Rising.l0 k l0 a1 a2 l0 (l0.length : Int) 0) = some r := h
 clear h
 have H' := ak_ H
 clear H
 go_enter Try.func102, Try.ntmps102
 go_wp2
 go_loopg [11] k (fun kq v11 w' => ∃ (x11_1 : Int), v11 = .int .i64 x11_1 ∧ Aside0 (spec_l1Rising.l0 kq l0 a1 a2 l0 (l0.length : Int) x11_1 = some r) ∧ Aside0 (kq ≤ k) ∧ Drawn0 w w')
 case atStart => exact ⟨(0), (ry_), H', ⟨Nat.le_refl _⟩, by repeat (first | exact Drawn0.refl _ | apply Drawn0.step)⟩
 case round =>
  clear H'
  try clear c1
  try clear p2
  obtain ⟨x11_1, rfl, HA, HK1, ⟨m1, rfl⟩⟩ := hrel
  cases gk with
  | zero => exact absurd HA.out (by simp [spec_l1Rising.l0])
  | succ k1 =>
   have H := HA.out
   clear HA
   simp only [spec_l1Rising.l0] at H
   by_cases c4 : x11_1 < (l0.length : Int)
   ·
    rw [if_pos c4] at H
    have c4b0 := decide_eq_true c4
    clear c4
    by_cases c5 : 0 ≤ x11_1
    ·
     rw [if_pos c5] at H
     have c5b0 := decide_eq_true c5
     clear c5
     by_cases c6 : x11_1 < (l0.length : Int)
     ·
      rw [if_pos c6] at H
      have c6b0 := decide_eq_true c6
      clear c6
      replace H := Option.bind_eq_some_iff.mp H
      obtain ⟨t183, A70, H⟩ := H
      replace H : (if t183 = true then (if x11_1 > 0 then (if 0 ≤ (wrap64 (x11_1 - 1)) then (if (wrap64 (x11_1 - 1)) < (l0.length : Int) then (if (rd l0 (wrap64 (x11_1 - 1))) ≥ (rd l0 x11_1) then (some false) else (spec_l1Rising.l0 k1 l0 a1 a2 l0 (l0.length : Int) (wrap64 (x11_1 + 1)))) else (none)) else (none)) else (spec_l1Rising.l0 k1 l0 a1 a2 l0 (l0.length : Int) (wrap64 (x11_1 + 1)))) else (some false)) = some r := H
      have A7 := ak_ A70
      clear A70
      by_cases c8 : t183 = true
      ·
       subst c8
       have H1 : (if x11_1 > 0 then (if 0 ≤ (wrap64 (x11_1 - 1)) then (if (wrap64 (x11_1 - 1)) < (l0.length : Int) then (if (rd l0 (wrap64 (x11_1 - 1))) ≥ (rd l0 x11_1) then (some false) else (spec_l1Rising.l0 k1 l0 a1 a2 l0 (l0.length : Int) (wrap64 (x11_1 + 1)))) else (none)) else (none)) else (spec_l1Rising.l0 k1 l0 a1 a2 l0 (l0.length : Int) (wrap64 (x11_1 + 1)))) = some r := by rw [if_pos rfl] at H; exact H
       clear H
       have H := H1
       clear H1
       by_cases c9 : x11_1 > 0
       ·
        rw [if_pos c9] at H
        have c9b0 : decide (0 < x11_1) = true := decide_eq_true c9
        clear c9
        obtain ⟨ji10, hji10⟩ : ∃ j_ : Int, (wrap64 (x11_1 - 1)) = j_ := ⟨_, rfl⟩
        replace H : (if 0 ≤ (ji10) then (if (ji10) < (l0.length : Int) then (if (rd l0 (ji10)) ≥ (rd l0 x11_1) then (some false) else (spec_l1Rising.l0 k1 l0 a1 a2 l0 (l0.length : Int) (wrap64 (x11_1 + 1)))) else (none)) else (none)) = some r := by first | (rw [hji10] at H; exact H) | (simp only [hji10] at H ⊢; exact H)
        (try rw [hji10] at A7)
        have hji10w : (IntKind.i64.wrap (x11_1 - 1)) = ji10 := (i64_w _).trans hji10
        by_cases c11 : 0 ≤ (ji10)
        ·
         rw [if_pos c11] at H
         have c11b0 := decide_eq_true c11
         clear c11
         by_cases c12 : (ji10) < (l0.length : Int)
         ·
          rw [if_pos c12] at H
          have c12b0 := decide_eq_true c12
          clear c12
          by_cases c13 : (rd l0 (ji10)) ≥ (rd l0 x11_1)
          ·
           rw [if_pos c13] at H
           have c13b0 : decide ((rd l0 x11_1) ≤ (rd l0 (ji10))) = true := decide_eq_true c13
           clear c13
           obtain rfl := Option.some.inj H
           have p182 : 0 ≤ (x11_1 : Int) := od_
           have q182 : x11_1 < (l0.length : Int) := od_
           obtain ⟨ad182, e182, hx182_0⟩ := Kd.at_int HR0.out x11_1 p182 q182
           cases e182
           replace p182 := eq_true p182
           replace q182 := eq_true q182
           go_wp2_with (first | ((with_reducible refine gate_callee (f := 64) rfl ?_); refine goesL_ (some 19) rfl rfl Try.func64 (by kernel_rfl) rfl #[.int .i64 (rd l0 x11_1), .int .i64 a1, .int .i64 a2] rfl rs_ ?_; (with_reducible refine (spec_l1In.calls (rd l0 x11_1) a1 a2 true _ A7.out).mono ?_); rintro e w' ⟨rfl, ⟨nd, rfl⟩⟩; refine ⟨_, rfl, ?_⟩; have p184 : 0 ≤ ((ji10) : Int) := od_; have q184 : (ji10) < (l0.length : Int) := od_; obtain ⟨ad184, e184, hx184_0⟩ := Kd.at_int HR0.out (ji10) p184 q184; obtain rfl : ad182 = ad184 := (by injection e184); replace p184 := eq_true p184; replace q184 := eq_true q184))
           go_ret
           exact ⟨by first | rfl | (simp; done) | (simp only [← hji10] <;> (first | rfl | simp)) | (simp [*]; done), by repeat (first | exact Drawn0.refl _ | apply Drawn0.step)⟩
          ·
           rw [if_neg c13] at H
           have c13b0 : decide ((rd l0 x11_1) ≤ (rd l0 (ji10))) = false := decide_eq_false c13
           clear c13
           have H' := ak_ H
           clear H
           have p182 : 0 ≤ (x11_1 : Int) := od_
           have q182 : x11_1 < (l0.length : Int) := od_
           obtain ⟨ad182, e182, hx182_0⟩ := Kd.at_int HR0.out x11_1 p182 q182
           cases e182
           replace p182 := eq_true p182
           replace q182 := eq_true q182
           go_wp2_with (first | ((with_reducible refine gate_callee (f := 64) rfl ?_); refine goesL_ (some 19) rfl rfl Try.func64 (by kernel_rfl) rfl #[.int .i64 (rd l0 x11_1), .int .i64 a1, .int .i64 a2] rfl rs_ ?_; (with_reducible refine (spec_l1In.calls (rd l0 x11_1) a1 a2 true _ A7.out).mono ?_); rintro e w' ⟨rfl, ⟨nd, rfl⟩⟩; refine ⟨_, rfl, ?_⟩; have p184 : 0 ≤ ((ji10) : Int) := od_; have q184 : (ji10) < (l0.length : Int) := od_; obtain ⟨ad184, e184, hx184_0⟩ := Kd.at_int HR0.out (ji10) p184 q184; obtain rfl : ad182 = ad184 := (by injection e184); replace p184 := eq_true p184; replace q184 := eq_true q184))
           go_roundg k1
           case measure => have := HK1.out; omega
           case rel => exact ⟨(wrap64 (x11_1 + 1)), (ry_), H', ⟨by have := HK1.out; omega⟩, by repeat (first | exact Drawn0.refl _ | apply Drawn0.step)⟩
         ·
          rw [if_neg c12] at H
          exact absurd H (by simp)
        ·
         rw [if_neg c11] at H
         exact absurd H (by simp)
       ·
        rw [if_neg c9] at H
        have c9b0 : decide (0 < x11_1) = false := decide_eq_false c9
        clear c9
        have H' := ak_ H
        clear H
        have p182 : 0 ≤ (x11_1 : Int) := od_
        have q182 : x11_1 < (l0.length : Int) := od_
        obtain ⟨ad182, e182, hx182_0⟩ := Kd.at_int HR0.out x11_1 p182 q182
        cases e182
        replace p182 := eq_true p182
        replace q182 := eq_true q182
        go_wp2_with (first | ((with_reducible refine gate_callee (f := 64) rfl ?_); refine goesL_ (some 19) rfl rfl Try.func64 (by kernel_rfl) rfl #[.int .i64 (rd l0 x11_1), .int .i64 a1, .int .i64 a2] rfl rs_ ?_; (with_reducible refine (spec_l1In.calls (rd l0 x11_1) a1 a2 true _ A7.out).mono ?_); rintro e w' ⟨rfl, ⟨nd, rfl⟩⟩; refine ⟨_, rfl, ?_⟩))
        go_roundg k1
        case measure => have := HK1.out; omega
        case rel => exact ⟨(wrap64 (x11_1 + 1)), (ry_), H', ⟨by have := HK1.out; omega⟩, by repeat (first | exact Drawn0.refl _ | apply Drawn0.step)⟩
      ·
       replace c8 := Bool.eq_false_iff.mpr c8
       subst c8
       have H1 : (some false) = some r := by rw [if_neg (show ¬ (false = true) by decide)] at H; exact H
       clear H
       have H := H1
       clear H1
       obtain rfl := Option.some.inj H
       have p182 : 0 ≤ (x11_1 : Int) := od_
       have q182 : x11_1 < (l0.length : Int) := od_
       obtain ⟨ad182, e182, hx182_0⟩ := Kd.at_int HR0.out x11_1 p182 q182
       cases e182
       replace p182 := eq_true p182
       replace q182 := eq_true q182
       go_wp2_with (first | ((with_reducible refine gate_callee (f := 64) rfl ?_); refine goesL_ (some 19) rfl rfl Try.func64 (by kernel_rfl) rfl #[.int .i64 (rd l0 x11_1), .int .i64 a1, .int .i64 a2] rfl rs_ ?_; (with_reducible refine (spec_l1In.calls (rd l0 x11_1) a1 a2 false _ A7.out).mono ?_); rintro e w' ⟨rfl, ⟨nd, rfl⟩⟩; refine ⟨_, rfl, ?_⟩))
       go_ret
       exact ⟨ry_, by repeat (first | exact Drawn0.refl _ | apply Drawn0.step)⟩
     ·
      rw [if_neg c6] at H
      exact absurd H (by simp)
    ·
     rw [if_neg c5] at H
     exact absurd H (by simp)
   ·
    rw [if_neg c4] at H
    have c4b0 := decide_eq_false c4
    clear c4
    obtain rfl := Option.some.inj H
    go_wp2
    go_ret
    exact ⟨ry_, by repeat (first | exact Drawn0.refl _ | apply Drawn0.step)⟩
def spec_cuBits.l0 : Nat → Int → List Int → Int → Int → Option (Int)
 | 0, _, _, _, _ => none
 | k + 1, x3, x6, x7, x8 => if x8 < x7 then (if 0 ≤ x8 then (if x8 < (x6.length : Int) then (if 0 ≤ (rd x6 x8) then (spec_cuBits.l0 k (Go.bits .or .i64 x3 (shl .i64 1 (rd x6 x8))) x6 x7 (wrap64 (x8 + 1))) else (none)) else (none)) else (none)) else (some x3)
def spec_cuBits.f (k : Nat) (l0 : List Int) : Option (Int) := spec_cuBits.l0 k 0 l0 (l0.length : Int) 0
theorem spec_cuBits.mono_l : ∀ k, (∀ y0 y1 y2 y3, LeO (spec_cuBits.l0 k y0 y1 y2 y3) (spec_cuBits.l0 (k + 1) y0 y1 y2 y3))
 | 0 => fun _ _ _ _ r h => by simp [spec_cuBits.l0] at h
 | k + 1 => by
  have ih0 := spec_cuBits.mono_l k
  ·intro y0 y1 y2 y3
   unfold spec_cuBits.l0
   repeat' first
   | (with_reducible first | exact ih0 _ _ _ _ | exact LeO.refl _ | exact LeO.none _ | refine LeO.ite ?_ ?_ | refine LeO.bind ?_ (fun _ => ?_))
theorem spec_cuBits.mono : ∀ a0 k, LeO (spec_cuBits.f k a0) (spec_cuBits.f (k + 1) a0) := by
 intro a0 k
 have ih0 := spec_cuBits.mono_l k
 unfold spec_cuBits.f
 repeat' first
  | (with_reducible first | exact ih0 _ _ _ _ | exact LeO.refl _ | exact LeO.none _ | refine LeO.ite ?_ ?_ | refine LeO.bind ?_ (fun _ => ?_))
theorem spec_cuBits.calls (k : Nat) (A0 : Option Addr) (c0 : Nat) (l0 : List Int) (r : Int) (w : World) (hr0 : Kd.C (Kd.int .i64) w A0 l0.length l0) (hc0 : l0.length ≤ c0) (h : spec_cuBits.f k l0 = some r) :
  Calls Try.prog 103 #[.slice A0 l0.length c0] w fun e w' => e = .returned (.int .i64 r) ∧ Drawn0 w w' := by
 have HR0 := ak_ hr0
 have HC0 := ak_ hc0
 clear hr0 hc0
 have H : (spec_cuBits.l0 k 0 l0 (l0.length : Int) 0) = some r := h
 clear h
 have H' := ak_ H
 clear H
 go_enter Try.func103, Try.ntmps103
 go_wp2
 go_loopg [3, 8] k (fun kq v3 v8 w' => ∃ (x3_1 : Int) (x8_1 : Int), v3 = .int .i64 x3_1 ∧ v8 = .int .i64 x8_1 ∧ Aside0 (spec_cuBits.l0 kq x3_1 l0 (l0.length : Int) x8_1 = some r) ∧ Aside0 (kq ≤ k) ∧ Drawn0 w w')
 case atStart => exact ⟨(0), (0), (ry_), (ry_), H', ⟨Nat.le_refl _⟩, by repeat (first | exact Drawn0.refl _ | apply Drawn0.step)⟩
 case round =>
  clear H'
  try clear c1
  obtain ⟨x3_1, x8_1, rfl, rfl, HA, HK1, ⟨m1, rfl⟩⟩ := hrel
  cases gk with
  | zero => exact absurd HA.out (by simp [spec_cuBits.l0])
  | succ k1 =>
   have H := HA.out
   clear HA
   simp only [spec_cuBits.l0] at H
   by_cases c2 : x8_1 < (l0.length : Int)
   ·
    rw [if_pos c2] at H
    have c2b0 := decide_eq_true c2
    clear c2
    by_cases c3 : 0 ≤ x8_1
    ·
     rw [if_pos c3] at H
     have c3b0 := decide_eq_true c3
     clear c3
     by_cases c4 : x8_1 < (l0.length : Int)
     ·
      rw [if_pos c4] at H
      have c4b0 := decide_eq_true c4
      clear c4
      by_cases c5 : 0 ≤ (rd l0 x8_1)
      ·
       rw [if_pos c5] at H
       have c5b0 := eq_true c5
       have c5b1 := decide_eq_true c5
       clear c5
       obtain ⟨ji6, hji6⟩ : ∃ j_ : Int, (shl .i64 1 (rd l0 x8_1)) = j_ := ⟨_, rfl⟩
       replace H : (spec_cuBits.l0 k1 (Go.bits .or .i64 x3_1 (ji6)) l0 (l0.length : Int) (wrap64 (x8_1 + 1))) = some r := by first | (rw [hji6] at H; exact H) | (simp only [hji6] at H ⊢; exact H)
       have hji6_ : (IntKind.i64.wrap (1 * 2 ^ min (rd l0 x8_1).toNat 64)) = ji6 := hji6
       have hji6z : (rd l0 x8_1) ≤ 64 → (IntKind.i64.wrap (1 * 2 ^ (rd l0 x8_1).toNat)) = ji6 := shl_small hji6
       have hji6u : (IntKind.i64.wrap (2 ^ min (rd l0 x8_1).toNat 64)) = ji6 := by have h_ := hji6_; rw [Int.one_mul] at h_; exact h_
       have hji6v : (rd l0 x8_1) ≤ 64 → (IntKind.i64.wrap (2 ^ (rd l0 x8_1).toNat)) = ji6 := fun hle_ => by have h_ := hji6z hle_; rw [Int.one_mul] at h_; exact h_
       have hji6y : (wrap64 (1 * 2 ^ min (rd l0 x8_1).toNat 64)) = ji6 := (i64_w _).symm.trans hji6_
       have hji6x : (rd l0 x8_1) ≤ 64 → (wrap64 (1 * 2 ^ (rd l0 x8_1).toNat)) = ji6 := fun h_ => (i64_w _).symm.trans (hji6z h_)
       have H' := ak_ H
       clear H
       have p185 : 0 ≤ (x8_1 : Int) := od_
       have q185 : x8_1 < (l0.length : Int) := od_
       obtain ⟨ad185, e185, hx185_0⟩ := Kd.at_int HR0.out x8_1 p185 q185
       cases e185
       replace p185 := eq_true p185
       replace q185 := eq_true q185
       go_wp2
       go_roundg k1
       case measure => have := HK1.out; omega
       case rel => exact ⟨(Go.bits .or .i64 x3_1 (ji6)), (wrap64 (x8_1 + 1)), (by first | rfl | (simp; done) | (simp only [← hji6] <;> (first | rfl | simp)) | (simp [*]; done)), (ry_), H', ⟨by have := HK1.out; omega⟩, by repeat (first | exact Drawn0.refl _ | apply Drawn0.step)⟩
      ·
       rw [if_neg c5] at H
       exact absurd H (by simp)
     ·
      rw [if_neg c4] at H
      exact absurd H (by simp)
    ·
     rw [if_neg c3] at H
     exact absurd H (by simp)
   ·
    rw [if_neg c2] at H
    have c2b0 := decide_eq_false c2
    clear c2
    obtain rfl := Option.some.inj H
    go_wp2
    go_ret
    exact ⟨ry_, by repeat (first | exact Drawn0.refl _ | apply Drawn0.step)⟩
def spec_toGroups.l0 : Nat → Int → List (List Int) → Int → Int → List Int → Int → Int → Option (Bool)
 | 0, _, _, _, _, _, _, _ => none
 | k + 1, x5, x14, x15, x16, x187000, x187001, x187002 => if x16 < x15 then (if 0 ≤ x16 then (if x16 < (x14.length : Int) then ((spec_l1In.f ((rd_L2 x14 x16).length : Int) 1 x187001).bind fun t189 => (if t189 = true then ((spec_l1Rising.f k (rd_L2 x14 x16) 0 (wrap64 ((x187000.length : Int) - 1))).bind fun t190 => (if t190 = true then ((spec_cuBits.f k (rd_L2 x14 x16)).bind fun t191 => (if (Go.bits .and .i64 x5 t191) = 0 then ((spec_cuBits.f k (rd_L2 x14 x16)).bind fun t192 => (spec_toGroups.l0 k (Go.bits .or .i64 x5 t192) x14 x15 (wrap64 (x16 + 1)) x187000 x187001 x187002)) else (some false))) else (some false))) else (some false))) else (none)) else (none)) else (some true)
def spec_toGroups.f (k : Nat) (l0_0 : List Int) (a0_1 : Int) (a0_2 : Int) (l1 : List (List Int)) : Option (Bool) := (spec_l1In.f (l1.length : Int) 1 a0_2).bind fun t187 => (if t187 = true then (spec_toGroups.l0 k 0 l1 (l1.length : Int) 0 l0_0 a0_1 a0_2) else (some false))
theorem spec_toGroups.mono_l : ∀ k, (∀ y0 y1 y2 y3 y4 y5 y6, LeO (spec_toGroups.l0 k y0 y1 y2 y3 y4 y5 y6) (spec_toGroups.l0 (k + 1) y0 y1 y2 y3 y4 y5 y6))
 | 0 => fun _ _ _ _ _ _ _ r h => by simp [spec_toGroups.l0] at h
 | k + 1 => by
  have ih0 := spec_toGroups.mono_l k
  ·intro y0 y1 y2 y3 y4 y5 y6
   unfold spec_toGroups.l0
   repeat' first
   | (with_reducible first | exact ih0 _ _ _ _ _ _ _ | exact spec_cuBits.mono _ _ | exact spec_l1Rising.mono _ _ _ _ | exact LeO.refl _ | exact LeO.none _ | refine LeO.ite ?_ ?_ | refine LeO.bind ?_ (fun _ => ?_))
theorem spec_toGroups.mono : ∀ a0 a1 a2 a3 k, LeO (spec_toGroups.f k a0 a1 a2 a3) (spec_toGroups.f (k + 1) a0 a1 a2 a3) := by
 intro a0 a1 a2 a3 k
 have ih0 := spec_toGroups.mono_l k
 unfold spec_toGroups.f
 repeat' first
  | (with_reducible first | exact ih0 _ _ _ _ _ _ _ | exact spec_cuBits.mono _ _ | exact spec_l1Rising.mono _ _ _ _ | exact LeO.refl _ | exact LeO.none _ | refine LeO.ite ?_ ?_ | refine LeO.bind ?_ (fun _ => ?_))
theorem spec_toGroups.calls (k : Nat) (A0_0 : Option Addr) (c0_0 : Nat) (l0_0 : List Int) (a0_1 : Int) (a0_2 : Int) (A1 : Option Addr) (c1 : Nat) (l1 : List (List Int)) (r : Bool) (w : World) (hr0_0 : Kd.C (Kd.int .i64) w A0_0 l0_0.length l0_0) (hc0_0 : l0_0.length ≤ c0_0) (hr1 : Kd.C (Kd.slice 3 (Kd.int .i64)) w A1 l1.length l1) (hc1 : l1.length ≤ c1) (h : spec_toGroups.f k l0_0 a0_1 a0_2 l1 = some r) :
  Calls Try.prog 85 #[.agg #[.slice A0_0 l0_0.length c0_0, .int .i64 a0_1, .int .i64 a0_2], .slice A1 l1.length c1] w fun e w' => e = .returned (.bool r) ∧ Below w.heap.size w w' := by
 have hu33 := Try.underlying33
 have HR0_0 := ak_ hr0_0
 have HC0_0 := ak_ hc0_0
 clear hr0_0 hc0_0
 have HR1 := ak_ hr1
 have HC1 := ak_ hc1
 clear hr1 hc1
 have HB := ak_ (Below.refl w.heap.size w)
 have H : ((spec_l1In.f (l1.length : Int) 1 a0_2).bind fun t187 => (if t187 = true then (spec_toGroups.l0 k 0 l1 (l1.length : Int) 0 l0_0 a0_1 a0_2) else (some false))) = some r := h
 clear h
 replace H := Option.bind_eq_some_iff.mp H
 obtain ⟨t187, A30, H⟩ := H
 replace H : (if t187 = true then (spec_toGroups.l0 k 0 l1 (l1.length : Int) 0 l0_0 a0_1 a0_2) else (some false)) = some r := H
 have A3 := ak_ A30
 clear A30
 by_cases c4 : t187 = true
 ·
  subst c4
  have H1 : (spec_toGroups.l0 k 0 l1 (l1.length : Int) 0 l0_0 a0_1 a0_2) = some r := by rw [if_pos rfl] at H; exact H
  clear H
  have H := H1
  clear H1
  have H' := ak_ H
  clear H
  go_enter Try.func85, Try.ntmps85
  go_wp2_with (first | ((with_reducible refine gate_dst (N := 2) rfl ?_); (try (refine gate_guard (by rfl) ?_; dsimp only)); refine bx_ 2 #[.slice A0_0 l0_0.length c0_0, .int .i64 a0_1, .int .i64 a0_2] 33 ?_; intro gb186 hg w5 hbox hb; have BK186 := ak_ (hbox); have GW186 := ak_ ((by rw [hg]; exact (bz_ (bb_ HB.out)) : w.heap.size ≤ gb186)); replace HB := ak_ (bs_ (bb_ HB.out) hb); have GE186 := GW186; clear hb hbox hg; obtain ⟨hcz6_0, hcz6_1, hcz6_2, hfz6_0, hfz6_1, hfz6_2⟩ := c3_ BK186.out) | ((with_reducible refine gate_callee (f := 64) rfl ?_); refine goesL_ (some 12) rfl rfl Try.func64 (by kernel_rfl) rfl #[.int .i64 (l1.length : Int), .int .i64 1, .int .i64 a0_2] rfl rs_ ?_; (with_reducible refine (spec_l1In.calls (l1.length : Int) 1 a0_2 true _ A3.out).mono ?_); rintro e w' ⟨rfl, ⟨nd, rfl⟩⟩; refine ⟨_, rfl, ?_⟩))
  go_loopg [5, 16] k (fun kq v5 v16 w' => ∃ (x5_1 : Int) (x16_1 : Int), v5 = .int .i64 x5_1 ∧ v16 = .int .i64 x16_1 ∧ Aside0 (spec_toGroups.l0 kq x5_1 l1 (l1.length : Int) x16_1 l0_0 a0_1 a0_2 = some r) ∧ Aside0 (kq ≤ k) ∧ Aside0 (w'.heap[gb186]? = some (.cells #[(.slice A0_0 l0_0.length c0_0), .int .i64 a0_1, .int .i64 a0_2] 33 (0, 0))) ∧ Aside0 (Below w.heap.size w w'))
  case atStart => exact ⟨(0), (0), (ry_), (ry_), H', ⟨Nat.le_refl _⟩, ⟨pk BK186.out⟩, ⟨bl_⟩⟩
  case round =>
   clear H'
   try clear c1
   try clear p2
   try clear c4
   try clear c6
   try clear hcz6_0
   try clear hcz6_1
   try clear hcz6_2
   try clear hfz6_0
   try clear hfz6_1
   try clear hfz6_2
   obtain ⟨x5_1, x16_1, rfl, rfl, HA, HK1, BK186, HB⟩ := hrel
   cases gk with
   | zero => exact absurd HA.out (by simp [spec_toGroups.l0])
   | succ k1 =>
    have H := HA.out
    clear HA
    simp only [spec_toGroups.l0] at H
    by_cases c7 : x16_1 < (l1.length : Int)
    ·
     rw [if_pos c7] at H
     have c7b0 := decide_eq_true c7
     clear c7
     by_cases c8 : 0 ≤ x16_1
     ·
      rw [if_pos c8] at H
      have c8b0 := decide_eq_true c8
      clear c8
      by_cases c9 : x16_1 < (l1.length : Int)
      ·
       rw [if_pos c9] at H
       have c9b0 := decide_eq_true c9
       clear c9
       replace H := Option.bind_eq_some_iff.mp H
       obtain ⟨t189, A100, H⟩ := H
       replace H : (if t189 = true then ((spec_l1Rising.f k1 (rd_L2 l1 x16_1) 0 (wrap64 ((l0_0.length : Int) - 1))).bind fun t190 => (if t190 = true then ((spec_cuBits.f k1 (rd_L2 l1 x16_1)).bind fun t191 => (if (Go.bits .and .i64 x5_1 t191) = 0 then ((spec_cuBits.f k1 (rd_L2 l1 x16_1)).bind fun t192 => (spec_toGroups.l0 k1 (Go.bits .or .i64 x5_1 t192) l1 (l1.length : Int) (wrap64 (x16_1 + 1)) l0_0 a0_1 a0_2)) else (some false))) else (some false))) else (some false)) = some r := H
       have A10 := ak_ A100
       clear A100
       by_cases c11 : t189 = true
       ·
        subst c11
        have H1 : ((spec_l1Rising.f k1 (rd_L2 l1 x16_1) 0 (wrap64 ((l0_0.length : Int) - 1))).bind fun t190 => (if t190 = true then ((spec_cuBits.f k1 (rd_L2 l1 x16_1)).bind fun t191 => (if (Go.bits .and .i64 x5_1 t191) = 0 then ((spec_cuBits.f k1 (rd_L2 l1 x16_1)).bind fun t192 => (spec_toGroups.l0 k1 (Go.bits .or .i64 x5_1 t192) l1 (l1.length : Int) (wrap64 (x16_1 + 1)) l0_0 a0_1 a0_2)) else (some false))) else (some false))) = some r := by rw [if_pos rfl] at H; exact H
        clear H
        have H := H1
        clear H1
        replace H := Option.bind_eq_some_iff.mp H
        obtain ⟨t190, A120, H⟩ := H
        replace H : (if t190 = true then ((spec_cuBits.f k1 (rd_L2 l1 x16_1)).bind fun t191 => (if (Go.bits .and .i64 x5_1 t191) = 0 then ((spec_cuBits.f k1 (rd_L2 l1 x16_1)).bind fun t192 => (spec_toGroups.l0 k1 (Go.bits .or .i64 x5_1 t192) l1 (l1.length : Int) (wrap64 (x16_1 + 1)) l0_0 a0_1 a0_2)) else (some false))) else (some false)) = some r := H
        have A12 := ak_ A120
        clear A120
        by_cases c13 : t190 = true
        ·
         subst c13
         have H1 : ((spec_cuBits.f k1 (rd_L2 l1 x16_1)).bind fun t191 => (if (Go.bits .and .i64 x5_1 t191) = 0 then ((spec_cuBits.f k1 (rd_L2 l1 x16_1)).bind fun t192 => (spec_toGroups.l0 k1 (Go.bits .or .i64 x5_1 t192) l1 (l1.length : Int) (wrap64 (x16_1 + 1)) l0_0 a0_1 a0_2)) else (some false))) = some r := by rw [if_pos rfl] at H; exact H
         clear H
         have H := H1
         clear H1
         replace H := Option.bind_eq_some_iff.mp H
         obtain ⟨t191, A140, H⟩ := H
         replace H : (if (Go.bits .and .i64 x5_1 t191) = 0 then ((spec_cuBits.f k1 (rd_L2 l1 x16_1)).bind fun t192 => (spec_toGroups.l0 k1 (Go.bits .or .i64 x5_1 t192) l1 (l1.length : Int) (wrap64 (x16_1 + 1)) l0_0 a0_1 a0_2)) else (some false)) = some r := H
         have A14 := ak_ A140
         clear A140
         by_cases c15 : (Go.bits .and .i64 x5_1 t191) = 0
         ·
          rw [if_pos c15] at H
          have c15b0 : ((Go.bits .and .i64 x5_1 t191) == 0) = true := beq_iff_eq.mpr c15
          have c15b1 : ((Go.bits .and .i64 x5_1 t191) != 0) = false := bne_eq_false_iff_eq.mpr c15
          clear c15
          replace H := Option.bind_eq_some_iff.mp H
          obtain ⟨t192, A160, H⟩ := H
          replace H : (spec_toGroups.l0 k1 (Go.bits .or .i64 x5_1 t192) l1 (l1.length : Int) (wrap64 (x16_1 + 1)) l0_0 a0_1 a0_2) = some r := H
          have A16 := ak_ A160
          clear A160
          have H' := ak_ H
          clear H
          have p188 : 0 ≤ (x16_1 : Int) := od_
          have q188 : x16_1 < (l1.length : Int) := od_
          obtain ⟨ad188, A188_0, c188_0, e188, hx188_0, hl188_0, hi188_0⟩ := at_L2 HR1.out x16_1 p188 q188
          cases e188
          try replace hx188_0 := (HB.out.cell (World.block_lt_of_cell? w _ hx188_0)).trans hx188_0
          have HR188_0 := ak_ hi188_0
          have HC188_0 := ak_ hl188_0
          clear hi188_0 hl188_0
          replace p188 := eq_true p188
          replace q188 := eq_true q188
          obtain ⟨hcz17_0, hcz17_1, hcz17_2, hfz17_0, hfz17_1, hfz17_2⟩ := c3_ BK186.out
          go_wp2_with (first | ((with_reducible refine gate_callee (f := 64) rfl ?_); refine goesL_ (some 24) rfl rfl Try.func64 (by kernel_rfl) rfl #[.int .i64 ((rd_L2 l1 x16_1).length : Int), .int .i64 1, .int .i64 a0_1] rfl rs_ ?_; (with_reducible refine (spec_l1In.calls ((rd_L2 l1 x16_1).length : Int) 1 a0_1 true _ A10.out).mono ?_); rintro e w' ⟨rfl, ⟨nd, rfl⟩⟩; refine ⟨_, rfl, ?_⟩) | (go_at_call 102; (with_reducible refine (spec_l1Rising.calls k1 _ _ (rd_L2 l1 x16_1) 0 (wrap64 ((l0_0.length : Int) - 1)) true _ ?side1 ?side2 A12.out).mono ?_); (case side1 => exact cs_ (Kd.C_below HR188_0.out bl_)); (case side2 => exact HC188_0.out); rintro e w' ⟨rfl, ⟨nd, rfl⟩⟩) | (go_at_call 103; (with_reducible refine (spec_cuBits.calls k1 _ _ (rd_L2 l1 x16_1) t191 _ ?side1 ?side2 A14.out).mono ?_); (case side1 => exact cs_ (Kd.C_below HR188_0.out bl_)); (case side2 => exact HC188_0.out); rintro e w' ⟨rfl, ⟨nd, rfl⟩⟩) | ((with_reducible refine gate_callee (f := 103) rfl ?_); refine goesL_ (some 44) rfl rfl Try.func103 (by kernel_rfl) rfl #[.slice A188_0 (rd_L2 l1 x16_1).length c188_0] rfl rs_ ?_; (with_reducible refine (spec_cuBits.calls k1 _ _ (rd_L2 l1 x16_1) t192 _ ?side1 ?side2 A16.out).mono ?_); (case side1 => exact cs_ (Kd.C_below HR188_0.out bl_)); (case side2 => exact HC188_0.out); rintro e w' ⟨rfl, ⟨nd, rfl⟩⟩; refine ⟨_, rfl, ?_⟩))
          go_roundg k1
          case measure => have := HK1.out; omega
          case rel => exact ⟨(Go.bits .or .i64 x5_1 t192), (wrap64 (x16_1 + 1)), (ry_), (ry_), H', ⟨by have := HK1.out; omega⟩, ⟨pk BK186.out⟩, ⟨bl_⟩⟩
         ·
          rw [if_neg c15] at H
          have c15b0 : ((Go.bits .and .i64 x5_1 t191) == 0) = false := beq_eq_false_iff_ne.mpr c15
          have c15b1 : ((Go.bits .and .i64 x5_1 t191) != 0) = true := bne_iff_ne.mpr c15
          obtain rfl := Option.some.inj H
          have p188 : 0 ≤ (x16_1 : Int) := od_
          have q188 : x16_1 < (l1.length : Int) := od_
          obtain ⟨ad188, A188_0, c188_0, e188, hx188_0, hl188_0, hi188_0⟩ := at_L2 HR1.out x16_1 p188 q188
          cases e188
          try replace hx188_0 := (HB.out.cell (World.block_lt_of_cell? w _ hx188_0)).trans hx188_0
          have HR188_0 := ak_ hi188_0
          have HC188_0 := ak_ hl188_0
          clear hi188_0 hl188_0
          replace p188 := eq_true p188
          replace q188 := eq_true q188
          obtain ⟨hcz18_0, hcz18_1, hcz18_2, hfz18_0, hfz18_1, hfz18_2⟩ := c3_ BK186.out
          go_wp2_with (first | ((with_reducible refine gate_callee (f := 64) rfl ?_); refine goesL_ (some 24) rfl rfl Try.func64 (by kernel_rfl) rfl #[.int .i64 ((rd_L2 l1 x16_1).length : Int), .int .i64 1, .int .i64 a0_1] rfl rs_ ?_; (with_reducible refine (spec_l1In.calls ((rd_L2 l1 x16_1).length : Int) 1 a0_1 true _ A10.out).mono ?_); rintro e w' ⟨rfl, ⟨nd, rfl⟩⟩; refine ⟨_, rfl, ?_⟩) | (go_at_call 102; (with_reducible refine (spec_l1Rising.calls k1 _ _ (rd_L2 l1 x16_1) 0 (wrap64 ((l0_0.length : Int) - 1)) true _ ?side1 ?side2 A12.out).mono ?_); (case side1 => exact cs_ (Kd.C_below HR188_0.out bl_)); (case side2 => exact HC188_0.out); rintro e w' ⟨rfl, ⟨nd, rfl⟩⟩) | (go_at_call 103; (with_reducible refine (spec_cuBits.calls k1 _ _ (rd_L2 l1 x16_1) t191 _ ?side1 ?side2 A14.out).mono ?_); (case side1 => exact cs_ (Kd.C_below HR188_0.out bl_)); (case side2 => exact HC188_0.out); rintro e w' ⟨rfl, ⟨nd, rfl⟩⟩))
          go_ret
          exact ⟨rx_, bl_⟩
        ·
         replace c13 := Bool.eq_false_iff.mpr c13
         subst c13
         have H1 : (some false) = some r := by rw [if_neg (show ¬ (false = true) by decide)] at H; exact H
         clear H
         have H := H1
         clear H1
         obtain rfl := Option.some.inj H
         have p188 : 0 ≤ (x16_1 : Int) := od_
         have q188 : x16_1 < (l1.length : Int) := od_
         obtain ⟨ad188, A188_0, c188_0, e188, hx188_0, hl188_0, hi188_0⟩ := at_L2 HR1.out x16_1 p188 q188
         cases e188
         try replace hx188_0 := (HB.out.cell (World.block_lt_of_cell? w _ hx188_0)).trans hx188_0
         have HR188_0 := ak_ hi188_0
         have HC188_0 := ak_ hl188_0
         clear hi188_0 hl188_0
         replace p188 := eq_true p188
         replace q188 := eq_true q188
         obtain ⟨hcz19_0, hcz19_1, hcz19_2, hfz19_0, hfz19_1, hfz19_2⟩ := c3_ BK186.out
         go_wp2_with (first | ((with_reducible refine gate_callee (f := 64) rfl ?_); refine goesL_ (some 24) rfl rfl Try.func64 (by kernel_rfl) rfl #[.int .i64 ((rd_L2 l1 x16_1).length : Int), .int .i64 1, .int .i64 a0_1] rfl rs_ ?_; (with_reducible refine (spec_l1In.calls ((rd_L2 l1 x16_1).length : Int) 1 a0_1 true _ A10.out).mono ?_); rintro e w' ⟨rfl, ⟨nd, rfl⟩⟩; refine ⟨_, rfl, ?_⟩) | (go_at_call 102; (with_reducible refine (spec_l1Rising.calls k1 _ _ (rd_L2 l1 x16_1) 0 (wrap64 ((l0_0.length : Int) - 1)) false _ ?side1 ?side2 A12.out).mono ?_); (case side1 => exact cs_ (Kd.C_below HR188_0.out bl_)); (case side2 => exact HC188_0.out); rintro e w' ⟨rfl, ⟨nd, rfl⟩⟩))
         go_ret
         exact ⟨rx_, bl_⟩
       ·
        replace c11 := Bool.eq_false_iff.mpr c11
        subst c11
        have H1 : (some false) = some r := by rw [if_neg (show ¬ (false = true) by decide)] at H; exact H
        clear H
        have H := H1
        clear H1
        obtain rfl := Option.some.inj H
        have p188 : 0 ≤ (x16_1 : Int) := od_
        have q188 : x16_1 < (l1.length : Int) := od_
        obtain ⟨ad188, A188_0, c188_0, e188, hx188_0, hl188_0, hi188_0⟩ := at_L2 HR1.out x16_1 p188 q188
        cases e188
        try replace hx188_0 := (HB.out.cell (World.block_lt_of_cell? w _ hx188_0)).trans hx188_0
        have HR188_0 := ak_ hi188_0
        have HC188_0 := ak_ hl188_0
        clear hi188_0 hl188_0
        replace p188 := eq_true p188
        replace q188 := eq_true q188
        obtain ⟨hcz20_0, hcz20_1, hcz20_2, hfz20_0, hfz20_1, hfz20_2⟩ := c3_ BK186.out
        go_wp2_with (first | ((with_reducible refine gate_callee (f := 64) rfl ?_); refine goesL_ (some 24) rfl rfl Try.func64 (by kernel_rfl) rfl #[.int .i64 ((rd_L2 l1 x16_1).length : Int), .int .i64 1, .int .i64 a0_1] rfl rs_ ?_; (with_reducible refine (spec_l1In.calls ((rd_L2 l1 x16_1).length : Int) 1 a0_1 false _ A10.out).mono ?_); rintro e w' ⟨rfl, ⟨nd, rfl⟩⟩; refine ⟨_, rfl, ?_⟩))
        go_ret
        exact ⟨rx_, bl_⟩
      ·
       rw [if_neg c9] at H
       exact absurd H (by simp)
     ·
      rw [if_neg c8] at H
      exact absurd H (by simp)
    ·
     rw [if_neg c7] at H
     have c7b0 := decide_eq_false c7
     clear c7
     obtain rfl := Option.some.inj H
     go_wp2
     go_ret
     exact ⟨rx_, bl_⟩
 ·
  replace c4 := Bool.eq_false_iff.mpr c4
  subst c4
  have H1 : (some false) = some r := by rw [if_neg (show ¬ (false = true) by decide)] at H; exact H
  clear H
  have H := H1
  clear H1
  obtain rfl := Option.some.inj H
  go_enter Try.func85, Try.ntmps85
  go_wp2_with (first | ((with_reducible refine gate_dst (N := 2) rfl ?_); (try (refine gate_guard (by rfl) ?_; dsimp only)); refine bx_ 2 #[.slice A0_0 l0_0.length c0_0, .int .i64 a0_1, .int .i64 a0_2] 33 ?_; intro gb186 hg w21 hbox hb; have BK186 := ak_ (hbox); have GW186 := ak_ ((by rw [hg]; exact (bz_ (bb_ HB.out)) : w.heap.size ≤ gb186)); replace HB := ak_ (bs_ (bb_ HB.out) hb); have GE186 := GW186; clear hb hbox hg; obtain ⟨hcz22_0, hcz22_1, hcz22_2, hfz22_0, hfz22_1, hfz22_2⟩ := c3_ BK186.out) | ((with_reducible refine gate_callee (f := 64) rfl ?_); refine goesL_ (some 12) rfl rfl Try.func64 (by kernel_rfl) rfl #[.int .i64 (l1.length : Int), .int .i64 1, .int .i64 a0_2] rfl rs_ ?_; (with_reducible refine (spec_l1In.calls (l1.length : Int) 1 a0_2 false _ A3.out).mono ?_); rintro e w' ⟨rfl, ⟨nd, rfl⟩⟩; refine ⟨_, rfl, ?_⟩))
  go_ret
  exact ⟨rx_, bl_⟩
mutual
def spec_cuBefore.l0 : Nat → List Int → List Int → Int → Option (Bool)
 | 0, _, _, _ => none
 | k + 1, x0, x1, x5 => if x5 < (x0.length : Int) then (spec_cuBefore.j1 k x0 x1 x5 (decide (x5 < (x1.length : Int)))) else (spec_cuBefore.j1 k x0 x1 x5 false)
def spec_cuBefore.j1 : Nat → List Int → List Int → Int → Bool → Option (Bool)
 | 0, _, _, _, _ => none
 | k + 1, x0, x1, x5, x15 => if x15 = true then (if 0 ≤ x5 then (if x5 < (x0.length : Int) then (if x5 < (x1.length : Int) then (if (rd x0 x5) = (rd x1 x5) then (spec_cuBefore.l0 k x0 x1 (wrap64 (x5 + 1))) else (some (decide ((rd x0 x5) < (rd x1 x5))))) else (none)) else (none)) else (none)) else (some (decide ((x0.length : Int) < (x1.length : Int))))
end
def spec_cuBefore.f (k : Nat) (l0 : List Int) (l1 : List Int) : Option (Bool) := spec_cuBefore.l0 k l0 l1 0
theorem spec_cuBefore.mono_l : ∀ k, (∀ y0 y1 y2, LeO (spec_cuBefore.l0 k y0 y1 y2) (spec_cuBefore.l0 (k + 1) y0 y1 y2)) ∧ (∀ y0 y1 y2 y3, LeO (spec_cuBefore.j1 k y0 y1 y2 y3) (spec_cuBefore.j1 (k + 1) y0 y1 y2 y3))
 | 0 => ⟨fun _ _ _ r h => by simp [spec_cuBefore.l0] at h, fun _ _ _ _ r h => by simp [spec_cuBefore.j1] at h⟩
 | k + 1 => by
  obtain ⟨ih0, ih1⟩ := spec_cuBefore.mono_l k
  refine ⟨?_, ?_⟩
  ·intro y0 y1 y2
   unfold spec_cuBefore.l0
   repeat' first
   | (with_reducible first | exact ih0 _ _ _ | exact ih1 _ _ _ _ | exact LeO.refl _ | exact LeO.none _ | refine LeO.ite ?_ ?_ | refine LeO.bind ?_ (fun _ => ?_))
  ·intro y0 y1 y2 y3
   unfold spec_cuBefore.j1
   repeat' first
   | (with_reducible first | exact ih0 _ _ _ | exact ih1 _ _ _ _ | exact LeO.refl _ | exact LeO.none _ | refine LeO.ite ?_ ?_ | refine LeO.bind ?_ (fun _ => ?_))
theorem spec_cuBefore.mono : ∀ a0 a1 k, LeO (spec_cuBefore.f k a0 a1) (spec_cuBefore.f (k + 1) a0 a1) := by
 intro a0 a1 k
 obtain ⟨ih0, ih1⟩ := spec_cuBefore.mono_l k
 unfold spec_cuBefore.f
 repeat' first
  | (with_reducible first | exact ih0 _ _ _ | exact ih1 _ _ _ _ | exact LeO.refl _ | exact LeO.none _ | refine LeO.ite ?_ ?_ | refine LeO.bind ?_ (fun _ => ?_))
theorem spec_cuBefore.calls (k : Nat) (A0 : Option Addr) (c0 : Nat) (l0 : List Int) (A1 : Option Addr) (c1 : Nat) (l1 : List Int) (r : Bool) (w : World) (hr0 : Kd.C (Kd.int .i64) w A0 l0.length l0) (hc0 : l0.length ≤ c0) (hr1 : Kd.C (Kd.int .i64) w A1 l1.length l1) (hc1 : l1.length ≤ c1) (h : spec_cuBefore.f k l0 l1 = some r) :
  Calls Try.prog 86 #[.slice A0 l0.length c0, .slice A1 l1.length c1] w fun e w' => e = .returned (.bool r) ∧ Drawn0 w w' := by
 have HR0 := ak_ hr0
 have HC0 := ak_ hc0
 clear hr0 hc0
 have HR1 := ak_ hr1
 have HC1 := ak_ hc1
 clear hr1 hc1
 have H : (spec_cuBefore.l0 k l0 l1 0) = some r := h
 clear h
 have H' := ak_ H
 clear H
 go_enter Try.func86, Try.ntmps86
 go_wp2
 repeat (go_quiet (fail); try go_wp2)
 go_loopg [5] k (fun kq v5 w' => ∃ (x5_1 : Int), v5 = .int .i64 x5_1 ∧ Aside0 (spec_cuBefore.l0 kq l0 l1 x5_1 = some r) ∧ Aside0 (kq ≤ k) ∧ Drawn0 w w')
 case atStart => exact ⟨(0), (ry_), H', ⟨Nat.le_refl _⟩, by repeat (first | exact Drawn0.refl _ | apply Drawn0.step)⟩
 case round =>
  clear H'
  try clear c1
  try clear p2
  obtain ⟨x5_1, rfl, HA, HK1, ⟨m1, rfl⟩⟩ := hrel
  cases gk with
  | zero => exact absurd HA.out (by simp [spec_cuBefore.l0])
  | succ k1 =>
   have H := HA.out
   clear HA
   simp only [spec_cuBefore.l0] at H
   have HC3 := ak_ H
   clear H
   go_upto_region 2 with (fail)
   repeat (go_quiet (fail); go_upto_region 2 with (fail))
   go_cut [15] (fun v15 wc => ∃ (kq : Nat) (x15_2 : Bool), v15 = .bool x15_2 ∧ Aside0 (spec_cuBefore.j1 kq l0 l1 x5_1 x15_2 = some r) ∧ Aside0 (kq ≤ k1) ∧ Drawn0 w wc)
   case first =>
    have H := HC3.out
    clear HC3
    by_cases c4 : x5_1 < (l0.length : Int)
    ·
     rw [if_pos c4] at H
     have c4b0 := decide_eq_true c4
     clear c4
     (first | rw [c4b0] | (simp only [i64_w, i32_w]; rw [c4b0]) | rw [c4b1] | skip)
     have H' := ak_ H
     clear H
     go_wp2
     repeat (go_quiet (fail); try go_wp2)
     go_meet
     case rel => exact ⟨_, (decide (x5_1 < (l1.length : Int))), (ry_), H', ⟨by have := HK1.out; first | omega | exact Nat.le_refl _⟩, by repeat (first | exact Drawn0.refl _ | apply Drawn0.step)⟩
    ·
     rw [if_neg c4] at H
     have c4b0 := decide_eq_false c4
     clear c4
     (first | rw [c4b0] | (simp only [i64_w, i32_w]; rw [c4b0]) | rw [c4b1] | skip)
     have H' := ak_ H
     clear H
     go_wp2
     repeat (go_quiet (fail); try go_wp2)
     go_meet
     case rel => exact ⟨_, (false), (ry_), H', ⟨by have := HK1.out; first | omega | exact Nat.le_refl _⟩, by repeat (first | exact Drawn0.refl _ | apply Drawn0.step)⟩
   case rest =>
    clear HC3
    try clear c1
    try clear p2
    try clear c4
    try clear c4b0
    try clear p2
    obtain ⟨kq, x15_2, rfl, HA, HJ2, ⟨mc2, rfl⟩⟩ := hcut
    cases kq with
    | zero => exact absurd HA.out (by simp [spec_cuBefore.j1])
    | succ kj2 =>
     have H := HA.out
     clear HA
     simp only [spec_cuBefore.j1] at H
     by_cases c5 : x15_2 = true
     ·
      subst c5
      have H1 : (if 0 ≤ x5_1 then (if x5_1 < (l0.length : Int) then (if x5_1 < (l1.length : Int) then (if (rd l0 x5_1) = (rd l1 x5_1) then (spec_cuBefore.l0 kj2 l0 l1 (wrap64 (x5_1 + 1))) else (some (decide ((rd l0 x5_1) < (rd l1 x5_1))))) else (none)) else (none)) else (none)) = some r := by rw [if_pos rfl] at H; exact H
      clear H
      have H := H1
      clear H1
      by_cases c6 : 0 ≤ x5_1
      ·
       rw [if_pos c6] at H
       have c6b0 := decide_eq_true c6
       clear c6
       by_cases c7 : x5_1 < (l0.length : Int)
       ·
        rw [if_pos c7] at H
        have c7b0 := decide_eq_true c7
        clear c7
        by_cases c8 : x5_1 < (l1.length : Int)
        ·
         rw [if_pos c8] at H
         have c8b0 := decide_eq_true c8
         clear c8
         by_cases c9 : (rd l0 x5_1) = (rd l1 x5_1)
         ·
          rw [if_pos c9] at H
          have c9b0 : ((rd l0 x5_1) == (rd l1 x5_1)) = true := beq_iff_eq.mpr c9
          have c9b1 : ((rd l0 x5_1) != (rd l1 x5_1)) = false := bne_eq_false_iff_eq.mpr c9
          clear c9
          have H' := ak_ H
          clear H
          have p193 : 0 ≤ (x5_1 : Int) := od_
          have q193 : x5_1 < (l0.length : Int) := od_
          obtain ⟨ad193, e193, hx193_0⟩ := Kd.at_int HR0.out x5_1 p193 q193
          cases e193
          replace p193 := eq_true p193
          replace q193 := eq_true q193
          have p194 : 0 ≤ (x5_1 : Int) := od_
          have q194 : x5_1 < (l1.length : Int) := od_
          obtain ⟨ad194, e194, hx194_0⟩ := Kd.at_int HR1.out x5_1 p194 q194
          cases e194
          replace p194 := eq_true p194
          replace q194 := eq_true q194
          go_wp2
          repeat (go_quiet (fail); try go_wp2)
          go_roundg kj2
          case measure => have := HK1.out; have := HJ2.out; omega
          case rel => exact ⟨(wrap64 (x5_1 + 1)), (ry_), H', ⟨by have := HK1.out; have := HJ2.out; omega⟩, by repeat (first | exact Drawn0.refl _ | apply Drawn0.step)⟩
         ·
          rw [if_neg c9] at H
          have c9b0 : ((rd l0 x5_1) == (rd l1 x5_1)) = false := beq_eq_false_iff_ne.mpr c9
          have c9b1 : ((rd l0 x5_1) != (rd l1 x5_1)) = true := bne_iff_ne.mpr c9
          obtain rfl := Option.some.inj H
          have p193 : 0 ≤ (x5_1 : Int) := od_
          have q193 : x5_1 < (l0.length : Int) := od_
          obtain ⟨ad193, e193, hx193_0⟩ := Kd.at_int HR0.out x5_1 p193 q193
          cases e193
          replace p193 := eq_true p193
          replace q193 := eq_true q193
          have p194 : 0 ≤ (x5_1 : Int) := od_
          have q194 : x5_1 < (l1.length : Int) := od_
          obtain ⟨ad194, e194, hx194_0⟩ := Kd.at_int HR1.out x5_1 p194 q194
          cases e194
          replace p194 := eq_true p194
          replace q194 := eq_true q194
          have p195 : 0 ≤ (x5_1 : Int) := od_
          have q195 : x5_1 < (l0.length : Int) := od_
          obtain ⟨ad195, e195, hx195_0⟩ := Kd.at_int HR0.out x5_1 p195 q195
          obtain rfl : ad193 = ad195 := (by injection e195)
          replace p195 := eq_true p195
          replace q195 := eq_true q195
          have p196 : 0 ≤ (x5_1 : Int) := od_
          have q196 : x5_1 < (l1.length : Int) := od_
          obtain ⟨ad196, e196, hx196_0⟩ := Kd.at_int HR1.out x5_1 p196 q196
          obtain rfl : ad194 = ad196 := (by injection e196)
          replace p196 := eq_true p196
          replace q196 := eq_true q196
          go_wp2
          repeat (go_quiet (fail); try go_wp2)
          go_ret
          exact ⟨ry_, by repeat (first | exact Drawn0.refl _ | apply Drawn0.step)⟩
        ·
         rw [if_neg c8] at H
         exact absurd H (by simp)
       ·
        rw [if_neg c7] at H
        exact absurd H (by simp)
      ·
       rw [if_neg c6] at H
       exact absurd H (by simp)
     ·
      replace c5 := Bool.eq_false_iff.mpr c5
      subst c5
      have H1 : (some (decide ((l0.length : Int) < (l1.length : Int)))) = some r := by rw [if_neg (show ¬ (false = true) by decide)] at H; exact H
      clear H
      have H := H1
      clear H1
      obtain rfl := Option.some.inj H
      go_wp2
      repeat (go_quiet (fail); try go_wp2)
      go_ret
      exact ⟨ry_, by repeat (first | exact Drawn0.refl _ | apply Drawn0.step)⟩
mutual
def spec_toCan.l0 : Nat → List (List Int) → Int → Int → List (List Int) → Int → Int → List Bool → Int → Option (Bool)
 | 0, _, _, _, _, _, _, _, _ => none
 | k + 1, x2, x7, x8, x24, x25, x26, x211000, x211001 => if x26 < x25 then (if 0 ≤ x26 then (if x26 < (x24.length : Int) then (if x26 > 0 then (if 0 ≤ (wrap64 (x26 - 1)) then (if (wrap64 (x26 - 1)) < (x2.length : Int) then ((spec_cuBefore.f k (rd_L2 x2 (wrap64 (x26 - 1))) (rd_L2 x24 x26)).bind fun t214 => (spec_toCan.j1 k x2 x7 x8 (rd_L2 x24 x26) x24 x25 x26 (!t214) x211000 x211001)) else (none)) else (none)) else (spec_toCan.j1 k x2 x7 x8 (rd_L2 x24 x26) x24 x25 x26 false x211000 x211001)) else (none)) else (none)) else (if x7 ≥ 0 then (some (decide (x8 ≥ 0))) else (some false))
def spec_toCan.j1 : Nat → List (List Int) → Int → Int → List Int → List (List Int) → Int → Int → Bool → List Bool → Int → Option (Bool)
 | 0, _, _, _, _, _, _, _, _, _, _ => none
 | k + 1, x2, x7, x8, x10, x24, x25, x26, x42, x211000, x211001 => if x42 = true then (some false) else (spec_toCan.l1 k x2 x7 x8 x10 x24 x25 x26 x10 (x10.length : Int) 0 x211000 x211001)
def spec_toCan.l1 : Nat → List (List Int) → Int → Int → List Int → List (List Int) → Int → Int → List Int → Int → Int → List Bool → Int → Option (Bool)
 | 0, _, _, _, _, _, _, _, _, _, _, _, _ => none
 | k + 1, x2, x7, x8, x10, x24, x25, x26, x43, x44, x45, x211000, x211001 => if x45 < x44 then (if 0 ≤ x45 then (if x45 < (x43.length : Int) then (if 0 ≤ (rd x43 x45) then (if (rd x43 x45) < (x211000.length : Int) then (if 0 < (x10.length : Int) then (if 0 ≤ (rd x10 0) then (if (rd x10 0) < (x211000.length : Int) then (if ((rdOf false x211000 (rd x43 x45)) != (rdOf false x211000 (rd x10 0))) = true then (some false) else (spec_toCan.l1 k x2 x7 x8 x10 x24 x25 x26 x43 x44 (wrap64 (x45 + 1)) x211000 x211001)) else (none)) else (none)) else (none)) else (none)) else (none)) else (none)) else (none)) else (if 0 < (x10.length : Int) then (if 0 ≤ (rd x10 0) then (if (rd x10 0) < (x211000.length : Int) then (if rdOf false x211000 (rd x10 0) = true then (spec_toCan.l0 k x2 x7 (wrap64 (x8 - 1)) x24 x25 (wrap64 (x26 + 1)) x211000 x211001) else (spec_toCan.l0 k x2 (wrap64 (x7 - 1)) x8 x24 x25 (wrap64 (x26 + 1)) x211000 x211001)) else (none)) else (none)) else (none))
end
def spec_toCan.f (k : Nat) (l0_0 : List Int) (a0_1 : Int) (a0_2 : Int) (l1_0 : List Bool) (a1_1 : Int) (l2 : List (List Int)) : Option (Bool) := (spec_toGroups.f k l0_0 a0_1 a0_2 l2).bind fun t211 => (if t211 = true then (spec_toCan.l0 k l2 (wrap64 (a0_2 - a1_1)) a1_1 l2 (l2.length : Int) 0 l1_0 a1_1) else (some false))
theorem spec_toCan.mono_l : ∀ k, (∀ y0 y1 y2 y3 y4 y5 y6 y7, LeO (spec_toCan.l0 k y0 y1 y2 y3 y4 y5 y6 y7) (spec_toCan.l0 (k + 1) y0 y1 y2 y3 y4 y5 y6 y7)) ∧ (∀ y0 y1 y2 y3 y4 y5 y6 y7 y8 y9, LeO (spec_toCan.j1 k y0 y1 y2 y3 y4 y5 y6 y7 y8 y9) (spec_toCan.j1 (k + 1) y0 y1 y2 y3 y4 y5 y6 y7 y8 y9)) ∧ (∀ y0 y1 y2 y3 y4 y5 y6 y7 y8 y9 y10 y11, LeO (spec_toCan.l1 k y0 y1 y2 y3 y4 y5 y6 y7 y8 y9 y10 y11) (spec_toCan.l1 (k + 1) y0 y1 y2 y3 y4 y5 y6 y7 y8 y9 y10 y11))
 | 0 => ⟨fun _ _ _ _ _ _ _ _ r h => by simp [spec_toCan.l0] at h, fun _ _ _ _ _ _ _ _ _ _ r h => by simp [spec_toCan.j1] at h, fun _ _ _ _ _ _ _ _ _ _ _ _ r h => by simp [spec_toCan.l1] at h⟩
 | k + 1 => by
  obtain ⟨ih0, ih1, ih2⟩ := spec_toCan.mono_l k
  refine ⟨?_, ?_, ?_⟩
  ·intro y0 y1 y2 y3 y4 y5 y6 y7
   unfold spec_toCan.l0
   repeat' first
   | (with_reducible first | exact ih0 _ _ _ _ _ _ _ _ | exact ih1 _ _ _ _ _ _ _ _ _ _ | exact ih2 _ _ _ _ _ _ _ _ _ _ _ _ | exact spec_cuBefore.mono _ _ _ | exact spec_toGroups.mono _ _ _ _ _ | exact LeO.refl _ | exact LeO.none _ | refine LeO.ite ?_ ?_ | refine LeO.bind ?_ (fun _ => ?_))
  ·intro y0 y1 y2 y3 y4 y5 y6 y7 y8 y9
   unfold spec_toCan.j1
   repeat' first
   | (with_reducible first | exact ih0 _ _ _ _ _ _ _ _ | exact ih1 _ _ _ _ _ _ _ _ _ _ | exact ih2 _ _ _ _ _ _ _ _ _ _ _ _ | exact spec_cuBefore.mono _ _ _ | exact spec_toGroups.mono _ _ _ _ _ | exact LeO.refl _ | exact LeO.none _ | refine LeO.ite ?_ ?_ | refine LeO.bind ?_ (fun _ => ?_))
  ·intro y0 y1 y2 y3 y4 y5 y6 y7 y8 y9 y10 y11
   unfold spec_toCan.l1
   repeat' first
   | (with_reducible first | exact ih0 _ _ _ _ _ _ _ _ | exact ih1 _ _ _ _ _ _ _ _ _ _ | exact ih2 _ _ _ _ _ _ _ _ _ _ _ _ | exact spec_cuBefore.mono _ _ _ | exact spec_toGroups.mono _ _ _ _ _ | exact LeO.refl _ | exact LeO.none _ | refine LeO.ite ?_ ?_ | refine LeO.bind ?_ (fun _ => ?_))
theorem spec_toCan.mono : ∀ a0 a1 a2 a3 a4 a5 k, LeO (spec_toCan.f k a0 a1 a2 a3 a4 a5) (spec_toCan.f (k + 1) a0 a1 a2 a3 a4 a5) := by
 intro a0 a1 a2 a3 a4 a5 k
 obtain ⟨ih0, ih1, ih2⟩ := spec_toCan.mono_l k
 unfold spec_toCan.f
 repeat' first
  | (with_reducible first | exact ih0 _ _ _ _ _ _ _ _ | exact ih1 _ _ _ _ _ _ _ _ _ _ | exact ih2 _ _ _ _ _ _ _ _ _ _ _ _ | exact spec_cuBefore.mono _ _ _ | exact spec_toGroups.mono _ _ _ _ _ | exact LeO.refl _ | exact LeO.none _ | refine LeO.ite ?_ ?_ | refine LeO.bind ?_ (fun _ => ?_))
theorem spec_toCan.calls (k : Nat) (A0_0 : Option Addr) (c0_0 : Nat) (l0_0 : List Int) (a0_1 : Int) (a0_2 : Int) (A1_0 : Option Addr) (c1_0 : Nat) (l1_0 : List Bool) (a1_1 : Int) (A2 : Option Addr) (c2 : Nat) (l2 : List (List Int)) (r : Bool) (w : World) (hr0_0 : Kd.C (Kd.int .i64) w A0_0 l0_0.length l0_0) (hc0_0 : l0_0.length ≤ c0_0) (hr1_0 : Kd.C Kd.bool w A1_0 l1_0.length l1_0) (hc1_0 : l1_0.length ≤ c1_0) (hr2 : Kd.C (Kd.slice 3 (Kd.int .i64)) w A2 l2.length l2) (hc2 : l2.length ≤ c2) (h : spec_toCan.f k l0_0 a0_1 a0_2 l1_0 a1_1 l2 = some r) :
  Calls Try.prog 67 #[.agg #[.slice A0_0 l0_0.length c0_0, .int .i64 a0_1, .int .i64 a0_2], .agg #[.slice A1_0 l1_0.length c1_0, .int .i64 a1_1], .slice A2 l2.length c2] w fun e w' => e = .returned (.bool r) ∧ Below w.heap.size w w' := by
 have hu33 := Try.underlying33
 have hu35 := Try.underlying35
 have HR0_0 := ak_ hr0_0
 have HC0_0 := ak_ hc0_0
 clear hr0_0 hc0_0
 have HR1_0 := ak_ hr1_0
 have HC1_0 := ak_ hc1_0
 clear hr1_0 hc1_0
 have HR2 := ak_ hr2
 have HC2 := ak_ hc2
 clear hr2 hc2
 have HB := ak_ (Below.refl w.heap.size w)
 have H : ((spec_toGroups.f k l0_0 a0_1 a0_2 l2).bind fun t211 => (if t211 = true then (spec_toCan.l0 k l2 (wrap64 (a0_2 - a1_1)) a1_1 l2 (l2.length : Int) 0 l1_0 a1_1) else (some false))) = some r := h
 clear h
 replace H := Option.bind_eq_some_iff.mp H
 obtain ⟨t211, A40, H⟩ := H
 replace H : (if t211 = true then (spec_toCan.l0 k l2 (wrap64 (a0_2 - a1_1)) a1_1 l2 (l2.length : Int) 0 l1_0 a1_1) else (some false)) = some r := H
 have A4 := ak_ A40
 clear A40
 have HC5 := ak_ H
 clear H
 go_enter Try.func67, Try.ntmps67
 go_upto_if 16 with (first | ((with_reducible refine gate_dst (N := 3) rfl ?_); refine bx_ 3 #[.slice A0_0 l0_0.length c0_0, .int .i64 a0_1, .int .i64 a0_2] 33 ?_; intro gb209 hg w6 hbox hb; have BK209 := ak_ (hbox); have GW209 := ak_ ((by rw [hg]; exact (bz_ (bb_ HB.out)) : w.heap.size ≤ gb209)); replace HB := ak_ (bs_ (bb_ HB.out) hb); have GE209 := GW209; clear hb hbox hg) | ((with_reducible refine gate_dst (N := 4) rfl ?_); refine bx_ 4 #[.slice A1_0 l1_0.length c1_0, .int .i64 a1_1] 35 ?_; intro gb210 hg w7 hbox hb; have BK210 := ak_ (hbox); have GW210 := ak_ ((by rw [hg]; exact (bz_ bl_) : w.heap.size ≤ gb210)); replace HB := ak_ (bs_ bl_ hb); have GE210 := GW210; have NB209_210 := ak_ ((by rw [hg]; exact Nat.ne_of_lt (blk_lt (pk BK209.out)) : gb209 ≠ gb210)); replace BK209 := ak_ (blk_below (pk BK209.out) hb); have NB210_209 := ak_ NB209_210.out.symm; clear hb hbox hg; have hnb8 := NB209_210.out; have hnc8 := NB210_209.out; obtain ⟨hcz9_0, hcz9_1, hcz9_2, hfz9_0, hfz9_1, hfz9_2⟩ := c3_ BK209.out) | (go_at_call 85; (with_reducible refine (spec_toGroups.calls k _ _ l0_0 a0_1 a0_2 _ _ l2 t211 _ ?side1 ?side2 ?side3 ?side4 A4.out).mono ?_); (case side1 => exact cs_ (Kd.C_below HR0_0.out HB.out)); (case side2 => exact HC0_0.out); (case side3 => exact cs_ (Kd.C_below HR2.out HB.out)); (case side4 => exact HC2.out); rintro e w10 ⟨rfl, hb⟩; replace BK209 := ak_ (blk_below (pk BK209.out) hb); replace BK210 := ak_ (blk_below (pk BK210.out) hb); replace HB := ak_ (bs_ bl_ hb); (try clear hb); (try clear hb2); (try clear hk); (try clear hi)))
 repeat (go_quiet (first | ((with_reducible refine gate_dst (N := 3) rfl ?_); refine bx_ 3 #[.slice A0_0 l0_0.length c0_0, .int .i64 a0_1, .int .i64 a0_2] 33 ?_; intro gb209 hg w6 hbox hb; have BK209 := ak_ (hbox); have GW209 := ak_ ((by rw [hg]; exact (bz_ (bb_ HB.out)) : w.heap.size ≤ gb209)); replace HB := ak_ (bs_ (bb_ HB.out) hb); have GE209 := GW209; clear hb hbox hg) | ((with_reducible refine gate_dst (N := 4) rfl ?_); refine bx_ 4 #[.slice A1_0 l1_0.length c1_0, .int .i64 a1_1] 35 ?_; intro gb210 hg w7 hbox hb; have BK210 := ak_ (hbox); have GW210 := ak_ ((by rw [hg]; exact (bz_ bl_) : w.heap.size ≤ gb210)); replace HB := ak_ (bs_ bl_ hb); have GE210 := GW210; have NB209_210 := ak_ ((by rw [hg]; exact Nat.ne_of_lt (blk_lt (pk BK209.out)) : gb209 ≠ gb210)); replace BK209 := ak_ (blk_below (pk BK209.out) hb); have NB210_209 := ak_ NB209_210.out.symm; clear hb hbox hg; have hnb8 := NB209_210.out; have hnc8 := NB210_209.out; obtain ⟨hcz9_0, hcz9_1, hcz9_2, hfz9_0, hfz9_1, hfz9_2⟩ := c3_ BK209.out) | (go_at_call 85; (with_reducible refine (spec_toGroups.calls k _ _ l0_0 a0_1 a0_2 _ _ l2 t211 _ ?side1 ?side2 ?side3 ?side4 A4.out).mono ?_); (case side1 => exact cs_ (Kd.C_below HR0_0.out HB.out)); (case side2 => exact HC0_0.out); (case side3 => exact cs_ (Kd.C_below HR2.out HB.out)); (case side4 => exact HC2.out); rintro e w10 ⟨rfl, hb⟩; replace BK209 := ak_ (blk_below (pk BK209.out) hb); replace BK210 := ak_ (blk_below (pk BK210.out) hb); replace HB := ak_ (bs_ bl_ hb); (try clear hb); (try clear hb2); (try clear hk); (try clear hi))); go_upto_if 16 with (first | ((with_reducible refine gate_dst (N := 3) rfl ?_); refine bx_ 3 #[.slice A0_0 l0_0.length c0_0, .int .i64 a0_1, .int .i64 a0_2] 33 ?_; intro gb209 hg w6 hbox hb; have BK209 := ak_ (hbox); have GW209 := ak_ ((by rw [hg]; exact (bz_ (bb_ HB.out)) : w.heap.size ≤ gb209)); replace HB := ak_ (bs_ (bb_ HB.out) hb); have GE209 := GW209; clear hb hbox hg) | ((with_reducible refine gate_dst (N := 4) rfl ?_); refine bx_ 4 #[.slice A1_0 l1_0.length c1_0, .int .i64 a1_1] 35 ?_; intro gb210 hg w7 hbox hb; have BK210 := ak_ (hbox); have GW210 := ak_ ((by rw [hg]; exact (bz_ bl_) : w.heap.size ≤ gb210)); replace HB := ak_ (bs_ bl_ hb); have GE210 := GW210; have NB209_210 := ak_ ((by rw [hg]; exact Nat.ne_of_lt (blk_lt (pk BK209.out)) : gb209 ≠ gb210)); replace BK209 := ak_ (blk_below (pk BK209.out) hb); have NB210_209 := ak_ NB209_210.out.symm; clear hb hbox hg; have hnb8 := NB209_210.out; have hnc8 := NB210_209.out; obtain ⟨hcz9_0, hcz9_1, hcz9_2, hfz9_0, hfz9_1, hfz9_2⟩ := c3_ BK209.out) | (go_at_call 85; (with_reducible refine (spec_toGroups.calls k _ _ l0_0 a0_1 a0_2 _ _ l2 t211 _ ?side1 ?side2 ?side3 ?side4 A4.out).mono ?_); (case side1 => exact cs_ (Kd.C_below HR0_0.out HB.out)); (case side2 => exact HC0_0.out); (case side3 => exact cs_ (Kd.C_below HR2.out HB.out)); (case side4 => exact HC2.out); rintro e w10 ⟨rfl, hb⟩; replace BK209 := ak_ (blk_below (pk BK209.out) hb); replace BK210 := ak_ (blk_below (pk BK210.out) hb); replace HB := ak_ (bs_ bl_ hb); (try clear hb); (try clear hb2); (try clear hk); (try clear hi))))
 (try simp only [Act.put, setIfInBounds_toArray, set_cons_zero, set_cons_succ])
 have H := HC5.out
 clear HC5
 by_cases c11 : t211 = true
 ·
  subst c11
  have H1 : (spec_toCan.l0 k l2 (wrap64 (a0_2 - a1_1)) a1_1 l2 (l2.length : Int) 0 l1_0 a1_1) = some r := by rw [if_pos rfl] at H; exact H
  clear H
  have H := H1
  clear H1
  have H' := ak_ H
  clear H
  have hnb12 := NB209_210.out
  have hnc12 := NB210_209.out
  obtain ⟨hcz13_0, hcz13_1, hcz13_2, hfz13_0, hfz13_1, hfz13_2⟩ := c3_ BK209.out
  obtain ⟨hcz14_0, hcz14_1, hfz14_0, hfz14_1⟩ := c2_ BK210.out
  go_wp2
  repeat (go_quiet (fail); try go_wp2)
  go_loopg [7, 8, 26] k (fun kq v7 v8 v26 w' => ∃ (x7_1 : Int) (x8_1 : Int) (x26_1 : Int), v7 = .int .i64 x7_1 ∧ v8 = .int .i64 x8_1 ∧ v26 = .int .i64 x26_1 ∧ Aside0 (spec_toCan.l0 kq l2 x7_1 x8_1 l2 (l2.length : Int) x26_1 l1_0 a1_1 = some r) ∧ Aside0 (kq ≤ k) ∧ Aside0 (w'.heap[gb209]? = some (.cells #[(.slice A0_0 l0_0.length c0_0), .int .i64 a0_1, .int .i64 a0_2] 33 (0, 0))) ∧ Aside0 (w'.heap[gb210]? = some (.cells #[(.slice A1_0 l1_0.length c1_0), .int .i64 a1_1] 35 (0, 0))) ∧ Aside0 (Below w.heap.size w w'))
  case atStart => exact ⟨(wrap64 (a0_2 - a1_1)), (a1_1), (0), (ry_), (ry_), (ry_), H', ⟨Nat.le_refl _⟩, ⟨pk BK209.out⟩, ⟨pk BK210.out⟩, ⟨bl_⟩⟩
  case round =>
   clear H'
   try clear c1
   try clear c2
   try clear p2
   try clear c6
   try clear p6
   try clear c8
   try clear c11
   try clear c12
   try clear hcz13_0
   try clear hcz13_1
   try clear hcz13_2
   try clear hcz14_0
   try clear hcz14_1
   try clear hcz9_0
   try clear hcz9_1
   try clear hcz9_2
   try clear hfz13_0
   try clear hfz13_1
   try clear hfz13_2
   try clear hfz14_0
   try clear hfz14_1
   try clear hfz9_0
   try clear hfz9_1
   try clear hfz9_2
   obtain ⟨x7_1, x8_1, x26_1, rfl, rfl, rfl, HA, HK1, BK209, BK210, HB⟩ := hrel
   cases gk with
   | zero => exact absurd HA.out (by simp [spec_toCan.l0])
   | succ k1 =>
    have H := HA.out
    clear HA
    simp only [spec_toCan.l0] at H
    by_cases c15 : x26_1 < (l2.length : Int)
    ·
     rw [if_pos c15] at H
     have c15b0 := decide_eq_true c15
     clear c15
     (first | rw [c15b0] | (simp only [i64_w, i32_w]; rw [c15b0]) | rw [c15b1] | skip)
     by_cases c16 : 0 ≤ x26_1
     ·
      rw [if_pos c16] at H
      have c16b0 := decide_eq_true c16
      clear c16
      by_cases c17 : x26_1 < (l2.length : Int)
      ·
       rw [if_pos c17] at H
       have c17b0 := decide_eq_true c17
       clear c17
       have HC18 := ak_ H
       clear H
       have p212 : 0 ≤ (x26_1 : Int) := od_
       have q212 : x26_1 < (l2.length : Int) := od_
       obtain ⟨ad212, A212_0, c212_0, e212, hx212_0, hl212_0, hi212_0⟩ := at_L2 HR2.out x26_1 p212 q212
       cases e212
       try replace hx212_0 := (HB.out.cell (World.block_lt_of_cell? w _ hx212_0)).trans hx212_0
       have HR212_0 := ak_ hi212_0
       have HC212_0 := ak_ hl212_0
       clear hi212_0 hl212_0
       replace p212 := eq_true p212
       replace q212 := eq_true q212
       go_upto_region 7 with (fail)
       repeat (go_quiet (fail); go_upto_region 7 with (fail))
       go_cut [42] (fun v42 wc => ∃ (kq : Nat) (x42_17 : Bool), v42 = .bool x42_17 ∧ Aside0 (spec_toCan.j1 kq l2 x7_1 x8_1 (rd_L2 l2 x26_1) l2 (l2.length : Int) x26_1 x42_17 l1_0 a1_1 = some r) ∧ Aside0 (kq ≤ k1) ∧ Aside0 (wc.heap[gb209]? = some (.cells #[(.slice A0_0 l0_0.length c0_0), .int .i64 a0_1, .int .i64 a0_2] 33 (0, 0))) ∧ Aside0 (wc.heap[gb210]? = some (.cells #[(.slice A1_0 l1_0.length c1_0), .int .i64 a1_1] 35 (0, 0))) ∧ Aside0 (Below w.heap.size w wc))
       case first =>
        have H := HC18.out
        clear HC18
        by_cases c19 : x26_1 > 0
        ·
         rw [if_pos c19] at H
         have c19b0 : decide (0 < x26_1) = true := decide_eq_true c19
         clear c19
         (first | rw [c19b0] | (simp only [i64_w, i32_w]; rw [c19b0]) | rw [c19b1] | skip)
         obtain ⟨ji20, hji20⟩ : ∃ j_ : Int, (wrap64 (x26_1 - 1)) = j_ := ⟨_, rfl⟩
         replace H : (if 0 ≤ (ji20) then (if (ji20) < (l2.length : Int) then ((spec_cuBefore.f k1 (rd_L2 l2 (ji20)) (rd_L2 l2 x26_1)).bind fun t214 => (spec_toCan.j1 k1 l2 x7_1 x8_1 (rd_L2 l2 x26_1) l2 (l2.length : Int) x26_1 (!t214) l1_0 a1_1)) else (none)) else (none)) = some r := by first | (rw [hji20] at H; exact H) | (simp only [hji20] at H ⊢; exact H)
         have hji20w : (IntKind.i64.wrap (x26_1 - 1)) = ji20 := (i64_w _).trans hji20
         by_cases c21 : 0 ≤ (ji20)
         ·
          rw [if_pos c21] at H
          have c21b0 := decide_eq_true c21
          clear c21
          by_cases c22 : (ji20) < (l2.length : Int)
          ·
           rw [if_pos c22] at H
           have c22b0 := decide_eq_true c22
           clear c22
           replace H := Option.bind_eq_some_iff.mp H
           obtain ⟨t214, A230, H⟩ := H
           replace H : (spec_toCan.j1 k1 l2 x7_1 x8_1 (rd_L2 l2 x26_1) l2 (l2.length : Int) x26_1 (!t214) l1_0 a1_1) = some r := H
           have A23 := ak_ A230
           clear A230
           have H' := ak_ H
           clear H
           have p213 : 0 ≤ ((ji20) : Int) := od_
           have q213 : (ji20) < (l2.length : Int) := od_
           obtain ⟨ad213, A213_0, c213_0, e213, hx213_0, hl213_0, hi213_0⟩ := at_L2 HR2.out (ji20) p213 q213
           obtain rfl : ad212 = ad213 := (by injection e213)
           try replace hx213_0 := (HB.out.cell (World.block_lt_of_cell? w _ hx213_0)).trans hx213_0
           have HR213_0 := ak_ hi213_0
           have HC213_0 := ak_ hl213_0
           clear hi213_0 hl213_0
           replace p213 := eq_true p213
           replace q213 := eq_true q213
           go_wp2_with (first | (go_at_call 86; (with_reducible refine (spec_cuBefore.calls k1 _ _ (rd_L2 l2 (ji20)) _ _ (rd_L2 l2 x26_1) t214 _ ?side1 ?side2 ?side3 ?side4 A23.out).mono ?_); (case side1 => exact cs_ (Kd.C_below HR213_0.out HB.out)); (case side2 => exact HC213_0.out); (case side3 => exact cs_ (Kd.C_below HR212_0.out HB.out)); (case side4 => exact HC212_0.out); rintro e w' ⟨rfl, ⟨nd, rfl⟩⟩; (try first | exact ⟨rfl, _, World.drewN_drewN _ _ _⟩ | exact ⟨rfl, _, Eq.trans (World.drewN_drewN _ _ _) (congrArg (World.drewN _) (Nat.add_assoc _ _ _))⟩)))
           repeat (go_quiet (first | (go_at_call 86; (with_reducible refine (spec_cuBefore.calls k1 _ _ (rd_L2 l2 (ji20)) _ _ (rd_L2 l2 x26_1) t214 _ ?side1 ?side2 ?side3 ?side4 A23.out).mono ?_); (case side1 => exact cs_ (Kd.C_below HR213_0.out HB.out)); (case side2 => exact HC213_0.out); (case side3 => exact cs_ (Kd.C_below HR212_0.out HB.out)); (case side4 => exact HC212_0.out); rintro e w' ⟨rfl, ⟨nd, rfl⟩⟩; (try first | exact ⟨rfl, _, World.drewN_drewN _ _ _⟩ | exact ⟨rfl, _, Eq.trans (World.drewN_drewN _ _ _) (congrArg (World.drewN _) (Nat.add_assoc _ _ _))⟩))); try go_wp2_with (first | (go_at_call 86; (with_reducible refine (spec_cuBefore.calls k1 _ _ (rd_L2 l2 (ji20)) _ _ (rd_L2 l2 x26_1) t214 _ ?side1 ?side2 ?side3 ?side4 A23.out).mono ?_); (case side1 => exact cs_ (Kd.C_below HR213_0.out HB.out)); (case side2 => exact HC213_0.out); (case side3 => exact cs_ (Kd.C_below HR212_0.out HB.out)); (case side4 => exact HC212_0.out); rintro e w' ⟨rfl, ⟨nd, rfl⟩⟩; (try first | exact ⟨rfl, _, World.drewN_drewN _ _ _⟩ | exact ⟨rfl, _, Eq.trans (World.drewN_drewN _ _ _) (congrArg (World.drewN _) (Nat.add_assoc _ _ _))⟩))))
           go_meet
           case rel => exact ⟨_, (!t214), (ry_), H', ⟨by have := HK1.out; first | omega | exact Nat.le_refl _⟩, ⟨pk BK209.out⟩, ⟨pk BK210.out⟩, ⟨bl_⟩⟩
          ·
           rw [if_neg c22] at H
           exact absurd H (by simp)
         ·
          rw [if_neg c21] at H
          exact absurd H (by simp)
        ·
         rw [if_neg c19] at H
         have c19b0 : decide (0 < x26_1) = false := decide_eq_false c19
         clear c19
         (first | rw [c19b0] | (simp only [i64_w, i32_w]; rw [c19b0]) | rw [c19b1] | skip)
         have H' := ak_ H
         clear H
         go_wp2
         repeat (go_quiet (fail); try go_wp2)
         go_meet
         case rel => exact ⟨_, (false), (ry_), H', ⟨by have := HK1.out; first | omega | exact Nat.le_refl _⟩, ⟨pk BK209.out⟩, ⟨pk BK210.out⟩, ⟨bl_⟩⟩
       case rest =>
        clear HC18
        try clear c1
        try clear c2
        try clear p2
        try clear q2
        try clear hx2
        try clear c6
        try clear p6
        try clear c8
        try clear c11
        try clear c12
        try clear c15
        try clear c15b0
        try clear c16
        try clear c16b0
        try clear c17
        try clear c17b0
        try clear c19
        try clear c19b0
        try clear c21
        try clear c21b0
        try clear p21
        try clear q21
        try clear hx21
        try clear c22
        try clear c22b0
        try clear hcz13_0
        try clear hcz13_1
        try clear hcz13_2
        try clear hcz14_0
        try clear hcz14_1
        try clear hcz9_0
        try clear hcz9_1
        try clear hcz9_2
        try clear hfz13_0
        try clear hfz13_1
        try clear hfz13_2
        try clear hfz14_0
        try clear hfz14_1
        try clear hfz9_0
        try clear hfz9_1
        try clear hfz9_2
        try clear hx212_0
        try clear hx213_0
        try clear p2
        try clear p212
        try clear p213
        try clear p6
        try clear q212
        try clear q213
        obtain ⟨kq, x42_17, rfl, HA, HJ17, BK209, BK210, HB⟩ := hcut
        cases kq with
        | zero => exact absurd HA.out (by simp [spec_toCan.j1])
        | succ kj17 =>
         have H := HA.out
         clear HA
         simp only [spec_toCan.j1] at H
         by_cases c24 : x42_17 = true
         ·
          subst c24
          have H1 : (some false) = some r := by rw [if_pos rfl] at H; exact H
          clear H
          have H := H1
          clear H1
          obtain rfl := Option.some.inj H
          go_wp2
          repeat (go_quiet (fail); try go_wp2)
          go_ret
          exact ⟨rx_, bl_⟩
         ·
          replace c24 := Bool.eq_false_iff.mpr c24
          subst c24
          have H1 : (spec_toCan.l1 kj17 l2 x7_1 x8_1 (rd_L2 l2 x26_1) l2 (l2.length : Int) x26_1 (rd_L2 l2 x26_1) ((rd_L2 l2 x26_1).length : Int) 0 l1_0 a1_1) = some r := by rw [if_neg (show ¬ (false = true) by decide)] at H; exact H
          clear H
          have H := H1
          clear H1
          have H' := ak_ H
          clear H
          go_wp2
          repeat (go_quiet (fail); try go_wp2)
          go_loopg [45] kj17 (fun kq v45 w' => ∃ (x45_3 : Int), v45 = .int .i64 x45_3 ∧ Aside0 (spec_toCan.l1 kq l2 x7_1 x8_1 (rd_L2 l2 x26_1) l2 (l2.length : Int) x26_1 (rd_L2 l2 x26_1) ((rd_L2 l2 x26_1).length : Int) x45_3 l1_0 a1_1 = some r) ∧ Aside0 (kq ≤ kj17) ∧ Aside0 (w'.heap[gb209]? = some (.cells #[(.slice A0_0 l0_0.length c0_0), .int .i64 a0_1, .int .i64 a0_2] 33 (0, 0))) ∧ Aside0 (w'.heap[gb210]? = some (.cells #[(.slice A1_0 l1_0.length c1_0), .int .i64 a1_1] 35 (0, 0))) ∧ Aside0 (Below w.heap.size w w'))
          case atStart => exact ⟨(0), (ry_), H', ⟨Nat.le_refl _⟩, ⟨pk BK209.out⟩, ⟨pk BK210.out⟩, ⟨bl_⟩⟩
          case round =>
           clear H'
           try clear c1
           try clear c2
           try clear p2
           try clear q2
           try clear hx2
           try clear c6
           try clear p6
           try clear c8
           try clear c11
           try clear c12
           try clear c15
           try clear c15b0
           try clear c16
           try clear c16b0
           try clear c17
           try clear c17b0
           try clear c19
           try clear c19b0
           try clear c21
           try clear c21b0
           try clear p21
           try clear q21
           try clear hx21
           try clear c22
           try clear c22b0
           try clear c24
           try clear hcz13_0
           try clear hcz13_1
           try clear hcz13_2
           try clear hcz14_0
           try clear hcz14_1
           try clear hcz9_0
           try clear hcz9_1
           try clear hcz9_2
           try clear hfz13_0
           try clear hfz13_1
           try clear hfz13_2
           try clear hfz14_0
           try clear hfz14_1
           try clear hfz9_0
           try clear hfz9_1
           try clear hfz9_2
           try clear hx212_0
           try clear hx213_0
           try clear p2
           try clear p21
           try clear p212
           try clear p213
           try clear p6
           try clear q2
           try clear q21
           try clear q212
           try clear q213
           obtain ⟨x45_3, rfl, HA, HK3, BK209, BK210, HB⟩ := hrel
           cases gk with
           | zero => exact absurd HA.out (by simp [spec_toCan.l1])
           | succ k3 =>
            have H := HA.out
            clear HA
            simp only [spec_toCan.l1] at H
            by_cases c25 : x45_3 < ((rd_L2 l2 x26_1).length : Int)
            ·
             rw [if_pos c25] at H
             have c25b0 := decide_eq_true c25
             clear c25
             by_cases c26 : 0 ≤ x45_3
             ·
              rw [if_pos c26] at H
              have c26b0 := decide_eq_true c26
              clear c26
              by_cases c27 : x45_3 < ((rd_L2 l2 x26_1).length : Int)
              ·
               rw [if_pos c27] at H
               have c27b0 := decide_eq_true c27
               clear c27
               by_cases c28 : 0 ≤ (rd (rd_L2 l2 x26_1) x45_3)
               ·
                rw [if_pos c28] at H
                have c28b0 := decide_eq_true c28
                clear c28
                by_cases c29 : (rd (rd_L2 l2 x26_1) x45_3) < (l1_0.length : Int)
                ·
                 rw [if_pos c29] at H
                 have c29b0 := decide_eq_true c29
                 clear c29
                 by_cases c30 : 0 < ((rd_L2 l2 x26_1).length : Int)
                 ·
                  rw [if_pos c30] at H
                  have c30b0 := decide_eq_true c30
                  have c30b1 : decide (0 < (rd_L2 l2 x26_1).length) = true := decide_eq_true (by omega)
                  clear c30
                  by_cases c31 : 0 ≤ (rd (rd_L2 l2 x26_1) 0)
                  ·
                   rw [if_pos c31] at H
                   have c31b0 := decide_eq_true c31
                   clear c31
                   by_cases c32 : (rd (rd_L2 l2 x26_1) 0) < (l1_0.length : Int)
                   ·
                    rw [if_pos c32] at H
                    have c32b0 := decide_eq_true c32
                    clear c32
                    have HC33 := ak_ H
                    clear H
                    have p215 : 0 ≤ (x45_3 : Int) := od_
                    have q215 : x45_3 < ((rd_L2 l2 x26_1).length : Int) := od_
                    obtain ⟨ad215, e215, hx215_0⟩ := Kd.at_int HR212_0.out x45_3 p215 q215
                    cases e215
                    try replace hx215_0 := (HB.out.cell (World.block_lt_of_cell? w _ hx215_0)).trans hx215_0
                    replace p215 := eq_true p215
                    replace q215 := eq_true q215
                    have hnb34 := NB210_209.out
                    have hnc34 := NB209_210.out
                    obtain ⟨hcz35_0, hcz35_1, hfz35_0, hfz35_1⟩ := c2_ BK210.out
                    have p216 : 0 ≤ ((rd (rd_L2 l2 x26_1) x45_3) : Int) := od_
                    have q216 : (rd (rd_L2 l2 x26_1) x45_3) < (l1_0.length : Int) := od_
                    obtain ⟨ad216, e216, hx216_0⟩ := Kd.at_bool HR1_0.out (rd (rd_L2 l2 x26_1) x45_3) p216 q216
                    cases e216
                    try replace hx216_0 := (HB.out.cell (World.block_lt_of_cell? w _ hx216_0)).trans hx216_0
                    replace p216 := eq_true p216
                    replace q216 := eq_true q216
                    have p217 : 0 ≤ (0 : Int) := (by omega)
                    have q217 : 0 < ((rd_L2 l2 x26_1).length : Int) := od_
                    obtain ⟨ad217, e217, hx217_0⟩ := Kd.at_int HR212_0.out 0 p217 q217
                    obtain rfl : ad215 = ad217 := (by injection e217)
                    have qi217 : (0 < (rd_L2 l2 x26_1).length) = True := eq_true (by omega)
                    (try rw [show ((0 : Int)).toNat = 0 from rfl] at hx217_0)
                    (try rw [Addr.add_zero'] at hx217_0)
                    try replace hx217_0 := (HB.out.cell (World.block_lt_of_cell? w _ hx217_0)).trans hx217_0
                    replace p217 := eq_true p217
                    replace q217 := eq_true q217
                    have p218 : 0 ≤ ((rd (rd_L2 l2 x26_1) 0) : Int) := od_
                    have q218 : (rd (rd_L2 l2 x26_1) 0) < (l1_0.length : Int) := od_
                    obtain ⟨ad218, e218, hx218_0⟩ := Kd.at_bool HR1_0.out (rd (rd_L2 l2 x26_1) 0) p218 q218
                    obtain rfl : ad216 = ad218 := (by injection e218)
                    try replace hx218_0 := (HB.out.cell (World.block_lt_of_cell? w _ hx218_0)).trans hx218_0
                    replace p218 := eq_true p218
                    replace q218 := eq_true q218
                    go_upto_if 61 with (fail)
                    repeat (go_quiet (fail); go_upto_if 61 with (fail))
                    have H := HC33.out
                    clear HC33
                    by_cases c36 : ((rdOf false l1_0 (rd (rd_L2 l2 x26_1) x45_3)) != (rdOf false l1_0 (rd (rd_L2 l2 x26_1) 0))) = true
                    ·
                     rw [if_pos c36] at H
                     have c36b0 : ((rdOf false l1_0 (rd (rd_L2 l2 x26_1) x45_3)) != (rdOf false l1_0 (rd (rd_L2 l2 x26_1) 0))) = true := c36
                     (try (have c36b1 : decide ((rdOf false l1_0 (rd (rd_L2 l2 x26_1) x45_3)) = (rdOf false l1_0 (rd (rd_L2 l2 x26_1) 0))) = false := by simpa using c36))
                     (try (have c36b2 : ((rdOf false l1_0 (rd (rd_L2 l2 x26_1) x45_3)) == (rdOf false l1_0 (rd (rd_L2 l2 x26_1) 0))) = false := by simpa using c36))
                     (try (have c36b7 : (!((rdOf false l1_0 (rd (rd_L2 l2 x26_1) x45_3)) == (rdOf false l1_0 (rd (rd_L2 l2 x26_1) 0)))) = true := by simp only [c36b2, Bool.not_true, Bool.not_false]))
                     (try (have c36b3 : ¬ ((rdOf false l1_0 (rd (rd_L2 l2 x26_1) x45_3)) = (rdOf false l1_0 (rd (rd_L2 l2 x26_1) 0))) := by simpa using c36))
                     clear c36
                     (first | rw [c36b0] | rw [c36b7] | (simp only [i64_w, i32_w]; rw [c36b0]) | rw [c36b1] | skip)
                     obtain rfl := Option.some.inj H
                     go_wp2
                     repeat (go_quiet (fail); try go_wp2)
                     go_ret
                     exact ⟨rx_, bl_⟩
                    ·
                     rw [if_neg c36] at H
                     have c36b0 : ((rdOf false l1_0 (rd (rd_L2 l2 x26_1) x45_3)) != (rdOf false l1_0 (rd (rd_L2 l2 x26_1) 0))) = false := by simpa using c36
                     (try (have c36b1 : decide ((rdOf false l1_0 (rd (rd_L2 l2 x26_1) x45_3)) = (rdOf false l1_0 (rd (rd_L2 l2 x26_1) 0))) = true := by simpa using c36))
                     (try (have c36b2 : ((rdOf false l1_0 (rd (rd_L2 l2 x26_1) x45_3)) == (rdOf false l1_0 (rd (rd_L2 l2 x26_1) 0))) = true := by simpa using c36))
                     (try (have c36b7 : (!((rdOf false l1_0 (rd (rd_L2 l2 x26_1) x45_3)) == (rdOf false l1_0 (rd (rd_L2 l2 x26_1) 0)))) = false := by simp only [c36b2, Bool.not_true, Bool.not_false]))
                     clear c36
                     (first | rw [c36b0] | rw [c36b7] | (simp only [i64_w, i32_w]; rw [c36b0]) | rw [c36b1] | skip)
                     have H' := ak_ H
                     clear H
                     go_wp2
                     repeat (go_quiet (fail); try go_wp2)
                     go_roundg k3
                     case measure => have := HK1.out; have := HJ17.out; have := HK3.out; omega
                     case rel => exact ⟨(wrap64 (x45_3 + 1)), (ry_), H', ⟨by have := HK1.out; have := HJ17.out; have := HK3.out; omega⟩, ⟨pk BK209.out⟩, ⟨pk BK210.out⟩, ⟨bl_⟩⟩
                   ·
                    rw [if_neg c32] at H
                    exact absurd H (by simp)
                  ·
                   rw [if_neg c31] at H
                   exact absurd H (by simp)
                 ·
                  rw [if_neg c30] at H
                  exact absurd H (by simp)
                ·
                 rw [if_neg c29] at H
                 exact absurd H (by simp)
               ·
                rw [if_neg c28] at H
                exact absurd H (by simp)
              ·
               rw [if_neg c27] at H
               exact absurd H (by simp)
             ·
              rw [if_neg c26] at H
              exact absurd H (by simp)
            ·
             rw [if_neg c25] at H
             have c25b0 := decide_eq_false c25
             clear c25
             by_cases c37 : 0 < ((rd_L2 l2 x26_1).length : Int)
             ·
              rw [if_pos c37] at H
              have c37b0 := decide_eq_true c37
              have c37b1 : decide (0 < (rd_L2 l2 x26_1).length) = true := decide_eq_true (by omega)
              clear c37
              by_cases c38 : 0 ≤ (rd (rd_L2 l2 x26_1) 0)
              ·
               rw [if_pos c38] at H
               have c38b0 := decide_eq_true c38
               clear c38
               by_cases c39 : (rd (rd_L2 l2 x26_1) 0) < (l1_0.length : Int)
               ·
                rw [if_pos c39] at H
                have c39b0 := decide_eq_true c39
                clear c39
                have HC40 := ak_ H
                clear H
                have hnb41 := NB210_209.out
                have hnc41 := NB209_210.out
                obtain ⟨hcz42_0, hcz42_1, hfz42_0, hfz42_1⟩ := c2_ BK210.out
                have p219 : 0 ≤ (0 : Int) := (by omega)
                have q219 : 0 < ((rd_L2 l2 x26_1).length : Int) := od_
                obtain ⟨ad219, e219, hx219_0⟩ := Kd.at_int HR212_0.out 0 p219 q219
                cases e219
                have qi219 : (0 < (rd_L2 l2 x26_1).length) = True := eq_true (by omega)
                (try rw [show ((0 : Int)).toNat = 0 from rfl] at hx219_0)
                (try rw [Addr.add_zero'] at hx219_0)
                try replace hx219_0 := (HB.out.cell (World.block_lt_of_cell? w _ hx219_0)).trans hx219_0
                replace p219 := eq_true p219
                replace q219 := eq_true q219
                have p220 : 0 ≤ ((rd (rd_L2 l2 x26_1) 0) : Int) := od_
                have q220 : (rd (rd_L2 l2 x26_1) 0) < (l1_0.length : Int) := od_
                obtain ⟨ad220, e220, hx220_0⟩ := Kd.at_bool HR1_0.out (rd (rd_L2 l2 x26_1) 0) p220 q220
                cases e220
                try replace hx220_0 := (HB.out.cell (World.block_lt_of_cell? w _ hx220_0)).trans hx220_0
                replace p220 := eq_true p220
                replace q220 := eq_true q220
                go_upto_if 69 with (fail)
                repeat (go_quiet (fail); go_upto_if 69 with (fail))
                have H := HC40.out
                clear HC40
                obtain ⟨bq43, hbq43⟩ : ∃ b_ : Bool, b_ = (rdOf false l1_0 (rd (rd_L2 l2 x26_1) 0)) := ⟨_, rfl⟩
                replace H : (if bq43 = true then (spec_toCan.l0 k3 l2 x7_1 (wrap64 (x8_1 - 1)) l2 (l2.length : Int) (wrap64 (x26_1 + 1)) l1_0 a1_1) else (spec_toCan.l0 k3 l2 (wrap64 (x7_1 - 1)) x8_1 l2 (l2.length : Int) (wrap64 (x26_1 + 1)) l1_0 a1_1)) = some r := by rw [← hbq43] at H; exact H
                have Nbq43 := ak_ hbq43
                clear hbq43
                (try rw [← Nbq43.out])
                by_cases c44 : bq43 = true
                ·
                 subst c44
                 have H1 : (spec_toCan.l0 k3 l2 x7_1 (wrap64 (x8_1 - 1)) l2 (l2.length : Int) (wrap64 (x26_1 + 1)) l1_0 a1_1) = some r := by rw [if_pos rfl] at H; exact H
                 clear H
                 have H := H1
                 clear H1
                 have H' := ak_ H
                 clear H
                 go_wp2
                 repeat (go_quiet (fail); try go_wp2)
                 go_roundg k3
                 case measure => have := HK1.out; have := HJ17.out; have := HK3.out; omega
                 case rel => exact ⟨(x7_1), (wrap64 (x8_1 - 1)), (wrap64 (x26_1 + 1)), (ry_), (ry_), (ry_), H', ⟨by have := HK1.out; have := HJ17.out; have := HK3.out; omega⟩, ⟨pk BK209.out⟩, ⟨pk BK210.out⟩, ⟨bl_⟩⟩
                ·
                 replace c44 := Bool.eq_false_iff.mpr c44
                 subst c44
                 have H1 : (spec_toCan.l0 k3 l2 (wrap64 (x7_1 - 1)) x8_1 l2 (l2.length : Int) (wrap64 (x26_1 + 1)) l1_0 a1_1) = some r := by rw [if_neg (show ¬ (false = true) by decide)] at H; exact H
                 clear H
                 have H := H1
                 clear H1
                 have H' := ak_ H
                 clear H
                 go_wp2
                 repeat (go_quiet (fail); try go_wp2)
                 go_roundg k3
                 case measure => have := HK1.out; have := HJ17.out; have := HK3.out; omega
                 case rel => exact ⟨(wrap64 (x7_1 - 1)), (x8_1), (wrap64 (x26_1 + 1)), (ry_), (ry_), (ry_), H', ⟨by have := HK1.out; have := HJ17.out; have := HK3.out; omega⟩, ⟨pk BK209.out⟩, ⟨pk BK210.out⟩, ⟨bl_⟩⟩
               ·
                rw [if_neg c39] at H
                exact absurd H (by simp)
              ·
               rw [if_neg c38] at H
               exact absurd H (by simp)
             ·
              rw [if_neg c37] at H
              exact absurd H (by simp)
      ·
       rw [if_neg c17] at H
       exact absurd H (by simp)
     ·
      rw [if_neg c16] at H
      exact absurd H (by simp)
    ·
     rw [if_neg c15] at H
     have c15b0 := decide_eq_false c15
     clear c15
     (first | rw [c15b0] | (simp only [i64_w, i32_w]; rw [c15b0]) | rw [c15b1] | skip)
     by_cases c45 : x7_1 ≥ 0
     ·
      rw [if_pos c45] at H
      have c45b0 : decide (0 ≤ x7_1) = true := decide_eq_true c45
      clear c45
      obtain rfl := Option.some.inj H
      go_wp2
      repeat (go_quiet (fail); try go_wp2)
      go_ret
      exact ⟨rx_, bl_⟩
     ·
      rw [if_neg c45] at H
      have c45b0 : decide (0 ≤ x7_1) = false := decide_eq_false c45
      clear c45
      obtain rfl := Option.some.inj H
      go_wp2
      repeat (go_quiet (fail); try go_wp2)
      go_ret
      exact ⟨rx_, bl_⟩
 ·
  replace c11 := Bool.eq_false_iff.mpr c11
  subst c11
  have H1 : (some false) = some r := by rw [if_neg (show ¬ (false = true) by decide)] at H; exact H
  clear H
  have H := H1
  clear H1
  obtain rfl := Option.some.inj H
  go_wp2
  repeat (go_quiet (fail); try go_wp2)
  go_ret
  exact ⟨rx_, bl_⟩
end Go.Proofs.Ytmdbhpbogbekmaa.QNt
