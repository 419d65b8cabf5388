/- Contracts of functions of the given program, walked: each call returns what its Lean function says. Conditions: those that stand at each theorem. (Written by a program of this session.) -/
import Derived.Test.YtkdmjjihphnmdaaQSwapx0
import Derived.Test.YtkdmjjihphnmdaaQSwapx1
import Derived.Test.YtkdmjjihphnmdaaQSwapx5
import Derived.Test.YtkdmjjihphnmdaaQSwapx6
import Derived.Test.YtkdmjjihphnmdaaQSwapx9
namespace Go.Proofs.Ytkdmjjihphnmdaa.QSwap
open Go.RowKit Go.Proofs.YtkdmjjihphnmdaaW.PrintWords Go.Proofs.YtkdmjjihphnmdaaW.PrintLast Go.Proofs.YtkdmjjihphnmdaaW.PrintMore
attribute [local go_sem] max2_int min2_int max_two min_two max_three min_three max_four min_four   -- for this text's walks alone
set_option linter.unusedVariables false
set_option linter.unusedSimpArgs false

/-! ### laws_markIntSS: function 34 -/
/-- A row of rows that lie apart: its row i is lent, written, and given back. -/
theorem lend_row {g base n cap : Nat} {ok : Nat → Prop} {W : World} {xs : List (List Int)} (h : Kd.S (Kd.slice 3 (Kd.int .i64)) 22 W base ok (.slice (some ⟨g, 0, none⟩) n cap) xs) (i : Int) (h0 : 0 ≤ i) (h1 : i < n) :
    ∃ (vi : Value) (oki : Nat → Prop), W.cell? ⟨g, i.toNat, none⟩ = some vi ∧ Kd.R (Kd.int .i64) 3 W base oki vi (xs.getD i.toNat []) ∧ (∀ k, oki k → ok k) ∧
      ∀ (W1 : World) (x' : List Int) (okp : Nat → Prop), Kd.R (Kd.int .i64) 3 W1 base okp vi x' → Kept W W1 oki → Kd.S (Kd.slice 3 (Kd.int .i64)) 22 W1 base ok (.slice (some ⟨g, 0, none⟩) n cap) (xs.set i.toNat x') := by
  obtain ⟨oki, c, hc, hM, hcell, hok, hH⟩ := Kd.S_lend h [] i h0 h1
  obtain ⟨vi, rfl, hR⟩ := hM
  refine ⟨vi, oki, ?_, hR, fun k hk => (hok k hk).1, fun W1 x' okp hR1 hK => ?_⟩
  · have := hcell 0 vi rfl
    simpa [Kd.slice] using this
  · refine Kd.H_back (okp := fun k => some k = vi.ownBlock) (Kd.H_step hH (fun k _ hn hlt => hK.2 k hlt hn)) ⟨vi, rfl, Kd.R_tight rfl hR1⟩ (fun k hk => hR.1 k hk.symm)
def laws_markIntSS.l0 : Nat → List (List Int) → Int → Int → Option (Int × List (List Int))
  | 0, _, _, _ => none
  | k + 1, x0, x1, x5 => if x5 < (x0.length : Int) then (if 0 ≤ x5 then ((laws_markIntS.f k (x0.getD x5.toNat []) x1).bind fun bt => (laws_markIntSS.l0 k (x0.set x5.toNat bt.2) bt.1 (wrap64 (x5 + 1)))) else none) else (some (x1, x0))
def laws_markIntSS.f (k : Nat) (l0 : List (List Int)) (a1 : Int) : Option (Int × List (List Int)) := laws_markIntSS.l0 k l0 a1 0
set_option maxHeartbeats 8000000 in
set_option maxRecDepth 100000 in
theorem laws_markIntSS.calls (k : Nat) (P0_ : Nat → Prop) (u : Value) (l0 : List (List Int)) (a1 : Int) (r1 : Int) (r2 : List (List Int)) (w0 w : World) (hB : Below w0.heap.size w0 w) (ho0 : Kd.S (Kd.slice 3 (Kd.int .i64)) 22 w w0.heap.size P0_ u l0) (h : laws_markIntSS.f k l0 a1 = some (r1, r2)) :
    Calls Try.prog 34 #[u, .int .i64 a1] w fun e w' => e = .returned (.int .i64 r1) ∧ Kd.S (Kd.slice 3 (Kd.int .i64)) 22 w' w0.heap.size P0_ u r2 ∧ Below w0.heap.size w0 w' ∧ Kept w w' P0_ := by
  obtain ⟨A, co, rfl⟩ := Kd.S_slice ho0
  have HO := Aside0.mk ho0
  have HK := Aside0.mk (Kept.refl w P0_)
  have HB := Aside0.mk hB
  clear hB ho0
  have H' := Aside0.mk (show (laws_markIntSS.l0 k l0 a1 0) = some (r1, r2) from h)
  clear h
  generalize hn : l0.length = n at HO ⊢
  clear hn
  go_enter Try.func34, Try.ntmps34
  go_wp2
  go_loopg [1, 5] k (fun kq v1 v5 w' => ∃ (x0_1 : List (List Int)) (x1_1 : Int) (x5_1 : Int), v1 = .int .i64 x1_1 ∧ v5 = .int .i64 x5_1 ∧ Aside0 (laws_markIntSS.l0 kq x0_1 x1_1 x5_1 = some (r1, r2)) ∧ Aside0 (kq ≤ k) ∧ Aside0 (Kd.S (Kd.slice 3 (Kd.int .i64)) 22 w' w0.heap.size P0_ (.slice A n co) x0_1) ∧ Aside0 (Kept w w' P0_) ∧ Aside0 (Below w0.heap.size w0 w'))
  case atStart => exact ⟨l0, a1, 0, rfl, rfl, H', ⟨Nat.le_refl _⟩, HO, HK, HB⟩
  case round =>
    clear H' HO HK HB
    obtain ⟨x0_1, x1_1, x5_1, rfl, rfl, HA, HK1, HO, HK, HB⟩ := hrel
    cases gk with
    | zero => exact absurd HA.out (by simp [laws_markIntSS.l0])
    | succ k1 =>
      have H := HA.out
      clear HA
      have hlen := (Kd.S_reads' HO.out).1
      simp only [laws_markIntSS.l0] at H
      by_cases c3 : x5_1 < (x0_1.length : Int)
      · rw [if_pos c3] at H
        have c3b0 : decide (x5_1 < (n : Int)) = true := decide_eq_true (by omega)
        by_cases c4 : 0 ≤ x5_1
        · rw [if_pos c4] at H
          obtain ⟨⟨m, x'⟩, A0, H⟩ := Option.bind_eq_some_iff.mp H
          replace H : laws_markIntSS.l0 k1 (x0_1.set x5_1.toNat x') m (wrap64 (x5_1 + 1)) = some (r1, r2) := H
          have H' := Aside0.mk H
          clear H
          obtain ⟨g, cap, ev, -, -, -⟩ := Kd.S_form HO.out (by omega)
          injection ev with eA en ec
          subst eA
          have h1 : x5_1 < n := by omega
          obtain ⟨vi, oki, hcell, hRi, hok, hback⟩ := lend_row HO.out x5_1 c4 h1
          have hcall := Aside0.mk (laws_markIntS.calls k1 oki vi _ x1_1 m x' w0 wr HB.out hRi A0)
          obtain ⟨Ai, ci, rfl⟩ := Kd.R_slice hRi
          have HBK := Aside0.mk hback
          have HOK := Aside0.mk hok
          clear hback hok hRi A0 hlen HO HB en ec
          have c4b : decide (0 ≤ x5_1) = true := decide_eq_true c4
          have p5 := eq_true c4
          have q5 := eq_true h1
          clear c3 c4 h1
          go_wp2_with (go_at_call 73; refine hcall.out.mono ?_; rintro e w1 ⟨rfl, hR1, hB1, hK1⟩; have HR1 := Aside0.mk hR1; have HB1 := Aside0.mk hB1; have HK2 := Aside0.mk hK1; clear hR1 hB1 hK1)
          go_roundg k1
          case measure => have := HK1.out; omega
          case rel => exact ⟨x0_1.set x5_1.toNat x', m, wrap64 (x5_1 + 1), rfl, (by first | rfl | (simp; done)), H', ⟨by have := HK1.out; omega⟩, ⟨HBK.out _ x' _ HR1.out HK2.out⟩, ⟨HK.out.then_ HK2.out (fun k hk => .inl (HOK.out k hk))⟩, HB1⟩
        · rw [if_neg c4] at H
          exact absurd H (by simp)
      · rw [if_neg c3] at H
        have c3b0 : decide (x5_1 < (n : Int)) = false := decide_eq_false (by omega)
        clear c3 hlen
        simp only [Option.some.injEq, Prod.mk.injEq] at H
        obtain ⟨rfl, rfl⟩ := H
        go_wp2
        go_ret
        exact ⟨rfl, HO.out, HB.out, HK.out⟩

/-! ### laws_heldIntS: function 74 -/
def laws_heldIntS.l0 : Nat → List Int → Int → Int → Option (Int)
  | 0, _, _, _ => none
  | k + 1, x0, x1, x5 => if x5 < (x0.length : Int) then (if 0 ≤ x5 then (if (rd x0 x5) = x1 then (laws_heldIntS.l0 k x0 (wrap64 (x1 + 1)) (wrap64 (x5 + 1))) else (some (-1))) else (none)) else (some x1)
def laws_heldIntS.f (k : Nat) (l0 : List Int) (a1 : Int) : Option (Int) := laws_heldIntS.l0 k l0 a1 0
theorem laws_heldIntS.mono_l : ∀ k, (∀ y0 y1 y2, LeO (laws_heldIntS.l0 k y0 y1 y2) (laws_heldIntS.l0 (k + 1) y0 y1 y2))
  | 0 => fun _ _ _ r h => by simp [laws_heldIntS.l0] at h
  | k + 1 => by
    have ih0 := laws_heldIntS.mono_l k
    · intro y0 y1 y2
      unfold laws_heldIntS.l0
      repeat' first
      | (with_reducible exact ih0 _ _ _)
      | (with_reducible exact LeO.refl _)
      | (with_reducible exact LeO.none _)
      | (with_reducible refine LeO.ite ?_ ?_)
      | (with_reducible refine LeO.bind ?_ (fun _ => ?_))
      | exact ih0 _ _ _
      | exact LeO.none _
      | refine LeO.ite ?_ ?_
      | refine LeO.bind ?_ (fun _ => ?_)
theorem laws_heldIntS.mono : ∀ a0 a1 k, LeO (laws_heldIntS.f k a0 a1) (laws_heldIntS.f (k + 1) a0 a1) := by
  intro a0 a1 k
  have ih0 := laws_heldIntS.mono_l k
  unfold laws_heldIntS.f
  repeat' first
      | (with_reducible exact ih0 _ _ _)
      | (with_reducible exact LeO.refl _)
      | (with_reducible exact LeO.none _)
      | (with_reducible refine LeO.ite ?_ ?_)
      | (with_reducible refine LeO.bind ?_ (fun _ => ?_))
      | exact ih0 _ _ _
      | exact LeO.none _
      | refine LeO.ite ?_ ?_
      | refine LeO.bind ?_ (fun _ => ?_)
set_option maxHeartbeats 8000000 in
set_option maxRecDepth 100000 in
theorem laws_heldIntS.calls (k : Nat) (A0 : Option Addr) (c0 : Nat) (l0 : List Int) (a1 : Int) (r : Int) (w : World) (hr0 : Kd.C (Kd.int .i64) w A0 l0.length l0) (hc0 : l0.length ≤ c0) (h : laws_heldIntS.f k l0 a1 = some r) :
    Calls Try.prog 74 #[.slice A0 l0.length c0, .int .i64 a1] w fun e w' => e = .returned (.int .i64 r) ∧ Drawn0 w w' := by
  have HR0 := Aside0.mk hr0
  have HC0 := Aside0.mk hc0
  clear hr0 hc0
  have H : (laws_heldIntS.l0 k l0 a1 0) = some r := h
  clear h
  have H' := Aside0.mk H
  clear H
  go_enter Try.func74, Try.ntmps74
  go_wp2
  go_loopg [1, 5] k (fun kq v1 v5 w' => ∃ (x1_1 : Int) (x5_1 : Int), v1 = .int .i64 x1_1 ∧ v5 = .int .i64 x5_1 ∧ Aside0 (laws_heldIntS.l0 kq l0 x1_1 x5_1 = some r) ∧ Aside0 (kq ≤ k) ∧ Drawn0 w w')
  case atStart => exact ⟨(a1), (0), (by first | rfl | (simp; done) | (simp [*]; done)), (by first | rfl | (simp; done) | (simp [*]; done)), H', ⟨Nat.le_refl _⟩, by repeat (first | exact Drawn0.refl _ | apply Drawn0.step)⟩
  case round =>
    clear H'
    try clear p2
    obtain ⟨x1_1, x5_1, rfl, rfl, HA, HK1, ⟨m1, rfl⟩⟩ := hrel
    cases gk with
    | zero => exact absurd HA.out (by simp [laws_heldIntS.l0])
    | succ k1 =>
      have H := HA.out
      clear HA
      simp only [laws_heldIntS.l0] at H
      by_cases c3 : x5_1 < (l0.length : Int)
      · rw [if_pos c3] at H
        have c3b0 : decide (x5_1 < (l0.length : Int)) = true := decide_eq_true c3
        clear c3
        by_cases c4 : 0 ≤ x5_1
        · rw [if_pos c4] at H
          have c4b0 : decide (0 ≤ x5_1) = true := decide_eq_true c4
          clear c4
          by_cases c5 : (rd l0 x5_1) = x1_1
          · rw [if_pos c5] at H
            have c5b0 : ((rd l0 x5_1) == x1_1) = true := beq_iff_eq.mpr c5
            have c5b1 : ((rd l0 x5_1) != x1_1) = false := bne_eq_false_iff_eq.mpr c5
            clear c5
            have H' := Aside0.mk H
            clear H
            have p284 : 0 ≤ (x5_1 : Int) := of_decide_eq_true (by first | (with_reducible assumption) | assumption)
            have q284 : x5_1 < (l0.length : Int) := of_decide_eq_true (by first | (with_reducible assumption) | assumption)
            obtain ⟨ad284, e284, hx284_0⟩ := Kd.at_int HR0.out x5_1 p284 q284
            cases e284
            replace p284 := eq_true p284
            replace q284 := eq_true q284
            go_wp2
            go_roundg k1
            case measure => have := HK1.out; omega
            case rel => exact ⟨(wrap64 (x1_1 + 1)), (wrap64 (x5_1 + 1)), (by first | rfl | (simp; done) | (simp [*]; done)), (by first | rfl | (simp; done) | (simp [*]; done)), H', ⟨by have := HK1.out; omega⟩, by repeat (first | exact Drawn0.refl _ | apply Drawn0.step)⟩
          · rw [if_neg c5] at H
            have c5b0 : ((rd l0 x5_1) == x1_1) = false := beq_eq_false_iff_ne.mpr c5
            have c5b1 : ((rd l0 x5_1) != x1_1) = true := bne_iff_ne.mpr c5
            obtain rfl := Option.some.inj H
            have p284 : 0 ≤ (x5_1 : Int) := of_decide_eq_true (by first | (with_reducible assumption) | assumption)
            have q284 : x5_1 < (l0.length : Int) := of_decide_eq_true (by first | (with_reducible assumption) | assumption)
            obtain ⟨ad284, e284, hx284_0⟩ := Kd.at_int HR0.out x5_1 p284 q284
            cases e284
            replace p284 := eq_true p284
            replace q284 := eq_true q284
            go_wp2
            go_ret
            exact ⟨by first | rfl | (simp; done) | (simp [*]; done), by repeat (first | exact Drawn0.refl _ | apply Drawn0.step)⟩
        · rw [if_neg c4] at H
          exact absurd H (by simp)
      · rw [if_neg c3] at H
        have c3b0 : decide (x5_1 < (l0.length : Int)) = false := decide_eq_false c3
        clear c3
        obtain rfl := Option.some.inj H
        go_wp2
        go_ret
        exact ⟨by first | rfl | (simp; done) | (simp [*]; done), by repeat (first | exact Drawn0.refl _ | apply Drawn0.step)⟩

/-! ### laws_heldIntSS: function 35 -/
def laws_heldIntSS.l0 : Nat → List (List Int) → Int → Int → Option (Int)
  | 0, _, _, _ => none
  | k + 1, x0, x1, x5 => if x5 < (x0.length : Int) then (if 0 ≤ x5 then ((laws_heldIntS.f k (rd_L1 x0 x5) x1).bind fun t286 => (if t286 < 0 then (some (-1)) else (laws_heldIntSS.l0 k x0 t286 (wrap64 (x5 + 1))))) else (none)) else (some x1)
def laws_heldIntSS.f (k : Nat) (l0 : List (List Int)) (a1 : Int) : Option (Int) := laws_heldIntSS.l0 k l0 a1 0
theorem laws_heldIntSS.mono_l : ∀ k, (∀ y0 y1 y2, LeO (laws_heldIntSS.l0 k y0 y1 y2) (laws_heldIntSS.l0 (k + 1) y0 y1 y2))
  | 0 => fun _ _ _ r h => by simp [laws_heldIntSS.l0] at h
  | k + 1 => by
    have ih0 := laws_heldIntSS.mono_l k
    · intro y0 y1 y2
      unfold laws_heldIntSS.l0
      repeat' first
      | (with_reducible exact ih0 _ _ _)
      | (with_reducible exact laws_heldIntS.mono _ _ _)
      | (with_reducible exact LeO.refl _)
      | (with_reducible exact LeO.none _)
      | (with_reducible refine LeO.ite ?_ ?_)
      | (with_reducible refine LeO.bind ?_ (fun _ => ?_))
      | exact ih0 _ _ _
      | exact laws_heldIntS.mono _ _ _
      | exact LeO.none _
      | refine LeO.ite ?_ ?_
      | refine LeO.bind ?_ (fun _ => ?_)
theorem laws_heldIntSS.mono : ∀ a0 a1 k, LeO (laws_heldIntSS.f k a0 a1) (laws_heldIntSS.f (k + 1) a0 a1) := by
  intro a0 a1 k
  have ih0 := laws_heldIntSS.mono_l k
  unfold laws_heldIntSS.f
  repeat' first
      | (with_reducible exact ih0 _ _ _)
      | (with_reducible exact laws_heldIntS.mono _ _ _)
      | (with_reducible exact LeO.refl _)
      | (with_reducible exact LeO.none _)
      | (with_reducible refine LeO.ite ?_ ?_)
      | (with_reducible refine LeO.bind ?_ (fun _ => ?_))
      | exact ih0 _ _ _
      | exact laws_heldIntS.mono _ _ _
      | exact LeO.none _
      | refine LeO.ite ?_ ?_
      | refine LeO.bind ?_ (fun _ => ?_)
set_option maxHeartbeats 8000000 in
set_option maxRecDepth 100000 in
theorem laws_heldIntSS.calls (k : Nat) (A0 : Option Addr) (c0 : Nat) (l0 : List (List Int)) (a1 : Int) (r : Int) (w : World) (hr0 : Kd.C (Kd.slice 3 (Kd.int .i64)) w A0 l0.length l0) (hc0 : l0.length ≤ c0) (h : laws_heldIntSS.f k l0 a1 = some r) :
    Calls Try.prog 35 #[.slice A0 l0.length c0, .int .i64 a1] w fun e w' => e = .returned (.int .i64 r) ∧ Drawn0 w w' := by
  have HR0 := Aside0.mk hr0
  have HC0 := Aside0.mk hc0
  clear hr0 hc0
  have H : (laws_heldIntSS.l0 k l0 a1 0) = some r := h
  clear h
  have H' := Aside0.mk H
  clear H
  go_enter Try.func35, Try.ntmps35
  go_wp2
  go_loopg [1, 5] k (fun kq v1 v5 w' => ∃ (x1_1 : Int) (x5_1 : Int), v1 = .int .i64 x1_1 ∧ v5 = .int .i64 x5_1 ∧ Aside0 (laws_heldIntSS.l0 kq l0 x1_1 x5_1 = some r) ∧ Aside0 (kq ≤ k) ∧ Drawn0 w w')
  case atStart => exact ⟨(a1), (0), (by first | rfl | (simp; done) | (simp [*]; done)), (by first | rfl | (simp; done) | (simp [*]; done)), H', ⟨Nat.le_refl _⟩, by repeat (first | exact Drawn0.refl _ | apply Drawn0.step)⟩
  case round =>
    clear H'
    try clear p2
    obtain ⟨x1_1, x5_1, rfl, rfl, HA, HK1, ⟨m1, rfl⟩⟩ := hrel
    cases gk with
    | zero => exact absurd HA.out (by simp [laws_heldIntSS.l0])
    | succ k1 =>
      have H := HA.out
      clear HA
      simp only [laws_heldIntSS.l0] at H
      by_cases c3 : x5_1 < (l0.length : Int)
      · rw [if_pos c3] at H
        have c3b0 : decide (x5_1 < (l0.length : Int)) = true := decide_eq_true c3
        clear c3
        by_cases c4 : 0 ≤ x5_1
        · rw [if_pos c4] at H
          have c4b0 : decide (0 ≤ x5_1) = true := decide_eq_true c4
          clear c4
          replace H := Option.bind_eq_some_iff.mp H
          obtain ⟨t286, A50, H⟩ := H
          replace H : (if t286 < 0 then (some (-1)) else (laws_heldIntSS.l0 k1 l0 t286 (wrap64 (x5_1 + 1)))) = some r := H
          have A5 := Aside0.mk A50
          clear A50
          by_cases c6 : t286 < 0
          · rw [if_pos c6] at H
            have c6b0 : decide (t286 < 0) = true := decide_eq_true c6
            clear c6
            obtain rfl := Option.some.inj H
            have p285 : 0 ≤ (x5_1 : Int) := of_decide_eq_true (by first | (with_reducible assumption) | assumption)
            have q285 : x5_1 < (l0.length : Int) := of_decide_eq_true (by first | (with_reducible assumption) | assumption)
            obtain ⟨ad285, A285_0, c285_0, e285, hx285_0, hl285_0, hi285_0⟩ := at_L1 HR0.out x5_1 p285 q285
            cases e285
            have HR285_0 := Aside0.mk hi285_0
            have HC285_0 := Aside0.mk hl285_0
            clear hi285_0 hl285_0
            replace p285 := eq_true p285
            replace q285 := eq_true q285
            go_wp2_with (first | ((with_reducible refine gate_callee (f := 74) rfl ?_); refine goesL_ (some 17) rfl rfl Try.func74 (by kernel_rfl) rfl #[.slice A285_0 (rd_L1 l0 x5_1).length c285_0, .int .i64 x1_1] rfl (by (try simp only [List.map_toArray, List.map_cons, List.map_nil]); first | done | rfl | (simp only [List.length_drop, List.length_take]; rfl)) ?_; (with_reducible refine (laws_heldIntS.calls k1 _ _ (rd_L1 l0 x5_1) x1_1 t286 _ ?side1 ?side2 A5.out).mono ?_); (case side1 => repeat (first | exact HR285_0.out | (with_reducible refine Kd.C_alloc ?_ _) | (with_reducible refine Kd.C_drewN ?_ _) | (with_reducible refine Kd.C_drew ?_))); (case side2 => exact HC285_0.out); rintro e w' ⟨rfl, ⟨nd, rfl⟩⟩; refine ⟨_, rfl, ?_⟩))
            go_ret
            exact ⟨by first | rfl | (simp; done) | (simp [*]; done), by repeat (first | exact Drawn0.refl _ | apply Drawn0.step)⟩
          · rw [if_neg c6] at H
            have c6b0 : decide (t286 < 0) = false := decide_eq_false c6
            clear c6
            have H' := Aside0.mk H
            clear H
            have p285 : 0 ≤ (x5_1 : Int) := of_decide_eq_true (by first | (with_reducible assumption) | assumption)
            have q285 : x5_1 < (l0.length : Int) := of_decide_eq_true (by first | (with_reducible assumption) | assumption)
            obtain ⟨ad285, A285_0, c285_0, e285, hx285_0, hl285_0, hi285_0⟩ := at_L1 HR0.out x5_1 p285 q285
            cases e285
            have HR285_0 := Aside0.mk hi285_0
            have HC285_0 := Aside0.mk hl285_0
            clear hi285_0 hl285_0
            replace p285 := eq_true p285
            replace q285 := eq_true q285
            go_wp2_with (first | ((with_reducible refine gate_callee (f := 74) rfl ?_); refine goesL_ (some 17) rfl rfl Try.func74 (by kernel_rfl) rfl #[.slice A285_0 (rd_L1 l0 x5_1).length c285_0, .int .i64 x1_1] rfl (by (try simp only [List.map_toArray, List.map_cons, List.map_nil]); first | done | rfl | (simp only [List.length_drop, List.length_take]; rfl)) ?_; (with_reducible refine (laws_heldIntS.calls k1 _ _ (rd_L1 l0 x5_1) x1_1 t286 _ ?side1 ?side2 A5.out).mono ?_); (case side1 => repeat (first | exact HR285_0.out | (with_reducible refine Kd.C_alloc ?_ _) | (with_reducible refine Kd.C_drewN ?_ _) | (with_reducible refine Kd.C_drew ?_))); (case side2 => exact HC285_0.out); rintro e w' ⟨rfl, ⟨nd, rfl⟩⟩; refine ⟨_, rfl, ?_⟩))
            go_roundg k1
            case measure => have := HK1.out; omega
            case rel => exact ⟨(t286), (wrap64 (x5_1 + 1)), (by first | rfl | (simp; done) | (simp [*]; done)), (by first | rfl | (simp; done) | (simp [*]; done)), H', ⟨by have := HK1.out; omega⟩, by repeat (first | exact Drawn0.refl _ | apply Drawn0.step)⟩
        · rw [if_neg c4] at H
          exact absurd H (by simp)
      · rw [if_neg c3] at H
        have c3b0 : decide (x5_1 < (l0.length : Int)) = false := decide_eq_false c3
        clear c3
        obtain rfl := Option.some.inj H
        go_wp2
        go_ret
        exact ⟨by first | rfl | (simp; done) | (simp [*]; done), by repeat (first | exact Drawn0.refl _ | apply Drawn0.step)⟩

/-! ### laws_FnExactSwapCouples: function 4 -/
def laws_FnExactSwapCouples.f (k : Nat) (c0 c1 : Int) (l1 : List (List Int)) (i j : Int) : Option Bool := (laws_szIntSS.f k l1 1048576).bind fun t => if t < 0 then some true else
  ((laws_toIntSS.f k l1).bind fun x => (spec_SwapCouples.f k c0 c1 x i j).bind fun s => (impl_SwapCouples.f k c0 c1 x i j).bind fun g => if g = s then ((laws_eqIntSS.f k s.1 s.1).bind fun t1 => if t1 = true then ((laws_eqIntSS.f k x x).bind fun t2 => if t2 = true then
    ((laws_markIntSS.f k x 1).bind fun mx => if mx.1 < 0 then none else ((laws_markIntSS.f k s.1 1).bind fun m => (laws_heldIntSS.f k m.2 1).bind fun q => if q < 0 then none else if q = m.1 then some true else none)) else none) else none) else none)
theorem KeptS {d : Kd (List Int)} {e base : Nat} {ok S : Nat → Prop} {w w1 : World} {v : Value} {xs : List (List Int)} (h : Kd.S d e w base ok v xs) (hk : Kept w w1 S) (hne : ∀ k, ok k → ¬ S k) : Kd.S d e w1 base ok v xs := Kd.S_step h (fun k ho hlt => hk.2 k hlt (hne k ho))
set_option maxHeartbeats 8000000 in
set_option maxRecDepth 100000 in
theorem laws_FnExactSwapCouples.calls (k : Nat) (c0 c1 : Int) (A1 : Option Addr) (ca1 : Nat) (l1 : List (List Int)) (i j : Int) (r : Bool) (w : World) (hr1 : Kd.C (Kd.slice 3 (Kd.int .i64)) w A1 l1.length l1) (hc1 : l1.length ≤ ca1) (h : laws_FnExactSwapCouples.f k c0 c1 l1 i j = some r) :
    Calls Try.prog 4 #[.agg #[.int .i64 c0, .int .i64 c1], .slice A1 l1.length ca1, .int .i64 i, .int .i64 j] w fun e w' => e = .returned (.bool r) ∧ Below w.heap.size w w' := by
  have hu1 := Try.underlying50
  unfold laws_FnExactSwapCouples.f at h
  obtain ⟨t, A20, h⟩ := Option.bind_eq_some_iff.mp h
  have A2 := Aside0.mk fun (W : World) (hb : Below w.heap.size w W) => laws_szIntSS.calls k A1 ca1 l1 1048576 t W (Kd.C_below hr1 hb) hc1 A20
  have HB := Aside0.mk (Below.refl w.heap.size w)
  by_cases c3 : t < 0
  · rw [if_pos c3] at h
    have c3b0 : decide (t < 0) = true := decide_eq_true c3
    obtain rfl := Option.some.inj h
    clear c3 h hr1 hc1 A20
    go_enter Try.func4, Try.ntmps4
    go_wp2_with (first | ((with_reducible refine gate_dst (N := 4) rfl ?_); refine box_event ?hg (N := 4) ?hd (cs := #[.int .i64 c0, .int .i64 c1]) (t := 50) ?hr ?_; (case hd => rfl); (case hg => rfl); (case hr => first | (go_simp; done) | (go_simp; rfl)); intro gb4 hg w4 hbox hb; have nb_ := Aside0.mk (below_step (by repeat (first | (with_reducible first | exact HB.out | apply below_alloc | apply pw_below_drewN | apply below_drew1) | exact HB.out)) hb); have nc_ := Aside0.mk hbox; have nd_ := Aside0.mk ((by rw [hg]; exact (below_size (by repeat (first | (with_reducible first | exact HB.out | apply below_alloc | apply pw_below_drewN | apply below_drew1) | exact HB.out))) : w.heap.size ≤ gb4)); clear HB hb hbox hg; have HB := nb_; have BK4 := nc_; have GE4 := nd_; clear nb_ nc_ nd_; have hz4_0 := (blk_cell BK4.out 0); have hf4_0 := (blk_frozen BK4.out 0); simp at hz4_0; have hz4_1 := (blk_cell BK4.out 1); have hf4_1 := (blk_frozen BK4.out 1); simp at hz4_1; skip) | (go_at_call 28; (refine (A2.out _ (by repeat (first | (with_reducible first | exact HB.out | apply below_alloc | apply pw_below_drewN | apply below_drew1) | exact HB.out))).mono ?_); rintro e w20 ⟨rfl, hd⟩; have hb := hd.below; clear hd; have n0_ := Aside0.mk (blk_below (pk BK4.out) hb); have nb_ := Aside0.mk (below_step (by repeat (first | (with_reducible first | exact HB.out | apply below_alloc | apply pw_below_drewN | apply below_drew1) | exact HB.out)) hb); clear BK4 HB hb; have BK4 := n0_; have HB := nb_; clear nb_ n0_; have hq4_0 := (blk_cell BK4.out 0); have hq4_1 := (blk_cell BK4.out 1); simp at hq4_0; simp at hq4_1))
    go_ret
    exact ⟨rfl, (by repeat (first | (with_reducible first | exact HB.out | apply below_alloc | apply pw_below_drewN | apply below_drew1) | exact HB.out))⟩
  rw [if_neg c3] at h
  have c3b0 : decide (t < 0) = false := decide_eq_false c3
  clear c3
  obtain ⟨x, A70, h⟩ := Option.bind_eq_some_iff.mp h
  obtain ⟨⟨s1, s2⟩, A80, h⟩ := Option.bind_eq_some_iff.mp h
  obtain ⟨g, A100, h⟩ := Option.bind_eq_some_iff.mp h
  dsimp only at h
  by_cases hg : g = (s1, s2)
  rotate_left
  · rw [if_neg hg] at h; exact absurd h (by simp)
  rw [if_pos hg] at h
  subst hg
  obtain ⟨t1, A260, h⟩ := Option.bind_eq_some_iff.mp h
  by_cases ht : t1 = true
  rotate_left
  · rw [if_neg ht] at h; exact absurd h (by simp)
  rw [if_pos ht] at h
  subst ht
  obtain ⟨t2, A340, h⟩ := Option.bind_eq_some_iff.mp h
  by_cases ht : t2 = true
  rotate_left
  · rw [if_neg ht] at h; exact absurd h (by simp)
  rw [if_pos ht] at h
  subst ht
  obtain ⟨⟨m1, m2⟩, A360, h⟩ := Option.bind_eq_some_iff.mp h
  dsimp only at h
  by_cases c5 : m1 < 0
  · rw [if_pos c5] at h; exact absurd h (by simp)
  rw [if_neg c5] at h
  have c5b0 : decide (m1 < 0) = false := decide_eq_false c5
  clear c5
  obtain ⟨⟨m, l'⟩, A60, h⟩ := Option.bind_eq_some_iff.mp h
  obtain ⟨q, A90, h⟩ := Option.bind_eq_some_iff.mp h
  dsimp only at A90 h
  by_cases c6 : q < 0
  · rw [if_pos c6] at h; exact absurd h (by simp)
  rw [if_neg c6] at h
  have c6b0 : decide (q < 0) = false := decide_eq_false c6
  clear c6
  by_cases hm : q = m
  rotate_left
  · rw [if_neg hm] at h; exact absurd h (by simp)
  rw [if_pos hm] at h
  obtain rfl := Option.some.inj h
  have hm0 : (q == m) = true := beq_iff_eq.mpr hm
  have hm1 : (q != m) = false := bne_eq_false_iff_eq.mpr hm
  clear hm h
  have hok1 : (s2 != s2) = false := by simp
  have hok0 : (s2 == s2) = true := by simp
  have A5 := Aside0.mk fun (W : World) => laws_toCompany.calls c0 c1 c0 c1 W rfl
  have A7 := Aside0.mk fun (W : World) (hb : Below w.heap.size w W) => laws_toIntSS.calls k A1 ca1 l1 x W (Kd.C_below hr1 hb) hc1 A70
  have A8 := Aside0.mk fun W A c h1 h2 => spec_SwapCouples.calls k c0 c1 A c x i j s1 s2 W h1 h2 A80
  have A10 := Aside0.mk fun W A c h1 h2 => impl_SwapCouples.calls k c0 c1 A c x i j s1 s2 W h1 h2 A100
  have A26 := Aside0.mk fun W A c A' c' h1 h2 h3 h4 => laws_eqIntSS.calls k A c s1 A' c' s1 true W h1 h2 h3 h4 A260
  have A34 := Aside0.mk fun W A c A' c' h1 h2 h3 h4 => laws_eqIntSS.calls k A c x A' c' x true W h1 h2 h3 h4 A340
  have A36 := Aside0.mk fun P_ u w0 W h1 h2 => laws_markIntSS.calls k P_ u x 1 m1 m2 w0 W h1 h2 A360
  have A6 := Aside0.mk fun P_ u w0 W h1 h2 => laws_markIntSS.calls k P_ u s1 1 m l' w0 W h1 h2 A60
  have A9 := Aside0.mk fun W A c h1 h2 => laws_heldIntSS.calls k A c l' 1 q W h1 h2 A90
  clear A20 A70 A80 A100 A260 A340 A360 A60 A90 hr1 hc1
  go_enter Try.func4, Try.ntmps4
  go_upto_region 5 with (first | ((with_reducible refine gate_dst (N := 4) rfl ?_); refine box_event ?hg (N := 4) ?hd (cs := #[.int .i64 c0, .int .i64 c1]) (t := 50) ?hr ?_; (case hd => rfl); (case hg => rfl); (case hr => first | (go_simp; done) | (go_simp; rfl)); intro gb4 hg w4 hbox hb; have nb_ := Aside0.mk (below_step (by repeat (first | (with_reducible first | exact HB.out | apply below_alloc | apply pw_below_drewN | apply below_drew1) | exact HB.out)) hb); have nc_ := Aside0.mk hbox; have nd_ := Aside0.mk ((by rw [hg]; exact (below_size (by repeat (first | (with_reducible first | exact HB.out | apply below_alloc | apply pw_below_drewN | apply below_drew1) | exact HB.out))) : w.heap.size ≤ gb4)); clear HB hb hbox hg; have HB := nb_; have BK4 := nc_; have GE4 := nd_; clear nb_ nc_ nd_; have hz4_0 := (blk_cell BK4.out 0); have hf4_0 := (blk_frozen BK4.out 0); simp at hz4_0; have hz4_1 := (blk_cell BK4.out 1); have hf4_1 := (blk_frozen BK4.out 1); simp at hz4_1; skip) | (go_at_call 28; (refine (A2.out _ (by repeat (first | (with_reducible first | exact HB.out | apply below_alloc | apply pw_below_drewN | apply below_drew1) | exact HB.out))).mono ?_); rintro e w20 ⟨rfl, hd⟩; have hb := hd.below; clear hd; have n0_ := Aside0.mk (blk_below (pk BK4.out) hb); have nb_ := Aside0.mk (below_step (by repeat (first | (with_reducible first | exact HB.out | apply below_alloc | apply pw_below_drewN | apply below_drew1) | exact HB.out)) hb); clear BK4 HB hb; have BK4 := n0_; have HB := nb_; clear nb_ n0_; have hq4_0 := (blk_cell BK4.out 0); have hq4_1 := (blk_cell BK4.out 1); simp at hq4_0; simp at hq4_1))
  go_upto_region 6 with (first | (go_at_call 30; (refine (A5.out _).mono ?_); rintro e w21 ⟨rfl, hb⟩; have n0_ := Aside0.mk (blk_below (pk BK4.out) hb); have nb_ := Aside0.mk (below_step (by repeat (first | (with_reducible first | exact HB.out | apply below_alloc | apply pw_below_drewN | apply below_drew1) | exact HB.out)) hb); clear BK4 HB hb; have BK4 := n0_; have HB := nb_; clear nb_ n0_; have hq4_0 := (blk_cell BK4.out 0); have hq4_1 := (blk_cell BK4.out 1); simp at hq4_0; simp at hq4_1) | (go_at_call 31; (refine (A7.out _ (by repeat (first | (with_reducible first | exact HB.out | apply below_alloc | apply pw_below_drewN | apply below_drew1) | exact HB.out))).mono ?_); rintro e w23 ⟨v3, rfl, ho, hb⟩; obtain ⟨At, ct, rfl⟩ := Kd.S_slice ho; have HT := Aside0.mk ho; clear ho; have n0_ := Aside0.mk (blk_below (pk BK4.out) hb); have nb_ := Aside0.mk (below_step (by repeat (first | (with_reducible first | exact HB.out | apply below_alloc | apply pw_below_drewN | apply below_drew1) | exact HB.out)) hb); clear BK4 HB hb; have BK4 := n0_; have HB := nb_; clear nb_ n0_; have hq4_0 := (blk_cell BK4.out 0); have hq4_1 := (blk_cell BK4.out 1); simp at hq4_0; simp at hq4_1) | (go_at_call 29; (refine (A8.out _ At ct (Kd.S_reads' (Kd.pS HT.out)).2.2 (Kd.S_reads' HT.out).2.1).mono ?_); rintro e w22 ⟨v2, rfl, ho, hb⟩; obtain ⟨As, cs, rfl⟩ := Kd.S_slice ho; have HS := Aside0.mk (Kd.S_mono (ok' := fun k => k < w22.heap.size) (Kd.S_bound (Kd.S_lower ho (below_size (by repeat (first | (with_reducible first | exact HB.out | apply below_alloc | apply pw_below_drewN | apply below_drew1) | exact HB.out))))) (fun k hk => hk.2.2.1)); clear ho HT; have n0_ := Aside0.mk (blk_below (pk BK4.out) hb); have nb_ := Aside0.mk (below_step (by repeat (first | (with_reducible first | exact HB.out | apply below_alloc | apply pw_below_drewN | apply below_drew1) | exact HB.out)) hb); clear BK4 HB hb; have BK4 := n0_; have HB := nb_; clear nb_ n0_; have hq4_0 := (blk_cell BK4.out 0); have hq4_1 := (blk_cell BK4.out 1); simp at hq4_0; simp at hq4_1))
  have LT4 := Aside0.mk (blk_lt BK4.out)
  go_upto_region 7 with ((go_at_call 31; (refine (A7.out _ (by repeat (first | (with_reducible first | exact HB.out | apply below_alloc | apply pw_below_drewN | apply below_drew1) | exact HB.out))).mono ?_); rintro e w24 ⟨v4, rfl, ho, hb⟩; obtain ⟨Ax, cx, rfl⟩ := Kd.S_slice ho; have HX := Aside0.mk (Kd.S_mono (ok' := fun k => w22.heap.size ≤ k ∧ k < w24.heap.size) (Kd.S_lower (Kd.S_bound ho) (below_size (by repeat (first | (with_reducible first | exact HB.out | apply below_alloc | apply pw_below_drewN | apply below_drew1) | exact HB.out)))) (fun k hk => ⟨Nat.le_trans (below_size (by repeat (first | exact Below.refl _ _ | apply pw_below_drewN | apply below_drew1 | apply below_alloc))) hk.2.1, hk.2.2.1⟩)); have SZ := Aside0.mk (Nat.le_trans (below_size (by repeat (first | exact Below.refl _ _ | apply pw_below_drewN | apply below_drew1 | apply below_alloc))) hb.size : w22.heap.size ≤ w24.heap.size); clear ho; have n0_ := Aside0.mk (blk_below (pk BK4.out) hb); have n1_ := Aside0.mk (Kd.S_below (Kd.pS HS.out) hb); have nb_ := Aside0.mk (below_step (by repeat (first | (with_reducible first | exact HB.out | apply below_alloc | apply pw_below_drewN | apply below_drew1) | exact HB.out)) hb); clear BK4 HS HB hb; have BK4 := n0_; have HS := n1_; have HB := nb_; clear nb_ n0_ n1_; have hq4_0 := (blk_cell BK4.out 0); have hq4_1 := (blk_cell BK4.out 1); simp at hq4_0; simp at hq4_1))
  go_upto_region 8 with (first | (go_at_call 30; refine (A5.out _).mono ?_; rintro e w25 ⟨rfl, hb⟩; have SZ2 := Aside0.mk (Nat.le_trans (below_size (by repeat (first | exact Below.refl _ _ | apply pw_below_drewN | apply below_drew1 | apply below_alloc))) hb.size : w24.heap.size ≤ w25.heap.size); have n0_ := Aside0.mk (blk_below (pk BK4.out) hb); have n1_ := Aside0.mk (Kd.S_below (Kd.pS HS.out) hb); have n2_ := Aside0.mk (Kd.S_below (Kd.pS HX.out) hb); have nb_ := Aside0.mk (below_step (by repeat (first | (with_reducible first | exact HB.out | apply below_alloc | apply pw_below_drewN | apply below_drew1) | exact HB.out)) hb); clear BK4 HS HX HB hb; have BK4 := n0_; have HS := n1_; have HX := n2_; have HB := nb_; clear nb_ n0_ n1_ n2_; have hq4_0 := (blk_cell BK4.out 0); have hq4_1 := (blk_cell BK4.out 1); simp at hq4_0; simp at hq4_1) | (go_at_call 32; (refine (A10.out _ Ax cx (Kd.S_reads' (Kd.pS HX.out)).2.2 (Kd.S_reads' HX.out).2.1).mono ?_); rintro e w26 ⟨v5, rfl, ho, hb⟩; obtain ⟨Ag, cg, rfl⟩ := Kd.S_slice ho; have HG := Aside0.mk (Kd.S_mono (ok' := fun k => w25.heap.size ≤ k ∧ k < w26.heap.size) (Kd.S_lower (Kd.S_bound ho) (below_size (by repeat (first | (with_reducible first | exact HB.out | apply below_alloc | apply pw_below_drewN | apply below_drew1) | exact HB.out)))) (fun k hk => ⟨Nat.le_trans (below_size (by repeat (first | exact Below.refl _ _ | apply pw_below_drewN | apply below_drew1 | apply below_alloc))) hk.2.1, hk.2.2.1⟩)); clear ho; have n0_ := Aside0.mk (blk_below (pk BK4.out) hb); have n1_ := Aside0.mk (Kd.S_below (Kd.pS HS.out) hb); have n2_ := Aside0.mk (Kd.S_below (Kd.pS HX.out) hb); have nb_ := Aside0.mk (below_step (by repeat (first | (with_reducible first | exact HB.out | apply below_alloc | apply pw_below_drewN | apply below_drew1) | exact HB.out)) hb); clear BK4 HS HX HB hb; have BK4 := n0_; have HS := n1_; have HX := n2_; have HB := nb_; clear nb_ n0_ n1_ n2_; have hq4_0 := (blk_cell BK4.out 0); have hq4_1 := (blk_cell BK4.out 1); simp at hq4_0; simp at hq4_1))
  go_upto_region 10 with ((go_at_call 33; (with_reducible refine (A26.out _ Ag cg As cs (Kd.S_reads' (Kd.pS HG.out)).2.2 (Kd.S_reads' HG.out).2.1 (Kd.S_reads' (Kd.pS HS.out)).2.2 (Kd.S_reads' HS.out).2.1).mono ?_); rintro e w27 ⟨rfl, hd⟩; have hb := hd.below; clear hd; have n0_ := Aside0.mk (blk_below (pk BK4.out) hb); have n1_ := Aside0.mk (Kd.S_below (Kd.pS HS.out) hb); have n2_ := Aside0.mk (Kd.S_below (Kd.pS HX.out) hb); have n3_ := Aside0.mk (Kd.S_below (Kd.pS HG.out) hb); have nb_ := Aside0.mk (below_step (by repeat (first | (with_reducible first | exact HB.out | apply below_alloc | apply pw_below_drewN | apply below_drew1) | exact HB.out)) hb); clear BK4 HS HX HG HB hb; have BK4 := n0_; have HS := n1_; have HX := n2_; have HG := n3_; have HB := nb_; clear nb_ n0_ n1_ n2_ n3_; have hq4_0 := (blk_cell BK4.out 0); have hq4_1 := (blk_cell BK4.out 1); simp at hq4_0; simp at hq4_1))
  go_upto_region 12 with (first | (go_at_call 31; (refine (A7.out _ (by repeat (first | (with_reducible first | exact HB.out | apply below_alloc | apply pw_below_drewN | apply below_drew1) | exact HB.out))).mono ?_); rintro e w28 ⟨v6, rfl, ho, hb⟩; obtain ⟨Ay, cy, rfl⟩ := Kd.S_slice ho; have HY := Aside0.mk ho; clear ho; have n0_ := Aside0.mk (blk_below (pk BK4.out) hb); have n1_ := Aside0.mk (Kd.S_below (Kd.pS HS.out) hb); have n2_ := Aside0.mk (Kd.S_below (Kd.pS HX.out) hb); have n3_ := Aside0.mk (Kd.S_below (Kd.pS HG.out) hb); have nb_ := Aside0.mk (below_step (by repeat (first | (with_reducible first | exact HB.out | apply below_alloc | apply pw_below_drewN | apply below_drew1) | exact HB.out)) hb); clear BK4 HS HX HG HB hb; have BK4 := n0_; have HS := n1_; have HX := n2_; have HG := n3_; have HB := nb_; clear nb_ n0_ n1_ n2_ n3_; have hq4_0 := (blk_cell BK4.out 0); have hq4_1 := (blk_cell BK4.out 1); simp at hq4_0; simp at hq4_1) | (go_at_call 33; (with_reducible refine (A34.out _ Ax cx Ay cy (Kd.S_reads' (Kd.pS HX.out)).2.2 (Kd.S_reads' HX.out).2.1 (Kd.S_reads' (Kd.pS HY.out)).2.2 (Kd.S_reads' HY.out).2.1).mono ?_); rintro e w29 ⟨rfl, hd⟩; have hb := hd.below; clear hd; have n0_ := Aside0.mk (blk_below (pk BK4.out) hb); have n1_ := Aside0.mk (Kd.S_below (Kd.pS HS.out) hb); have n2_ := Aside0.mk (Kd.S_below (Kd.pS HX.out) hb); have n3_ := Aside0.mk (Kd.S_below (Kd.pS HG.out) hb); have nb_ := Aside0.mk (below_step (by repeat (first | (with_reducible first | exact HB.out | apply below_alloc | apply pw_below_drewN | apply below_drew1) | exact HB.out)) hb); clear BK4 HS HX HG HB hb; have BK4 := n0_; have HS := n1_; have HX := n2_; have HG := n3_; have HB := nb_; clear nb_ n0_ n1_ n2_ n3_; have hq4_0 := (blk_cell BK4.out 0); have hq4_1 := (blk_cell BK4.out 1); simp at hq4_0; simp at hq4_1))
  go_upto_region 14 with (go_at_call 34; (with_reducible refine (A36.out (fun k => w22.heap.size ≤ k ∧ k < w24.heap.size) (.slice Ax x.length cx) w _ (by repeat (first | (with_reducible first | exact HB.out | apply below_alloc | apply pw_below_drewN | apply below_drew1) | exact HB.out)) (Kd.pS HX.out)).mono ?_); rintro e w30 ⟨rfl, hS, hb, hkp⟩; have n0_ := Aside0.mk ((hkp.2 gb4 (blk_lt (pk BK4.out)) (fun h => by have := LT4.out; omega)).trans (pk BK4.out)); have n1_ := Aside0.mk (KeptS (Kd.pS HS.out) hkp (fun k (hk : k < w22.heap.size) h => by omega)); have n2_ := Aside0.mk (KeptS (Kd.pS HG.out) hkp (fun k hk h => by have := SZ2.out; omega)); have n3_ := Aside0.mk hb; clear BK4 HS HG HX HY HB hb hkp hS; have BK4 := n0_; have HS := n1_; have HG := n2_; have HB := n3_; clear n0_ n1_ n2_ n3_)
  go_upto_region 16 with ((go_at_call 33; (with_reducible refine (A26.out _ Ag cg As cs (Kd.S_reads' (Kd.pS HG.out)).2.2 (Kd.S_reads' HG.out).2.1 (Kd.S_reads' (Kd.pS HS.out)).2.2 (Kd.S_reads' HS.out).2.1).mono ?_); rintro e w31 ⟨rfl, hd⟩; have hb := hd.below; clear hd; have n0_ := Aside0.mk (blk_below (pk BK4.out) hb); have n1_ := Aside0.mk (Kd.S_below (Kd.pS HS.out) hb); have n2_ := Aside0.mk (Kd.S_below (Kd.pS HG.out) hb); have nb_ := Aside0.mk (below_step (by repeat (first | (with_reducible first | exact HB.out | apply below_alloc | apply pw_below_drewN | apply below_drew1) | exact HB.out)) hb); clear BK4 HS HG HB hb; have BK4 := n0_; have HS := n1_; have HG := n2_; have HB := nb_; clear nb_ n0_ n1_ n2_; have hq4_0 := (blk_cell BK4.out 0); have hq4_1 := (blk_cell BK4.out 1); simp at hq4_0; simp at hq4_1))
  go_upto_region 18 with (go_at_call 34; (with_reducible refine (A6.out (fun k => w25.heap.size ≤ k ∧ k < w26.heap.size) (.slice Ag s1.length cg) w _ (by repeat (first | (with_reducible first | exact HB.out | apply below_alloc | apply pw_below_drewN | apply below_drew1) | exact HB.out)) (Kd.pS HG.out)).mono ?_); rintro e w32 ⟨rfl, hS, hb, hkp⟩; have n0_ := Aside0.mk ((hkp.2 gb4 (blk_lt (pk BK4.out)) (fun h => by have := LT4.out; have := SZ.out; have := SZ2.out; omega)).trans (pk BK4.out)); have n1_ := Aside0.mk (KeptS (Kd.pS HS.out) hkp (fun k (hk : k < w22.heap.size) h => by have := SZ.out; have := SZ2.out; omega)); have n2_ := Aside0.mk hS; have n3_ := Aside0.mk hb; clear BK4 HS HG HB hS hb hkp; have BK4 := n0_; have HS := n1_; have HG := n2_; have HB := n3_; clear n0_ n1_ n2_ n3_; have hq4_0 := (blk_cell BK4.out 0); have hq4_1 := (blk_cell BK4.out 1); simp at hq4_0; simp at hq4_1)
  have hlen := (Kd.S_reads' HG.out).1
  have HH := Aside0.mk fun (W : World) (hS : Kd.S (Kd.slice 3 (Kd.int .i64)) 22 W w.heap.size (fun k => w25.heap.size ≤ k ∧ k < w26.heap.size) (.slice Ag s1.length cg) l') => (show Calls Try.prog 35 #[.slice Ag s1.length cg, .int .i64 1] W fun e w' => e = .returned (.int .i64 q) ∧ Drawn0 W w' by rw [hlen]; exact A9.out W Ag cg (Kd.S_reads' hS).2.2 (by rw [← hlen]; exact (Kd.S_reads' hS).2.1))
  clear hlen
  go_upto_region 24 with ((go_at_call 35; (refine (HH.out _ (Kd.pS HG.out)).mono ?_); rintro e w33 ⟨rfl, hd⟩; have hb := hd.below; clear hd; have n0_ := Aside0.mk (blk_below (pk BK4.out) hb); have n1_ := Aside0.mk (Kd.S_below (Kd.pS HS.out) hb); have n2_ := Aside0.mk (Kd.S_below (Kd.pS HG.out) hb); have nb_ := Aside0.mk (below_step (by repeat (first | (with_reducible first | exact HB.out | apply below_alloc | apply pw_below_drewN | apply below_drew1) | exact HB.out)) hb); clear BK4 HS HG HB hb; have BK4 := n0_; have HS := n1_; have HG := n2_; have HB := nb_; clear nb_ n0_ n1_ n2_; have hq4_0 := (blk_cell BK4.out 0); have hq4_1 := (blk_cell BK4.out 1); simp at hq4_0; simp at hq4_1))
  go_upto_region 25 with (first | (go_at_call 30; (refine (A5.out _).mono ?_); rintro e w34 ⟨rfl, hb⟩; have n0_ := Aside0.mk (blk_below (pk BK4.out) hb); have n1_ := Aside0.mk (Kd.S_below (Kd.pS HS.out) hb); have n2_ := Aside0.mk (Kd.S_below (Kd.pS HG.out) hb); have nb_ := Aside0.mk (below_step (by repeat (first | (with_reducible first | exact HB.out | apply below_alloc | apply pw_below_drewN | apply below_drew1) | exact HB.out)) hb); clear BK4 HS HG HB hb; have BK4 := n0_; have HS := n1_; have HG := n2_; have HB := nb_; clear nb_ n0_ n1_ n2_; have hq4_0 := (blk_cell BK4.out 0); have hq4_1 := (blk_cell BK4.out 1); simp at hq4_0; simp at hq4_1) | (go_at_call 31; (refine (A7.out _ (by repeat (first | (with_reducible first | exact HB.out | apply below_alloc | apply pw_below_drewN | apply below_drew1) | exact HB.out))).mono ?_); rintro e w35 ⟨v7, rfl, ho, hb⟩; obtain ⟨Az, cz, rfl⟩ := Kd.S_slice ho; have HZ := Aside0.mk ho; clear ho; have n0_ := Aside0.mk (blk_below (pk BK4.out) hb); have n1_ := Aside0.mk (Kd.S_below (Kd.pS HS.out) hb); have n2_ := Aside0.mk (Kd.S_below (Kd.pS HG.out) hb); have nb_ := Aside0.mk (below_step (by repeat (first | (with_reducible first | exact HB.out | apply below_alloc | apply pw_below_drewN | apply below_drew1) | exact HB.out)) hb); clear BK4 HS HG HB hb; have BK4 := n0_; have HS := n1_; have HG := n2_; have HB := nb_; clear nb_ n0_ n1_ n2_; have hq4_0 := (blk_cell BK4.out 0); have hq4_1 := (blk_cell BK4.out 1); simp at hq4_0; simp at hq4_1) | (go_at_call 32; (refine (A10.out _ Az cz (Kd.S_reads' (Kd.pS HZ.out)).2.2 (Kd.S_reads' HZ.out).2.1).mono ?_); rintro e w36 ⟨v8, rfl, ho, hb⟩; obtain ⟨Ah, ch, rfl⟩ := Kd.S_slice ho; have HI := Aside0.mk ho; clear ho HZ; have n0_ := Aside0.mk (Kd.S_below (Kd.pS HS.out) hb); have n1_ := Aside0.mk (Kd.S_below (Kd.pS HG.out) hb); have nb_ := Aside0.mk (below_step (by repeat (first | (with_reducible first | exact HB.out | apply below_alloc | apply pw_below_drewN | apply below_drew1) | exact HB.out)) hb); clear HS HG HB hb; have HS := n0_; have HG := n1_; have HB := nb_; clear nb_ n0_ n1_))
  go_upto_region 27 with ((go_at_call 33; (with_reducible refine (A26.out _ Ah ch As cs (Kd.S_reads' (Kd.pS HI.out)).2.2 (Kd.S_reads' HI.out).2.1 (Kd.S_reads' (Kd.pS HS.out)).2.2 (Kd.S_reads' HS.out).2.1).mono ?_); rintro e w37 ⟨rfl, hd⟩; have hb := hd.below; clear hd; have n0_ := Aside0.mk (Kd.S_below (Kd.pS HS.out) hb); have n1_ := Aside0.mk (Kd.S_below (Kd.pS HG.out) hb); have nb_ := Aside0.mk (below_step (by repeat (first | (with_reducible first | exact HB.out | apply below_alloc | apply pw_below_drewN | apply below_drew1) | exact HB.out)) hb); clear HS HG HB hb; have HS := n0_; have HG := n1_; have HB := nb_; clear nb_ n0_ n1_))
  go_wp2_with ((go_at_call 35; (refine (HH.out _ (Kd.pS HG.out)).mono ?_); rintro e w38 ⟨rfl, hd⟩; have hb := hd.below; clear hd; have n0_ := Aside0.mk (Kd.S_below (Kd.pS HG.out) hb); have nb_ := Aside0.mk (below_step (by repeat (first | (with_reducible first | exact HB.out | apply below_alloc | apply pw_below_drewN | apply below_drew1) | exact HB.out)) hb); clear HG HB hb; have HG := n0_; have HB := nb_; clear nb_ n0_))
  go_ret
  exact ⟨rfl, (by repeat (first | (with_reducible first | exact HB.out | apply below_alloc | apply pw_below_drewN | apply below_drew1) | exact HB.out))⟩

end Go.Proofs.Ytkdmjjihphnmdaa.QSwap
