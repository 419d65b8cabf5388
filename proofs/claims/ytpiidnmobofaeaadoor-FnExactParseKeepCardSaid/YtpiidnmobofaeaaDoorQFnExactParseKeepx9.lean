/- Contracts of functions of the given program, walked: each call returns what its Lean function says. Conditions: those that stand at each theorem. (Written by a program of this session.) -/
import Derived.Test.YtpiidnmobofaeaaDoorQFnExactParseKeepx0
import Derived.Test.YtpiidnmobofaeaaDoorQFnExactParseKeepx1
import Derived.Test.YtpiidnmobofaeaaDoorQFnExactParseKeepx5
import Derived.Test.YtpiidnmobofaeaaDoorQFnExactParseKeepx7
import Derived.Test.YtpiidnmobofaeaaDoorQFnExactParseKeepx8
namespace Go.Proofs.YtpiidnmobofaeaaDoor.QFnExactParseKeep
open Go.RowKit Go.Proofs.YtpiidnmobofaeaaDoorW.PrintWords Go.Proofs.YtpiidnmobofaeaaDoorW.PrintLast Go.Proofs.YtpiidnmobofaeaaDoorW.PrintMore
attribute [local go_sem] max2_int min2_int max_two min_two max_three min_three max_four min_four   -- for this text's walks alone
set_option linter.unusedVariables false
set_option linter.unusedSimpArgs false

/-! ### laws_markIntS: function 94 -/
def laws_markIntS.l0 : Nat → List Int → Int → Int → Option (Int × List Int)
  | 0, _, _, _ => none
  | k + 1, x0, x1, x5 => if x5 < (x0.length : Int) then (if 0 ≤ x5 then (laws_markIntS.l0 k (x0.set (x5 : Int).toNat x1) (wrap64 (x1 + 1)) (wrap64 (x5 + 1))) else (none)) else (some (x1, x0))
def laws_markIntS.f (k : Nat) (l0 : List Int) (a1 : Int) : Option (Int × List Int) := laws_markIntS.l0 k l0 a1 0
theorem laws_markIntS.mono_l : ∀ k, (∀ y0 y1 y2, LeO (laws_markIntS.l0 k y0 y1 y2) (laws_markIntS.l0 (k + 1) y0 y1 y2))
  | 0 => fun _ _ _ r h => by simp [laws_markIntS.l0] at h
  | k + 1 => by
    have ih0 := laws_markIntS.mono_l k
    · intro y0 y1 y2
      unfold laws_markIntS.l0
      repeat' first
      | (with_reducible exact ih0 _ _ _)
      | (with_reducible exact LeO.refl _)
      | (with_reducible exact LeO.none _)
      | (with_reducible refine LeO.ite ?_ ?_)
      | (with_reducible refine LeO.bind ?_ (fun _ => ?_))
      | exact ih0 _ _ _
      | exact LeO.none _
      | refine LeO.ite ?_ ?_
      | refine LeO.bind ?_ (fun _ => ?_)
theorem laws_markIntS.mono : ∀ a0 a1 k, LeO (laws_markIntS.f k a0 a1) (laws_markIntS.f (k + 1) a0 a1) := by
  intro a0 a1 k
  have ih0 := laws_markIntS.mono_l k
  unfold laws_markIntS.f
  repeat' first
      | (with_reducible exact ih0 _ _ _)
      | (with_reducible exact LeO.refl _)
      | (with_reducible exact LeO.none _)
      | (with_reducible refine LeO.ite ?_ ?_)
      | (with_reducible refine LeO.bind ?_ (fun _ => ?_))
      | exact ih0 _ _ _
      | exact LeO.none _
      | refine LeO.ite ?_ ?_
      | refine LeO.bind ?_ (fun _ => ?_)
set_option maxHeartbeats 8000000 in
set_option maxRecDepth 100000 in
theorem laws_markIntS.calls (k : Nat) (P0_ : Nat → Prop) (u9000_ : Value) (l0 : List Int) (a1 : Int) (r1 : Int) (r2 : List Int) (w0 w : World) (hB : Below w0.heap.size w0 w) (ho0 : Kd.R (Kd.int .i64) 3 w w0.heap.size P0_ u9000_ l0) (h : laws_markIntS.f k l0 a1 = some (r1, r2)) :
    Calls Tryd.prog 94 #[u9000_, .int .i64 a1] w fun e w' => e = .returned (.int .i64 r1) ∧ Kd.R (Kd.int .i64) 3 w' w0.heap.size (fun k_ => (P0_ k_ ∨ w.heap.size ≤ k_)) u9000_ r2 ∧ Below w0.heap.size w0 w' ∧ Kept w w' (fun k_ => P0_ k_) := by
  have HO0 := Aside0.mk (show Kd.R (Kd.int .i64) 3 w w0.heap.size (fun k_ => (P0_ k_ ∨ w.heap.size ≤ k_)) u9000_ l0 from Kd.R_mono ho0 (fun k_ hk => (.inl hk)))
  have HK := Aside0.mk (Kept.refl w (fun k_ => P0_ k_))
  have HW0 := Aside0.mk hB.size
  have HB := Aside0.mk hB
  clear hB
  have H : (laws_markIntS.l0 k l0 a1 0) = some (r1, r2) := h
  clear h
  have H' := Aside0.mk H
  clear H
  go_enter Tryd.func94, Tryd.ntmps94
  go_wp2
  go_loopg [1, 5] k (fun kq v1 v5 w' => ∃ (x0_1 : List Int) (x1_1 : Int) (x5_1 : Int), v1 = .int .i64 x1_1 ∧ v5 = .int .i64 x5_1 ∧ Aside0 (laws_markIntS.l0 kq x0_1 x1_1 x5_1 = some (r1, r2)) ∧ Aside0 (kq ≤ k) ∧ Aside0 (Kd.R (Kd.int .i64) 3 w' w0.heap.size (fun k_ => (P0_ k_ ∨ w.heap.size ≤ k_)) u9000_ x0_1) ∧ Aside0 (Kept w w' (fun k_ => P0_ k_)) ∧ Aside0 (Below w0.heap.size w0 w'))
  case atStart => exact ⟨(l0), (a1), (0), (by first | rfl | (simp; done) | (simp [*]; done)), (by first | rfl | (simp; done) | (simp [*]; done)), H', ⟨Nat.le_refl _⟩, ⟨by (with_reducible repeat (first | apply Kd.R_alloc | apply Kd.R_drewN | apply Kd.R_drew)); exact HO0.out⟩, ⟨by repeat (first | (with_reducible first | exact HK.out | apply Kept.alloc | apply Kept.drewN | apply Kept.drew) | exact HK.out)⟩, ⟨by repeat (first | (with_reducible first | exact HB.out | apply below_alloc | apply pw_below_drewN | apply below_drew1) | exact HB.out)⟩⟩
  case round =>
    clear H'
    try clear p2
    obtain ⟨x0_1, x1_1, x5_1, rfl, rfl, HA, HK1, HO_0, HK, HB⟩ := hrel
    cases gk with
    | zero => exact absurd HA.out (by simp [laws_markIntS.l0])
    | succ k1 =>
      have H := HA.out
      clear HA
      simp only [laws_markIntS.l0] at H
      by_cases c3 : x5_1 < (x0_1.length : Int)
      · rw [if_pos c3] at H
        have c3b0 : decide (x5_1 < (x0_1.length : Int)) = true := decide_eq_true c3
        clear c3
        by_cases c4 : 0 ≤ x5_1
        · rw [if_pos c4] at H
          have c4b0 : decide (0 ≤ x5_1) = true := decide_eq_true c4
          clear c4
          obtain ⟨y215, hy215⟩ : ∃ y_ : List Int, y_ = (x0_1.set (x5_1 : Int).toNat x1_1) := ⟨_, rfl⟩
          replace H : (laws_markIntS.l0 k1 y215 (wrap64 (x1_1 + 1)) (wrap64 (x5_1 + 1))) = some (r1, r2) := by first | (rw [hy215]; with_reducible exact H) | (have H2_ := (Option.bind_some _ _).symm.trans H; rw [hy215]; with_reducible exact H2_) | (have H2_ := (Option.bind_some _ _).symm.trans H; with_reducible exact H2_) | with_reducible exact H | (rw [hy215]; exact H) | exact H
          have Ny215 := Aside0.mk hy215
          clear hy215
          have H' := Aside0.mk H
          clear H
          obtain ⟨Ao6, co6, eo6⟩ := Kd.R_slice HO_0.out
          subst eo6
          have p5 : 0 ≤ (x5_1 : Int) := of_decide_eq_true (by first | (with_reducible assumption) | assumption)
          have q5 : (x5_1 : Int) < ((x0_1.length : Int) : Int) := of_decide_eq_true (by first | (with_reducible assumption) | assumption)
          obtain ⟨go5, co5, eo5, gb5, gl5, cl5, HG5⟩ := Kd.R_form HO_0.out (by omega)
          (first | cases eo5 | (injection eo5 with ea_ en_ ec_; (first | subst ea_ | (injection ea_ with ea_; subst ea_)); subst ec_; clear en_))
          have GB5 := Aside0.mk gb5
          have GG5 := Aside0.mk HG5
          clear gb5 gl5 HG5
          have HMgo5 := Aside0.mk (show (P0_ go5 ∨ w.heap.size ≤ go5) from (HO_0.out.1 _ rfl))
          obtain ⟨hx5_0, hf5_0⟩ := Kd.R_celln 0 HO_0.out (x5_1 : Int) p5 q5
          replace p5 := eq_true p5
          replace q5 := eq_true q5
          have HP7 := Kd.R_putg HO_0.out (x5_1 : Int) x1_1
          go_wp2_with (first | ((with_reducible refine gate_store (t := 3) (p := 15) rfl ?_); refine store_event (t := 3) (p := 15) (v := ?vo_w8) (w1 := (wr.setCell ⟨go5, (x5_1 : Int).toNat, none⟩ (.int .i64 x1_1))) ?hg ?ho ?hn ?hr ?_; (case ho => rfl); (case hg => rfl); (case hn => rfl); (case hr => first | (go_simp; done) | (go_simp; rfl)); intro w8 hw; have hg : wr.grownBy w8 (some go5) := (by rw [hw]; exact HP7.2); have hp_ : Kd.R (Kd.int .i64) 3 w8 w0.heap.size (fun k_ => (P0_ k_ ∨ w.heap.size ≤ k_)) (.slice (some ⟨go5, 0, none⟩) x0_1.length co6) y215 := (by rw [hw, Ny215.out]; exact HP7.1); clear HP7; have n0_ := Aside0.mk (hp_); have n1_ := Aside0.mk ((by rw [hw]; exact below_set (HB.out) GB5.out : Below w0.heap.size w0 w8)); have n2_ := Aside0.mk (Kept.of_grown (S := (fun k_ => P0_ k_)) hg (by repeat (first | (with_reducible first | exact HK.out | apply Kept.alloc | apply Kept.drewN | apply Kept.drew) | exact HK.out)) (fun k_ e_ => (HO_0.out.1 k_ e_))); clear HO_0; clear HB; clear HK; have HO_0 := n0_; have HB := n1_; have HK := n2_; clear n0_ n1_ n2_; clear hg hw hp_))
          go_roundg k1
          case measure => have := HK1.out; omega
          case rel => exact ⟨(y215), (wrap64 (x1_1 + 1)), (wrap64 (x5_1 + 1)), (by first | rfl | (simp; done) | (simp [*]; done)), (by first | rfl | (simp; done) | (simp [*]; done)), H', ⟨by have := HK1.out; omega⟩, ⟨by (with_reducible repeat (first | apply Kd.R_alloc | apply Kd.R_drewN | apply Kd.R_drew)); exact HO_0.out⟩, ⟨by repeat (first | (with_reducible first | exact HK.out | apply Kept.alloc | apply Kept.drewN | apply Kept.drew) | exact HK.out)⟩, ⟨by repeat (first | (with_reducible first | exact HB.out | apply below_alloc | apply pw_below_drewN | apply below_drew1) | exact HB.out)⟩⟩
        · rw [if_neg c4] at H
          exact absurd H (by simp)
      · rw [if_neg c3] at H
        have c3b0 : decide (x5_1 < (x0_1.length : Int)) = false := decide_eq_false c3
        clear c3
        simp only [Option.some.injEq, Prod.mk.injEq] at H
        obtain ⟨rfl, rfl⟩ := H
        obtain ⟨Ao9, co9, eo9⟩ := Kd.R_slice HO_0.out
        subst eo9
        go_wp2
        go_ret
        exact ⟨by first | rfl | (simp [errW_none, errW_some] <;> rfl) | (simp [*, errW_none, errW_some] <;> rfl), by (with_reducible repeat (first | apply Kd.R_alloc | apply Kd.R_drewN | apply Kd.R_drew)); exact HO_0.out, by repeat (first | (with_reducible first | exact HB.out | apply below_alloc | apply pw_below_drewN | apply below_drew1) | exact HB.out), by repeat (first | (with_reducible first | exact HK.out | apply Kept.alloc | apply Kept.drewN | apply Kept.drew) | exact HK.out)⟩

/-! ### laws_markIntSS: function 99 -/
/-- A row of rows that lie apart: its row i is lent, written, and given back. -/
theorem lend_row {g base n cap : Nat} {ok : Nat → Prop} {W : World} {xs : List (List Int)} (h : Kd.S (Kd.slice 3 (Kd.int .i64)) 22 W base ok (.slice (some ⟨g, 0, none⟩) n cap) xs) (i : Int) (h0 : 0 ≤ i) (h1 : i < n) :
    ∃ (vi : Value) (oki : Nat → Prop), W.cell? ⟨g, i.toNat, none⟩ = some vi ∧ Kd.R (Kd.int .i64) 3 W base oki vi (xs.getD i.toNat []) ∧ (∀ k, oki k → ok k) ∧
      ∀ (W1 : World) (x' : List Int) (okp : Nat → Prop), Kd.R (Kd.int .i64) 3 W1 base okp vi x' → Kept W W1 oki → Kd.S (Kd.slice 3 (Kd.int .i64)) 22 W1 base ok (.slice (some ⟨g, 0, none⟩) n cap) (xs.set i.toNat x') := by
  obtain ⟨oki, c, hc, hM, hcell, hok, hH⟩ := Kd.S_lend h [] i h0 h1
  obtain ⟨vi, rfl, hR⟩ := hM
  refine ⟨vi, oki, ?_, hR, fun k hk => (hok k hk).1, fun W1 x' okp hR1 hK => ?_⟩
  · have := hcell 0 vi rfl
    simpa [Kd.slice] using this
  · refine Kd.H_back (okp := fun k => some k = vi.ownBlock) (Kd.H_step hH (fun k _ hn hlt => hK.2 k hlt hn)) ⟨vi, rfl, Kd.R_tight rfl hR1⟩ (fun k hk => hR.1 k hk.symm)
def laws_markIntSS.l0 : Nat → List (List Int) → Int → Int → Option (Int × List (List Int))
  | 0, _, _, _ => none
  | k + 1, x0, x1, x5 => if x5 < (x0.length : Int) then (if 0 ≤ x5 then ((laws_markIntS.f k (x0.getD x5.toNat []) x1).bind fun bt => (laws_markIntSS.l0 k (x0.set x5.toNat bt.2) bt.1 (wrap64 (x5 + 1)))) else none) else (some (x1, x0))
def laws_markIntSS.f (k : Nat) (l0 : List (List Int)) (a1 : Int) : Option (Int × List (List Int)) := laws_markIntSS.l0 k l0 a1 0
set_option maxHeartbeats 8000000 in
set_option maxRecDepth 100000 in
theorem laws_markIntSS.calls (k : Nat) (P0_ : Nat → Prop) (u : Value) (l0 : List (List Int)) (a1 : Int) (r1 : Int) (r2 : List (List Int)) (w0 w : World) (hB : Below w0.heap.size w0 w) (ho0 : Kd.S (Kd.slice 3 (Kd.int .i64)) 22 w w0.heap.size P0_ u l0) (h : laws_markIntSS.f k l0 a1 = some (r1, r2)) :
    Calls Tryd.prog 99 #[u, .int .i64 a1] w fun e w' => e = .returned (.int .i64 r1) ∧ Kd.S (Kd.slice 3 (Kd.int .i64)) 22 w' w0.heap.size P0_ u r2 ∧ Below w0.heap.size w0 w' ∧ Kept w w' P0_ := by
  obtain ⟨A, co, rfl⟩ := Kd.S_slice ho0
  have HO := Aside0.mk ho0
  have HK := Aside0.mk (Kept.refl w P0_)
  have HB := Aside0.mk hB
  clear hB ho0
  have H' := Aside0.mk (show (laws_markIntSS.l0 k l0 a1 0) = some (r1, r2) from h)
  clear h
  generalize hn : l0.length = n at HO ⊢
  clear hn
  go_enter Tryd.func99, Tryd.ntmps99
  go_wp2
  go_loopg [1, 5] k (fun kq v1 v5 w' => ∃ (x0_1 : List (List Int)) (x1_1 : Int) (x5_1 : Int), v1 = .int .i64 x1_1 ∧ v5 = .int .i64 x5_1 ∧ Aside0 (laws_markIntSS.l0 kq x0_1 x1_1 x5_1 = some (r1, r2)) ∧ Aside0 (kq ≤ k) ∧ Aside0 (Kd.S (Kd.slice 3 (Kd.int .i64)) 22 w' w0.heap.size P0_ (.slice A n co) x0_1) ∧ Aside0 (Kept w w' P0_) ∧ Aside0 (Below w0.heap.size w0 w'))
  case atStart => exact ⟨l0, a1, 0, rfl, rfl, H', ⟨Nat.le_refl _⟩, HO, HK, HB⟩
  case round =>
    clear H' HO HK HB
    obtain ⟨x0_1, x1_1, x5_1, rfl, rfl, HA, HK1, HO, HK, HB⟩ := hrel
    cases gk with
    | zero => exact absurd HA.out (by simp [laws_markIntSS.l0])
    | succ k1 =>
      have H := HA.out
      clear HA
      have hlen := (Kd.S_reads' HO.out).1
      simp only [laws_markIntSS.l0] at H
      by_cases c3 : x5_1 < (x0_1.length : Int)
      · rw [if_pos c3] at H
        have c3b0 : decide (x5_1 < (n : Int)) = true := decide_eq_true (by omega)
        by_cases c4 : 0 ≤ x5_1
        · rw [if_pos c4] at H
          obtain ⟨⟨m, x'⟩, A0, H⟩ := Option.bind_eq_some_iff.mp H
          replace H : laws_markIntSS.l0 k1 (x0_1.set x5_1.toNat x') m (wrap64 (x5_1 + 1)) = some (r1, r2) := H
          have H' := Aside0.mk H
          clear H
          obtain ⟨g, cap, ev, -, -, -⟩ := Kd.S_form HO.out (by omega)
          injection ev with eA en ec
          subst eA
          have h1 : x5_1 < n := by omega
          obtain ⟨vi, oki, hcell, hRi, hok, hback⟩ := lend_row HO.out x5_1 c4 h1
          have hcall := Aside0.mk (laws_markIntS.calls k1 oki vi _ x1_1 m x' w0 wr HB.out hRi A0)
          obtain ⟨Ai, ci, rfl⟩ := Kd.R_slice hRi
          have HBK := Aside0.mk hback
          have HOK := Aside0.mk hok
          clear hback hok hRi A0 hlen HO HB en ec
          have c4b : decide (0 ≤ x5_1) = true := decide_eq_true c4
          have p5 := eq_true c4
          have q5 := eq_true h1
          clear c3 c4 h1
          go_wp2_with (go_at_call 94; refine hcall.out.mono ?_; rintro e w1 ⟨rfl, hR1, hB1, hK1⟩; have HR1 := Aside0.mk hR1; have HB1 := Aside0.mk hB1; have HK2 := Aside0.mk hK1; clear hR1 hB1 hK1)
          go_roundg k1
          case measure => have := HK1.out; omega
          case rel => exact ⟨x0_1.set x5_1.toNat x', m, wrap64 (x5_1 + 1), rfl, (by first | rfl | (simp; done)), H', ⟨by have := HK1.out; omega⟩, ⟨HBK.out _ x' _ HR1.out HK2.out⟩, ⟨HK.out.then_ HK2.out (fun k hk => .inl (HOK.out k hk))⟩, HB1⟩
        · rw [if_neg c4] at H
          exact absurd H (by simp)
      · rw [if_neg c3] at H
        have c3b0 : decide (x5_1 < (n : Int)) = false := decide_eq_false (by omega)
        clear c3 hlen
        simp only [Option.some.injEq, Prod.mk.injEq] at H
        obtain ⟨rfl, rfl⟩ := H
        go_wp2
        go_ret
        exact ⟨rfl, HO.out, HB.out, HK.out⟩

/-! ### laws_markKeep: function 48 -/
set_option maxHeartbeats 8000000 in
set_option maxRecDepth 100000 in
theorem laws_markKeep.calls (k : Nat) (P0_ : Nat → Prop) (u : Value) (a0 : Int) (l1 : List (List Int)) (a2 : Int) (a1 : Int) (r1 : Int) (r2 : List (List Int)) (w0 w : World) (hB : Below w0.heap.size w0 w) (ho0 : Kd.S (Kd.slice 3 (Kd.int .i64)) 22 w w0.heap.size P0_ u l1) (hP : ∀ k, P0_ k → k < w.heap.size) (h : laws_markIntSS.f k l1 a1 = some (r1, r2)) :
    Calls Tryd.prog 48 #[.agg #[.int .i64 a0, u, .int .i64 a2], .int .i64 a1] w fun e w' => e = .returned (.int .i64 r1) ∧ Kd.S (Kd.slice 3 (Kd.int .i64)) 22 w' w0.heap.size P0_ u r2 ∧ Below w0.heap.size w0 w' ∧ Kept w w' P0_ := by
  obtain ⟨A, co, rfl⟩ := Kd.S_slice ho0
  have HO := Aside0.mk ho0
  have HB := Aside0.mk hB
  have HC := Aside0.mk fun (W : World) (hb : Below w.heap.size w W) => laws_markIntSS.calls k P0_ _ l1 a1 r1 r2 w0 W (below_step hB hb) (Kd.S_below ho0 hb) h
  clear hB ho0 h
  generalize hn : l1.length = n at HO HC ⊢
  clear hn
  go_enter Tryd.func48, Tryd.ntmps48
  go_wp2_with (first | ((with_reducible refine gate_dst (N := 2) rfl ?_); refine box_event ?hg (N := 2) ?hd (cs := #[.int .i64 a0, .slice A n co, .int .i64 a2]) (t := 56) ?hr ?_; (case hd => rfl); (case hg => rfl); (case hr => first | (go_simp; done) | (go_simp; rfl)); intro gb8 hg8 w8 hbox8 hb8; have hz8_0 := (blk_cell hbox8 0); have hf8_0 := (blk_frozen hbox8 0); simp at hz8_0; have hz8_1 := (blk_cell hbox8 1); have hf8_1 := (blk_frozen hbox8 1); simp at hz8_1; have hz8_2 := (blk_cell hbox8 2); have hf8_2 := (blk_frozen hbox8 2); simp at hz8_2; have BK8 := Aside0.mk hbox8; clear hbox8; have GW8 := Aside0.mk (Nat.le_of_eq hg8.symm); clear hg8; skip) | (go_at_call 99; refine (HC.out _ hb8).mono ?_; rintro e w1 ⟨rfl, hS1, hB1, hK1⟩))
  go_ret
  exact ⟨rfl, hS1, hB1, (Kept.of_below hb8 P0_).then_ hK1 (fun k hk => .inl hk)⟩

/-! ### laws_heldIntS: function 95 -/
def laws_heldIntS.l0 : Nat → List Int → Int → Int → Option (Int)
  | 0, _, _, _ => none
  | k + 1, x0, x1, x5 => if x5 < (x0.length : Int) then (if 0 ≤ x5 then (if (rd x0 x5) = x1 then (laws_heldIntS.l0 k x0 (wrap64 (x1 + 1)) (wrap64 (x5 + 1))) else (some (-1))) else (none)) else (some x1)
def laws_heldIntS.f (k : Nat) (l0 : List Int) (a1 : Int) : Option (Int) := laws_heldIntS.l0 k l0 a1 0
theorem laws_heldIntS.mono_l : ∀ k, (∀ y0 y1 y2, LeO (laws_heldIntS.l0 k y0 y1 y2) (laws_heldIntS.l0 (k + 1) y0 y1 y2))
  | 0 => fun _ _ _ r h => by simp [laws_heldIntS.l0] at h
  | k + 1 => by
    have ih0 := laws_heldIntS.mono_l k
    · intro y0 y1 y2
      unfold laws_heldIntS.l0
      repeat' first
      | (with_reducible exact ih0 _ _ _)
      | (with_reducible exact LeO.refl _)
      | (with_reducible exact LeO.none _)
      | (with_reducible refine LeO.ite ?_ ?_)
      | (with_reducible refine LeO.bind ?_ (fun _ => ?_))
      | exact ih0 _ _ _
      | exact LeO.none _
      | refine LeO.ite ?_ ?_
      | refine LeO.bind ?_ (fun _ => ?_)
theorem laws_heldIntS.mono : ∀ a0 a1 k, LeO (laws_heldIntS.f k a0 a1) (laws_heldIntS.f (k + 1) a0 a1) := by
  intro a0 a1 k
  have ih0 := laws_heldIntS.mono_l k
  unfold laws_heldIntS.f
  repeat' first
      | (with_reducible exact ih0 _ _ _)
      | (with_reducible exact LeO.refl _)
      | (with_reducible exact LeO.none _)
      | (with_reducible refine LeO.ite ?_ ?_)
      | (with_reducible refine LeO.bind ?_ (fun _ => ?_))
      | exact ih0 _ _ _
      | exact LeO.none _
      | refine LeO.ite ?_ ?_
      | refine LeO.bind ?_ (fun _ => ?_)
set_option maxHeartbeats 8000000 in
set_option maxRecDepth 100000 in
theorem laws_heldIntS.calls (k : Nat) (A0 : Option Addr) (c0 : Nat) (l0 : List Int) (a1 : Int) (r : Int) (w : World) (hr0 : Kd.C (Kd.int .i64) w A0 l0.length l0) (hc0 : l0.length ≤ c0) (h : laws_heldIntS.f k l0 a1 = some r) :
    Calls Tryd.prog 95 #[.slice A0 l0.length c0, .int .i64 a1] w fun e w' => e = .returned (.int .i64 r) ∧ Drawn0 w w' := by
  have HR0 := Aside0.mk hr0
  have HC0 := Aside0.mk hc0
  clear hr0 hc0
  have H : (laws_heldIntS.l0 k l0 a1 0) = some r := h
  clear h
  have H' := Aside0.mk H
  clear H
  go_enter Tryd.func95, Tryd.ntmps95
  go_wp2
  go_loopg [1, 5] k (fun kq v1 v5 w' => ∃ (x1_1 : Int) (x5_1 : Int), v1 = .int .i64 x1_1 ∧ v5 = .int .i64 x5_1 ∧ Aside0 (laws_heldIntS.l0 kq l0 x1_1 x5_1 = some r) ∧ Aside0 (kq ≤ k) ∧ Drawn0 w w')
  case atStart => exact ⟨(a1), (0), (by first | rfl | (simp; done) | (simp [*]; done)), (by first | rfl | (simp; done) | (simp [*]; done)), H', ⟨Nat.le_refl _⟩, by repeat (first | exact Drawn0.refl _ | apply Drawn0.step)⟩
  case round =>
    clear H'
    try clear p2
    obtain ⟨x1_1, x5_1, rfl, rfl, HA, HK1, ⟨m1, rfl⟩⟩ := hrel
    cases gk with
    | zero => exact absurd HA.out (by simp [laws_heldIntS.l0])
    | succ k1 =>
      have H := HA.out
      clear HA
      simp only [laws_heldIntS.l0] at H
      by_cases c3 : x5_1 < (l0.length : Int)
      · rw [if_pos c3] at H
        have c3b0 : decide (x5_1 < (l0.length : Int)) = true := decide_eq_true c3
        clear c3
        by_cases c4 : 0 ≤ x5_1
        · rw [if_pos c4] at H
          have c4b0 : decide (0 ≤ x5_1) = true := decide_eq_true c4
          clear c4
          by_cases c5 : (rd l0 x5_1) = x1_1
          · rw [if_pos c5] at H
            have c5b0 : ((rd l0 x5_1) == x1_1) = true := beq_iff_eq.mpr c5
            have c5b1 : ((rd l0 x5_1) != x1_1) = false := bne_eq_false_iff_eq.mpr c5
            clear c5
            have H' := Aside0.mk H
            clear H
            have p216 : 0 ≤ (x5_1 : Int) := of_decide_eq_true (by first | (with_reducible assumption) | assumption)
            have q216 : x5_1 < (l0.length : Int) := of_decide_eq_true (by first | (with_reducible assumption) | assumption)
            obtain ⟨ad216, e216, hx216_0⟩ := Kd.at_int HR0.out x5_1 p216 q216
            cases e216
            replace p216 := eq_true p216
            replace q216 := eq_true q216
            go_wp2
            go_roundg k1
            case measure => have := HK1.out; omega
            case rel => exact ⟨(wrap64 (x1_1 + 1)), (wrap64 (x5_1 + 1)), (by first | rfl | (simp; done) | (simp [*]; done)), (by first | rfl | (simp; done) | (simp [*]; done)), H', ⟨by have := HK1.out; omega⟩, by repeat (first | exact Drawn0.refl _ | apply Drawn0.step)⟩
          · rw [if_neg c5] at H
            have c5b0 : ((rd l0 x5_1) == x1_1) = false := beq_eq_false_iff_ne.mpr c5
            have c5b1 : ((rd l0 x5_1) != x1_1) = true := bne_iff_ne.mpr c5
            obtain rfl := Option.some.inj H
            have p216 : 0 ≤ (x5_1 : Int) := of_decide_eq_true (by first | (with_reducible assumption) | assumption)
            have q216 : x5_1 < (l0.length : Int) := of_decide_eq_true (by first | (with_reducible assumption) | assumption)
            obtain ⟨ad216, e216, hx216_0⟩ := Kd.at_int HR0.out x5_1 p216 q216
            cases e216
            replace p216 := eq_true p216
            replace q216 := eq_true q216
            go_wp2
            go_ret
            exact ⟨by first | rfl | (simp; done) | (simp [*]; done), by repeat (first | exact Drawn0.refl _ | apply Drawn0.step)⟩
        · rw [if_neg c4] at H
          exact absurd H (by simp)
      · rw [if_neg c3] at H
        have c3b0 : decide (x5_1 < (l0.length : Int)) = false := decide_eq_false c3
        clear c3
        obtain rfl := Option.some.inj H
        go_wp2
        go_ret
        exact ⟨by first | rfl | (simp; done) | (simp [*]; done), by repeat (first | exact Drawn0.refl _ | apply Drawn0.step)⟩

/-! ### laws_heldIntSS: function 100 -/
def laws_heldIntSS.l0 : Nat → List (List Int) → Int → Int → Option (Int)
  | 0, _, _, _ => none
  | k + 1, x0, x1, x5 => if x5 < (x0.length : Int) then (if 0 ≤ x5 then ((laws_heldIntS.f k (rd_L1 x0 x5) x1).bind fun t218 => (if t218 < 0 then (some (-1)) else (laws_heldIntSS.l0 k x0 t218 (wrap64 (x5 + 1))))) else (none)) else (some x1)
def laws_heldIntSS.f (k : Nat) (l0 : List (List Int)) (a1 : Int) : Option (Int) := laws_heldIntSS.l0 k l0 a1 0
theorem laws_heldIntSS.mono_l : ∀ k, (∀ y0 y1 y2, LeO (laws_heldIntSS.l0 k y0 y1 y2) (laws_heldIntSS.l0 (k + 1) y0 y1 y2))
  | 0 => fun _ _ _ r h => by simp [laws_heldIntSS.l0] at h
  | k + 1 => by
    have ih0 := laws_heldIntSS.mono_l k
    · intro y0 y1 y2
      unfold laws_heldIntSS.l0
      repeat' first
      | (with_reducible exact ih0 _ _ _)
      | (with_reducible exact laws_heldIntS.mono _ _ _)
      | (with_reducible exact LeO.refl _)
      | (with_reducible exact LeO.none _)
      | (with_reducible refine LeO.ite ?_ ?_)
      | (with_reducible refine LeO.bind ?_ (fun _ => ?_))
      | exact ih0 _ _ _
      | exact laws_heldIntS.mono _ _ _
      | exact LeO.none _
      | refine LeO.ite ?_ ?_
      | refine LeO.bind ?_ (fun _ => ?_)
theorem laws_heldIntSS.mono : ∀ a0 a1 k, LeO (laws_heldIntSS.f k a0 a1) (laws_heldIntSS.f (k + 1) a0 a1) := by
  intro a0 a1 k
  have ih0 := laws_heldIntSS.mono_l k
  unfold laws_heldIntSS.f
  repeat' first
      | (with_reducible exact ih0 _ _ _)
      | (with_reducible exact laws_heldIntS.mono _ _ _)
      | (with_reducible exact LeO.refl _)
      | (with_reducible exact LeO.none _)
      | (with_reducible refine LeO.ite ?_ ?_)
      | (with_reducible refine LeO.bind ?_ (fun _ => ?_))
      | exact ih0 _ _ _
      | exact laws_heldIntS.mono _ _ _
      | exact LeO.none _
      | refine LeO.ite ?_ ?_
      | refine LeO.bind ?_ (fun _ => ?_)
set_option maxHeartbeats 8000000 in
set_option maxRecDepth 100000 in
theorem laws_heldIntSS.calls (k : Nat) (A0 : Option Addr) (c0 : Nat) (l0 : List (List Int)) (a1 : Int) (r : Int) (w : World) (hr0 : Kd.C (Kd.slice 3 (Kd.int .i64)) w A0 l0.length l0) (hc0 : l0.length ≤ c0) (h : laws_heldIntSS.f k l0 a1 = some r) :
    Calls Tryd.prog 100 #[.slice A0 l0.length c0, .int .i64 a1] w fun e w' => e = .returned (.int .i64 r) ∧ Drawn0 w w' := by
  have HR0 := Aside0.mk hr0
  have HC0 := Aside0.mk hc0
  clear hr0 hc0
  have H : (laws_heldIntSS.l0 k l0 a1 0) = some r := h
  clear h
  have H' := Aside0.mk H
  clear H
  go_enter Tryd.func100, Tryd.ntmps100
  go_wp2
  go_loopg [1, 5] k (fun kq v1 v5 w' => ∃ (x1_1 : Int) (x5_1 : Int), v1 = .int .i64 x1_1 ∧ v5 = .int .i64 x5_1 ∧ Aside0 (laws_heldIntSS.l0 kq l0 x1_1 x5_1 = some r) ∧ Aside0 (kq ≤ k) ∧ Drawn0 w w')
  case atStart => exact ⟨(a1), (0), (by first | rfl | (simp; done) | (simp [*]; done)), (by first | rfl | (simp; done) | (simp [*]; done)), H', ⟨Nat.le_refl _⟩, by repeat (first | exact Drawn0.refl _ | apply Drawn0.step)⟩
  case round =>
    clear H'
    try clear c1
    try clear p2
    obtain ⟨x1_1, x5_1, rfl, rfl, HA, HK1, ⟨m1, rfl⟩⟩ := hrel
    cases gk with
    | zero => exact absurd HA.out (by simp [laws_heldIntSS.l0])
    | succ k1 =>
      have H := HA.out
      clear HA
      simp only [laws_heldIntSS.l0] at H
      by_cases c3 : x5_1 < (l0.length : Int)
      · rw [if_pos c3] at H
        have c3b0 : decide (x5_1 < (l0.length : Int)) = true := decide_eq_true c3
        clear c3
        by_cases c4 : 0 ≤ x5_1
        · rw [if_pos c4] at H
          have c4b0 : decide (0 ≤ x5_1) = true := decide_eq_true c4
          clear c4
          replace H := Option.bind_eq_some_iff.mp H
          obtain ⟨t218, A50, H⟩ := H
          replace H : (if t218 < 0 then (some (-1)) else (laws_heldIntSS.l0 k1 l0 t218 (wrap64 (x5_1 + 1)))) = some r := H
          have A5 := Aside0.mk A50
          clear A50
          by_cases c6 : t218 < 0
          · rw [if_pos c6] at H
            have c6b0 : decide (t218 < 0) = true := decide_eq_true c6
            clear c6
            obtain rfl := Option.some.inj H
            have p217 : 0 ≤ (x5_1 : Int) := of_decide_eq_true (by first | (with_reducible assumption) | assumption)
            have q217 : x5_1 < (l0.length : Int) := of_decide_eq_true (by first | (with_reducible assumption) | assumption)
            obtain ⟨ad217, A217_0, c217_0, e217, hx217_0, hl217_0, hi217_0⟩ := at_L1 HR0.out x5_1 p217 q217
            cases e217
            have HR217_0 := Aside0.mk hi217_0
            have HC217_0 := Aside0.mk hl217_0
            clear hi217_0 hl217_0
            replace p217 := eq_true p217
            replace q217 := eq_true q217
            go_wp2_with (first | ((with_reducible refine gate_callee (f := 95) rfl ?_); refine goesL_ (some 17) rfl rfl Tryd.func95 (by kernel_rfl) rfl #[.slice A217_0 (rd_L1 l0 x5_1).length c217_0, .int .i64 x1_1] rfl (by (try simp only [List.map_toArray, List.map_cons, List.map_nil]); first | done | rfl | (simp only [List.length_drop, List.length_take]; rfl)) ?_; (with_reducible refine (laws_heldIntS.calls k1 _ _ (rd_L1 l0 x5_1) x1_1 t218 _ ?side1 ?side2 A5.out).mono ?_); (case side1 => repeat (first | exact HR217_0.out | (with_reducible refine Kd.C_alloc ?_ _) | (with_reducible refine Kd.C_drewN ?_ _) | (with_reducible refine Kd.C_drew ?_))); (case side2 => exact HC217_0.out); rintro e w' ⟨rfl, ⟨nd, rfl⟩⟩; refine ⟨_, rfl, ?_⟩))
            go_ret
            exact ⟨by first | rfl | (simp; done) | (simp [*]; done), by repeat (first | exact Drawn0.refl _ | apply Drawn0.step)⟩
          · rw [if_neg c6] at H
            have c6b0 : decide (t218 < 0) = false := decide_eq_false c6
            clear c6
            have H' := Aside0.mk H
            clear H
            have p217 : 0 ≤ (x5_1 : Int) := of_decide_eq_true (by first | (with_reducible assumption) | assumption)
            have q217 : x5_1 < (l0.length : Int) := of_decide_eq_true (by first | (with_reducible assumption) | assumption)
            obtain ⟨ad217, A217_0, c217_0, e217, hx217_0, hl217_0, hi217_0⟩ := at_L1 HR0.out x5_1 p217 q217
            cases e217
            have HR217_0 := Aside0.mk hi217_0
            have HC217_0 := Aside0.mk hl217_0
            clear hi217_0 hl217_0
            replace p217 := eq_true p217
            replace q217 := eq_true q217
            go_wp2_with (first | ((with_reducible refine gate_callee (f := 95) rfl ?_); refine goesL_ (some 17) rfl rfl Tryd.func95 (by kernel_rfl) rfl #[.slice A217_0 (rd_L1 l0 x5_1).length c217_0, .int .i64 x1_1] rfl (by (try simp only [List.map_toArray, List.map_cons, List.map_nil]); first | done | rfl | (simp only [List.length_drop, List.length_take]; rfl)) ?_; (with_reducible refine (laws_heldIntS.calls k1 _ _ (rd_L1 l0 x5_1) x1_1 t218 _ ?side1 ?side2 A5.out).mono ?_); (case side1 => repeat (first | exact HR217_0.out | (with_reducible refine Kd.C_alloc ?_ _) | (with_reducible refine Kd.C_drewN ?_ _) | (with_reducible refine Kd.C_drew ?_))); (case side2 => exact HC217_0.out); rintro e w' ⟨rfl, ⟨nd, rfl⟩⟩; refine ⟨_, rfl, ?_⟩))
            go_roundg k1
            case measure => have := HK1.out; omega
            case rel => exact ⟨(t218), (wrap64 (x5_1 + 1)), (by first | rfl | (simp; done) | (simp [*]; done)), (by first | rfl | (simp; done) | (simp [*]; done)), H', ⟨by have := HK1.out; omega⟩, by repeat (first | exact Drawn0.refl _ | apply Drawn0.step)⟩
        · rw [if_neg c4] at H
          exact absurd H (by simp)
      · rw [if_neg c3] at H
        have c3b0 : decide (x5_1 < (l0.length : Int)) = false := decide_eq_false c3
        clear c3
        obtain rfl := Option.some.inj H
        go_wp2
        go_ret
        exact ⟨by first | rfl | (simp; done) | (simp [*]; done), by repeat (first | exact Drawn0.refl _ | apply Drawn0.step)⟩

/-! ### laws_heldKeep: function 49 -/
def laws_heldKeep.f (k : Nat) (a0_0 : Int) (l0_1 : List (List Int)) (a0_2 : Int) (a1 : Int) : Option (Int) := (laws_heldIntSS.f k l0_1 a1).bind fun t220 => (if t220 < 0 then (some (-1)) else (some t220))
theorem laws_heldKeep.mono : ∀ a0 a1 a2 a3 k, LeO (laws_heldKeep.f k a0 a1 a2 a3) (laws_heldKeep.f (k + 1) a0 a1 a2 a3) := by
  intro a0 a1 a2 a3 k
  unfold laws_heldKeep.f
  repeat' first
      | (with_reducible exact laws_heldIntSS.mono _ _ _)
      | (with_reducible exact LeO.refl _)
      | (with_reducible exact LeO.none _)
      | (with_reducible refine LeO.ite ?_ ?_)
      | (with_reducible refine LeO.bind ?_ (fun _ => ?_))
      | exact laws_heldIntSS.mono _ _ _
      | exact LeO.none _
      | refine LeO.ite ?_ ?_
      | refine LeO.bind ?_ (fun _ => ?_)
set_option maxHeartbeats 8000000 in
set_option maxRecDepth 100000 in
theorem laws_heldKeep.calls (k : Nat) (a0_0 : Int) (A0_1 : Option Addr) (c0_1 : Nat) (l0_1 : List (List Int)) (a0_2 : Int) (a1 : Int) (r : Int) (w : World) (hr0_1 : Kd.C (Kd.slice 3 (Kd.int .i64)) w A0_1 l0_1.length l0_1) (hc0_1 : l0_1.length ≤ c0_1) (h : laws_heldKeep.f k a0_0 l0_1 a0_2 a1 = some r) :
    Calls Tryd.prog 49 #[.agg #[.int .i64 a0_0, .slice A0_1 l0_1.length c0_1, .int .i64 a0_2], .int .i64 a1] w fun e w' => e = .returned (.int .i64 r) ∧ Below w.heap.size w w' := by
  have hu56 := Tryd.underlying56
  have HR0_1 := Aside0.mk hr0_1
  have HC0_1 := Aside0.mk hc0_1
  clear hr0_1 hc0_1
  have HB := Aside0.mk (Below.refl w.heap.size w)
  have H : ((laws_heldIntSS.f k l0_1 a1).bind fun t220 => (if t220 < 0 then (some (-1)) else (some t220))) = some r := h
  clear h
  replace H := Option.bind_eq_some_iff.mp H
  obtain ⟨t220, A30, H⟩ := H
  replace H : (if t220 < 0 then (some (-1)) else (some t220)) = some r := H
  have A3 := Aside0.mk A30
  clear A30
  by_cases c4 : t220 < 0
  · rw [if_pos c4] at H
    have c4b0 : decide (t220 < 0) = true := decide_eq_true c4
    clear c4
    obtain rfl := Option.some.inj H
    go_enter Tryd.func49, Tryd.ntmps49
    go_wp2_with (first | ((with_reducible refine gate_dst (N := 2) rfl ?_); refine box_event ?hg (N := 2) ?hd (cs := #[.int .i64 a0_0, .slice A0_1 l0_1.length c0_1, .int .i64 a0_2]) (t := 56) ?hr ?_; (case hd => rfl); (case hg => rfl); (case hr => first | (go_simp; done) | (go_simp; rfl)); intro gb219 hg w5 hbox hb; have n0_ := Aside0.mk (below_step (by repeat (first | (with_reducible first | exact HB.out | apply below_alloc | apply pw_below_drewN | apply below_drew1) | exact HB.out)) hb); have n1_ := Aside0.mk (hbox); have n2_ := Aside0.mk ((by rw [hg]; exact (below_size (by repeat (first | (with_reducible first | exact HB.out | apply below_alloc | apply pw_below_drewN | apply below_drew1) | exact HB.out))) : w.heap.size ≤ gb219)); have n3_ := Aside0.mk ((by rw [hg]; exact (below_size (by repeat (first | (with_reducible first | exact HB.out | apply below_alloc | apply pw_below_drewN | apply below_drew1) | exact HB.out))) : w.heap.size ≤ gb219)); clear HB; have HB := n0_; have BK219 := n1_; have GW219 := n2_; have GE219 := n3_; clear n0_ n1_ n2_ n3_; clear hb hbox hg; have hcz6_0 : w5.cell? ⟨gb219, 0, none⟩ = some (.int .i64 a0_0) := (blk_cell BK219.out 0).trans rfl; have hcz6_1 : w5.cell? ⟨gb219, 1, none⟩ = some (.slice A0_1 l0_1.length c0_1) := (blk_cell BK219.out 1).trans rfl; have hcz6_2 : w5.cell? ⟨gb219, 2, none⟩ = some (.int .i64 a0_2) := (blk_cell BK219.out 2).trans rfl; have hfz6_0 := blk_frozen BK219.out 0; have hfz6_1 := blk_frozen BK219.out 1; have hfz6_2 := blk_frozen BK219.out 2) | ((with_reducible refine gate_callee (f := 100) rfl ?_); refine goesL_ (some 8) rfl rfl Tryd.func100 (by kernel_rfl) rfl #[.slice A0_1 l0_1.length c0_1, .int .i64 a1] rfl (by (try simp only [List.map_toArray, List.map_cons, List.map_nil]); first | done | rfl | (simp only [List.length_drop, List.length_take]; rfl)) ?_; (with_reducible refine (laws_heldIntSS.calls k _ _ l0_1 a1 t220 _ ?side1 ?side2 A3.out).mono ?_); (case side1 => repeat (first | exact (Kd.C_below HR0_1.out HB.out) | (with_reducible refine Kd.C_alloc ?_ _) | (with_reducible refine Kd.C_drewN ?_ _) | (with_reducible refine Kd.C_drew ?_))); (case side2 => exact HC0_1.out); rintro e w' ⟨rfl, ⟨nd, rfl⟩⟩; refine ⟨_, rfl, ?_⟩))
    go_ret
    exact ⟨by first | rfl | (simp [errW_none, errW_some] <;> rfl) | (simp [*, errW_none, errW_some] <;> rfl), by repeat (first | (with_reducible first | exact HB.out | apply below_alloc | apply pw_below_drewN | apply below_drew1 | refine below_set ?_ GE219.out) | exact HB.out)⟩
  · rw [if_neg c4] at H
    have c4b0 : decide (t220 < 0) = false := decide_eq_false c4
    clear c4
    obtain rfl := Option.some.inj H
    go_enter Tryd.func49, Tryd.ntmps49
    go_wp2_with (first | ((with_reducible refine gate_dst (N := 2) rfl ?_); refine box_event ?hg (N := 2) ?hd (cs := #[.int .i64 a0_0, .slice A0_1 l0_1.length c0_1, .int .i64 a0_2]) (t := 56) ?hr ?_; (case hd => rfl); (case hg => rfl); (case hr => first | (go_simp; done) | (go_simp; rfl)); intro gb219 hg w7 hbox hb; have n0_ := Aside0.mk (below_step (by repeat (first | (with_reducible first | exact HB.out | apply below_alloc | apply pw_below_drewN | apply below_drew1) | exact HB.out)) hb); have n1_ := Aside0.mk (hbox); have n2_ := Aside0.mk ((by rw [hg]; exact (below_size (by repeat (first | (with_reducible first | exact HB.out | apply below_alloc | apply pw_below_drewN | apply below_drew1) | exact HB.out))) : w.heap.size ≤ gb219)); have n3_ := Aside0.mk ((by rw [hg]; exact (below_size (by repeat (first | (with_reducible first | exact HB.out | apply below_alloc | apply pw_below_drewN | apply below_drew1) | exact HB.out))) : w.heap.size ≤ gb219)); clear HB; have HB := n0_; have BK219 := n1_; have GW219 := n2_; have GE219 := n3_; clear n0_ n1_ n2_ n3_; clear hb hbox hg; have hcz8_0 : w7.cell? ⟨gb219, 0, none⟩ = some (.int .i64 a0_0) := (blk_cell BK219.out 0).trans rfl; have hcz8_1 : w7.cell? ⟨gb219, 1, none⟩ = some (.slice A0_1 l0_1.length c0_1) := (blk_cell BK219.out 1).trans rfl; have hcz8_2 : w7.cell? ⟨gb219, 2, none⟩ = some (.int .i64 a0_2) := (blk_cell BK219.out 2).trans rfl; have hfz8_0 := blk_frozen BK219.out 0; have hfz8_1 := blk_frozen BK219.out 1; have hfz8_2 := blk_frozen BK219.out 2) | ((with_reducible refine gate_callee (f := 100) rfl ?_); refine goesL_ (some 8) rfl rfl Tryd.func100 (by kernel_rfl) rfl #[.slice A0_1 l0_1.length c0_1, .int .i64 a1] rfl (by (try simp only [List.map_toArray, List.map_cons, List.map_nil]); first | done | rfl | (simp only [List.length_drop, List.length_take]; rfl)) ?_; (with_reducible refine (laws_heldIntSS.calls k _ _ l0_1 a1 t220 _ ?side1 ?side2 A3.out).mono ?_); (case side1 => repeat (first | exact (Kd.C_below HR0_1.out HB.out) | (with_reducible refine Kd.C_alloc ?_ _) | (with_reducible refine Kd.C_drewN ?_ _) | (with_reducible refine Kd.C_drew ?_))); (case side2 => exact HC0_1.out); rintro e w' ⟨rfl, ⟨nd, rfl⟩⟩; refine ⟨_, rfl, ?_⟩))
    go_ret
    exact ⟨by first | rfl | (simp [errW_none, errW_some] <;> rfl) | (simp [*, errW_none, errW_some] <;> rfl), by repeat (first | (with_reducible first | exact HB.out | apply below_alloc | apply pw_below_drewN | apply below_drew1 | refine below_set ?_ GE219.out) | exact HB.out)⟩

/-! ### laws_FnExactParseKeep: function 10 -/
def laws_FnExactParseKeep.f (k : Nat) (a0 : ByteArray) : Option Bool := if (a0.size : Int) > 1048576 then some true else
  ((spec_ParseKeep.f k a0).bind fun s => ((impl_ParseKeep.f k a0).bind fun g => if g = s then ((laws_eqKeep.f k s.1 s.2.1 s.2.2.1 s.1 s.2.1 s.2.2.1).bind fun t => if t = true then ((laws_markIntSS.f k s.2.1 1).bind fun m => ((laws_heldKeep.f k s.1 m.2 s.2.2.1 1).bind fun q => if q < 0 then none else if q = m.1 then some true else none)) else none) else none))
theorem KeptS {d : Kd (List Int)} {e base : Nat} {ok S : Nat → Prop} {w w1 : World} {v : Value} {xs : List (List Int)} (h : Kd.S d e w base ok v xs) (hk : Kept w w1 S) (hne : ∀ k, ok k → ¬ S k) : Kd.S d e w1 base ok v xs := Kd.S_step h (fun k ho hlt => hk.2 k hlt (hne k ho))
/-- A variable of three cells, behind the stores of all. -/
theorem stored3 {W : World} {g t : Nat} {x0 x1 x2 : Value} (h : W.heap[g]? = some (.cells #[x0, x1, x2] t (0, 0))) (a b c : Value) :
    (((W.setCell ⟨g, 0, none⟩ a).setCell ⟨g, 1, none⟩ b).setCell ⟨g, 2, none⟩ c).heap[g]? = some (.cells #[a, b, c] t (0, 0)) ∧ (∀ k, k ≠ g → (((W.setCell ⟨g, 0, none⟩ a).setCell ⟨g, 1, none⟩ b).setCell ⟨g, 2, none⟩ c).heap[k]? = W.heap[k]?)
      ∧ (((W.setCell ⟨g, 0, none⟩ a).setCell ⟨g, 1, none⟩ b).setCell ⟨g, 2, none⟩ c).heap.size = W.heap.size ∧ ∀ w : World, Below w.heap.size w W → w.heap.size ≤ g → Below w.heap.size w (((W.setCell ⟨g, 0, none⟩ a).setCell ⟨g, 1, none⟩ b).setCell ⟨g, 2, none⟩ c) := by
  refine ⟨blk_put (cs := #[a, b, x2]) (blk_put (cs := #[a, x1, x2]) (blk_put h 0 a rfl) 1 b rfl) 2 c rfl, fun k hk => ?_, ?_, fun w hb hg => below_set (below_set (below_set hb hg) hg) hg⟩
  · rw [Below.heap_setCell _ ⟨g, 2, none⟩ c k hk, Below.heap_setCell _ ⟨g, 1, none⟩ b k hk, Below.heap_setCell _ ⟨g, 0, none⟩ a k hk]
  · have h1 := below_set (w := W) (g := W.heap.size) (j := 0) (v := a) (Below.refl _ W) (Nat.le_refl _)
    simp
set_option maxHeartbeats 8000000 in
set_option maxRecDepth 100000 in
theorem laws_FnExactParseKeep.calls (k : Nat) (a0 : ByteArray) (r : Bool) (w : World) (h : laws_FnExactParseKeep.f k a0 = some r) (hT : Tab w) :
    Calls Tryd.prog 10 #[.string a0] w fun e w' => e = .returned (.bool r) ∧ Below w.heap.size w w' := by
  have HT := Aside0.mk hT
  clear hT
  unfold laws_FnExactParseKeep.f at h
  by_cases c2 : (a0.size : Int) > 1048576
  · rw [if_pos c2] at h
    have c2b0 : decide (1048576 < (a0.size : Int)) = true := decide_eq_true c2
    have c2b1 : decide (1048576 < a0.size) = true := decide_eq_true (by omega)
    clear c2
    obtain rfl := Option.some.inj h
    go_enter Tryd.func10, Tryd.ntmps10
    go_wp2
    go_ret
    exact ⟨rfl, by repeat (first | exact Below.refl _ _ | apply pw_below_drewN | apply below_drew1)⟩
  · rw [if_neg c2] at h
    have c2b0 : decide (1048576 < (a0.size : Int)) = false := decide_eq_false c2
    have c2b1 : decide (1048576 < a0.size) = false := decide_eq_false (by omega)
    clear c2
    obtain ⟨⟨n, l, q, ok⟩, A30, h1⟩ := Option.bind_eq_some_iff.mp h
    clear h
    obtain ⟨g, A40, h2⟩ := Option.bind_eq_some_iff.mp h1
    clear h1
    by_cases hg : g = (n, l, q, ok)
    rotate_left
    · rw [if_neg hg] at h2
      exact absurd h2 (by simp)
    rw [if_pos hg] at h2
    subst hg
    obtain ⟨t, A50, h3⟩ := Option.bind_eq_some_iff.mp h2
    clear h2
    by_cases ht : t = true
    rotate_left
    · rw [if_neg ht] at h3
      exact absurd h3 (by simp)
    rw [if_pos ht] at h3
    subst ht
    obtain ⟨⟨m, l'⟩, A60, h4⟩ := Option.bind_eq_some_iff.mp h3
    clear h3
    obtain ⟨q', A70, h5⟩ := Option.bind_eq_some_iff.mp h4
    clear h4
    by_cases h0 : q' < 0
    · rw [if_pos h0] at h5
      exact absurd h5 (by simp)
    rw [if_neg h0] at h5
    replace h5 : (if q' = m then some true else none) = some r := h5
    by_cases hm : q' = m
    rotate_left
    · rw [if_neg hm] at h5
      exact absurd h5 (by simp)
    rw [if_pos hm] at h5
    obtain rfl := Option.some.inj h5
    clear h5
    have hm0 : (q' == m) = true := beq_iff_eq.mpr hm
    have hm1 : (q' != m) = false := bne_eq_false_iff_eq.mpr hm
    clear hm
    have c0 : decide (q' < 0) = false := decide_eq_false h0
    have A3 := Aside0.mk (fun W => spec_ParseKeep.calls k a0 n l q ok W A30)
    have A4 := Aside0.mk (fun W (hT : Tab W) => impl_ParseKeep.calls k a0 n l q ok W A40 hT)
    have A5 := Aside0.mk (fun W A c A' c' h1 h2 h3 h4 => laws_eqKeep.calls k n A c l q n A' c' l q true W h1 h2 h3 h4 A50)
    have A6 := Aside0.mk (fun P_ u w0 W h1 h2 h3 => laws_markKeep.calls k P_ u n l q 1 m l' w0 W h1 h2 h3 A60)
    have A7 := Aside0.mk (fun W A c h1 h2 => laws_heldKeep.calls k n A c l' q 1 q' W h1 h2 A70)
    have hl : l'.length = l'.length := rfl
    clear A30 A40 A50 A60 A70 h0 hl
    have hok1 : (ok != ok) = false := by simp
    have hu := Tryd.underlying56
    go_enter Tryd.func10, Tryd.ntmps10
    go_upto_region 4 with (first | (go_at_call 46; refine (A3.out _).mono ?_; rintro e w6 ⟨v1, rfl, ho1, hb6⟩; obtain ⟨Aw, cw, rfl⟩ := Kd.S_slice ho1; have HS := Aside0.mk ho1; have HB6 := Aside0.mk hb6; clear ho1 hb6) | ((with_reducible refine gate_dst (N := 3) rfl ?_); refine box_event ?hg (N := 3) ?hd (cs := #[.int .i64 0, .slice none 0 0, .int .i64 0]) (t := 56) ?hr ?_; (case hd => rfl); (case hg => rfl); (case hr => first | (go_simp; done) | (go_simp; rfl)); intro gb8 hg8 w8 hbox8 hb8; have hz8_0 := (blk_cell hbox8 0); have hf8_0 := (blk_frozen hbox8 0); simp at hz8_0; have hz8_1 := (blk_cell hbox8 1); have hf8_1 := (blk_frozen hbox8 1); simp at hz8_1; have hz8_2 := (blk_cell hbox8 2); have hf8_2 := (blk_frozen hbox8 2); simp at hz8_2; have BK8 := Aside0.mk hbox8; clear hbox8; have GW8 := Aside0.mk (Nat.le_of_eq hg8.symm); clear hg8; skip))
    have hgB8 : w.heap.size ≤ gb8 := Nat.le_trans HB6.out.size GW8.out
    obtain ⟨b1, b2, b3, b4⟩ := stored3 BK8.out (.int .i64 n) (.slice Aw l.length cw) (.int .i64 q)
    have HB4 := Aside0.mk (b4 w (below_step HB6.out hb8) hgB8)
    have HS4 := Aside0.mk (Kd.S_step (Kd.S_old HS.out hb8) (fun k hk _ => b2 k (fun e => by have := GW8.out; omega)))
    have HS4b := Aside0.mk (Kd.S_mono HS4.out (fun k hk => (show k < w8.heap.size from Nat.lt_of_lt_of_le hk.2 hb8.size)))
    have BW4 := Aside0.mk b1
    generalize hW4 : ((w8.setCell ⟨gb8, 0, none⟩ (.int .i64 n)).setCell ⟨gb8, 1, none⟩ (.slice Aw l.length cw)).setCell ⟨gb8, 2, none⟩ (.int .i64 q) = W4 at b3 HB4 HS4b BW4 ⊢
    have HS := HS4b
    have b5 : gb8 < W4.heap.size := by have := blk_lt BK8.out; omega
    clear hz8_0 hz8_1 hz8_2 hf8_0 hf8_1 hf8_2
    go_upto_region 5 with (first | (go_at_call 47; refine (A4.out _ (Tab.up HT.out HB4.out)).mono ?_; rintro e w16 ⟨v2, rfl, ho2, hb16⟩; obtain ⟨Ag, cg, rfl⟩ := Kd.S_slice ho2; have HI := Aside0.mk ho2; have HB16 := Aside0.mk hb16; clear ho2 hb16) | ((with_reducible refine gate_dst (N := 5) rfl ?_); refine box_event ?hg (N := 5) ?hd (cs := #[.int .i64 0, .slice none 0 0, .int .i64 0]) (t := 56) ?hr ?_; (case hd => rfl); (case hg => rfl); (case hr => first | (go_simp; done) | (go_simp; rfl)); intro gb18 hg18 w18 hbox18 hb18; have hz18_0 := (blk_cell hbox18 0); have hf18_0 := (blk_frozen hbox18 0); simp at hz18_0; have hz18_1 := (blk_cell hbox18 1); have hf18_1 := (blk_frozen hbox18 1); simp at hz18_1; have hz18_2 := (blk_cell hbox18 2); have hf18_2 := (blk_frozen hbox18 2); simp at hz18_2; have BK18 := Aside0.mk hbox18; clear hbox18; have GW18 := Aside0.mk (Nat.le_of_eq hg18.symm); clear hg18; skip))
    have ge18 : W4.heap.size ≤ gb18 := Nat.le_trans HB16.out.size GW18.out
    have hb418 := below_step HB16.out hb18
    obtain ⟨d1, d2, d3, d4⟩ := stored3 BK18.out (.int .i64 n) (.slice Ag l.length cg) (.int .i64 q)
    have hb45 := d4 W4 hb418 ge18
    have HB5 := Aside0.mk (below_step HB4.out hb45)
    have HS5 := Aside0.mk (Kd.S_below HS.out hb45)
    have HI5 := Aside0.mk (Kd.S_lower (base' := w.heap.size) (Kd.S_step (Kd.S_mono (ok' := fun k => W4.heap.size ≤ k ∧ k < w16.heap.size) (Kd.S_bound (Kd.S_old HI.out hb18)) (fun k hk => ⟨hk.2.1, hk.1.2⟩)) (fun k hk _ => d2 k (fun e => by have := GW18.out; omega))) HB4.out.size)
    have BW5 := Aside0.mk (blk_below (pk BW4.out) hb45)
    have BG5 := Aside0.mk d1
    have h518 : w16.heap.size ≤ gb18 := GW18.out
    have h5sz : w16.heap.size ≤ w18.heap.size := hb18.size
    generalize hW5 : ((w18.setCell ⟨gb18, 0, none⟩ (.int .i64 n)).setCell ⟨gb18, 1, none⟩ (.slice Ag l.length cg)).setCell ⟨gb18, 2, none⟩ (.int .i64 q) = W5 at d3 HB5 HS5 HI5 BW5 BG5 ⊢
    clear hz18_0 hz18_1 hz18_2 hf18_0 hf18_1 hf18_2 hW4 hW5 HI HS HB4 BW4 BK8 BK18 d2 d4 d1 hb45 hb418 b2 b4 b1
    obtain ⟨-, L1, C1⟩ := Kd.S_reads' HS5.out
    obtain ⟨-, L2, C2⟩ := Kd.S_reads' HI5.out
    have hw0 : W5.cell? ⟨gb8, 0, none⟩ = some (.int .i64 n) := (blk_cell BW5.out 0).trans rfl
    have hw1 : W5.cell? ⟨gb8, 1, none⟩ = some (.slice Aw l.length cw) := (blk_cell BW5.out 1).trans rfl
    have hw2 : W5.cell? ⟨gb8, 2, none⟩ = some (.int .i64 q) := (blk_cell BW5.out 2).trans rfl
    have hg0 : W5.cell? ⟨gb18, 0, none⟩ = some (.int .i64 n) := (blk_cell BG5.out 0).trans rfl
    have hg1 : W5.cell? ⟨gb18, 1, none⟩ = some (.slice Ag l.length cg) := (blk_cell BG5.out 1).trans rfl
    have hg2 : W5.cell? ⟨gb18, 2, none⟩ = some (.int .i64 q) := (blk_cell BG5.out 2).trans rfl
    have hE := Aside0.mk (A5.out W5 Ag cg Aw cw C2 L2 C1 L1)
    clear C1 C2 L1 L2
    go_upto_region 8 with (go_at_call 32; refine hE.out.mono ?_; rintro e w26 ⟨rfl, hb26⟩)
    have HB6' := Aside0.mk (below_step HB5.out hb26)
    have HS6 := Aside0.mk (Kd.S_below HS5.out hb26)
    have HI6 := Aside0.mk (Kd.S_below HI5.out hb26)
    have BW6 := Aside0.mk (blk_below (pk BW5.out) hb26)
    have BG6 := Aside0.mk (blk_below (pk BG5.out) hb26)
    have hP : ∀ k, (W4.heap.size ≤ k ∧ k < w16.heap.size) → k < w26.heap.size := fun k hk => by have := hb26.size; omega
    have hM := Aside0.mk (A6.out (fun k => W4.heap.size ≤ k ∧ k < w16.heap.size) (.slice Ag l.length cg) w w26 HB6'.out HI6.out hP)
    clear hw0 hw1 hw2 hg0 hg1 hg2 HB5 HS5 HI5 BW5 BG5 hE HI6 hP
    have hg0 : w26.cell? ⟨gb18, 0, none⟩ = some (.int .i64 n) := (blk_cell BG6.out 0).trans rfl
    have hg1 : w26.cell? ⟨gb18, 1, none⟩ = some (.slice Ag l.length cg) := (blk_cell BG6.out 1).trans rfl
    have hg2 : w26.cell? ⟨gb18, 2, none⟩ = some (.int .i64 q) := (blk_cell BG6.out 2).trans rfl
    go_upto_region 10 with (go_at_call 48; refine hM.out.mono ?_; rintro e w35 ⟨rfl, hS, hB, hK⟩)
    clear hg0 hg1 hg2 hM hb26
    have BW7 := Aside0.mk ((hK.2 gb8 (blk_lt BW6.out) (fun h => by omega)).trans BW6.out)
    have BG7 := Aside0.mk ((hK.2 gb18 (blk_lt BG6.out) (fun h => by omega)).trans BG6.out)
    have HS7 := Aside0.mk (KeptS HS6.out hK (fun k (hk : k < w8.heap.size) h => by omega))
    have HG7 := Aside0.mk hS
    have HB7 := Aside0.mk hB
    clear hS hB hK HS6 BW6 BG6 HB6'
    obtain ⟨hlen, LG, CG⟩ := Kd.S_reads' HG7.out
    have hH := Aside0.mk (show Calls Tryd.prog 49 #[.agg #[.int .i64 n, .slice Ag l.length cg, .int .i64 q], .int .i64 1] w35 fun e w' => e = .returned (.int .i64 q') ∧ Below w35.heap.size w35 w' by rw [hlen]; exact A7.out w35 Ag cg CG (by rw [← hlen]; exact LG))
    clear CG
    have hg0 : w35.cell? ⟨gb18, 0, none⟩ = some (.int .i64 n) := (blk_cell BG7.out 0).trans rfl
    have hg1 : w35.cell? ⟨gb18, 1, none⟩ = some (.slice Ag l.length cg) := (blk_cell BG7.out 1).trans rfl
    have hg2 : w35.cell? ⟨gb18, 2, none⟩ = some (.int .i64 q) := (blk_cell BG7.out 2).trans rfl
    clear LG hlen
    go_upto_region 15 with (go_at_call 49; refine hH.out.mono ?_; rintro e w38 ⟨rfl, hb38⟩)
    have HB8 := Aside0.mk (below_step HB7.out hb38)
    have HS8 := Aside0.mk (Kd.S_below HS7.out hb38)
    have HG8 := Aside0.mk (Kd.S_below HG7.out hb38)
    have BW8 := Aside0.mk (blk_below (pk BW7.out) hb38)
    have BG8 := Aside0.mk (blk_below (pk BG7.out) hb38)
    clear hg0 hg1 hg2 hH hb38 HB7 HS7 HG7 BW7 BG7
    go_upto_region 16 with (first | (go_at_call 47; refine (A4.out _ (Tab.up HT.out HB8.out)).mono ?_; rintro e w46 ⟨v2, rfl, ho2, hb46⟩; obtain ⟨Ah, ch, rfl⟩ := Kd.S_slice ho2; have HI2 := Aside0.mk ho2; have HB46 := Aside0.mk hb46; clear ho2 hb46) | ((with_reducible refine gate_dst (N := 9) rfl ?_); refine box_event ?hg (N := 9) ?hd (cs := #[.int .i64 0, .slice none 0 0, .int .i64 0]) (t := 56) ?hr ?_; (case hd => rfl); (case hg => rfl); (case hr => first | (go_simp; done) | (go_simp; rfl)); intro gb28 hg28 w28 hbox28 hb28; have hz28_0 := (blk_cell hbox28 0); have hf28_0 := (blk_frozen hbox28 0); simp at hz28_0; have hz28_1 := (blk_cell hbox28 1); have hf28_1 := (blk_frozen hbox28 1); simp at hz28_1; have hz28_2 := (blk_cell hbox28 2); have hf28_2 := (blk_frozen hbox28 2); simp at hz28_2; have BK28 := Aside0.mk hbox28; clear hbox28; have GW28 := Aside0.mk (Nat.le_of_eq hg28.symm); clear hg28; skip))
    have ge28 : w38.heap.size ≤ gb28 := Nat.le_trans HB46.out.size GW28.out
    have hb3828 := below_step HB46.out hb28
    obtain ⟨d1, d2, d3, d4⟩ := stored3 BK28.out (.int .i64 n) (.slice Ah l.length ch) (.int .i64 q)
    have hb9 := d4 w38 hb3828 ge28
    have HB9 := Aside0.mk (below_step HB8.out hb9)
    have HS9 := Aside0.mk (Kd.S_below HS8.out hb9)
    have HG9 := Aside0.mk (Kd.S_below HG8.out hb9)
    have HI9 := Aside0.mk (Kd.S_step (Kd.S_old HI2.out hb28) (fun k hk _ => d2 k (fun e => by have := GW28.out; omega)))
    have BW9 := Aside0.mk (blk_below (pk BW8.out) hb9)
    have BG9 := Aside0.mk (blk_below (pk BG8.out) hb9)
    have BH9 := Aside0.mk d1
    generalize hW9 : ((w28.setCell ⟨gb28, 0, none⟩ (.int .i64 n)).setCell ⟨gb28, 1, none⟩ (.slice Ah l.length ch)).setCell ⟨gb28, 2, none⟩ (.int .i64 q) = W9 at d3 HB9 HS9 HG9 HI9 BW9 BG9 BH9 ⊢
    clear hz28_0 hz28_1 hz28_2 hf28_0 hf28_1 hf28_2 hW9 HI2 HS8 HG8 HB8 BW8 BG8 BK28 d2 d4 d1 hb9 hb3828
    obtain ⟨-, L1, C1⟩ := Kd.S_reads' HS9.out
    obtain ⟨-, L2, C2⟩ := Kd.S_reads' HI9.out
    have hw0 : W9.cell? ⟨gb8, 0, none⟩ = some (.int .i64 n) := (blk_cell BW9.out 0).trans rfl
    have hw1 : W9.cell? ⟨gb8, 1, none⟩ = some (.slice Aw l.length cw) := (blk_cell BW9.out 1).trans rfl
    have hw2 : W9.cell? ⟨gb8, 2, none⟩ = some (.int .i64 q) := (blk_cell BW9.out 2).trans rfl
    have hg0 : W9.cell? ⟨gb28, 0, none⟩ = some (.int .i64 n) := (blk_cell BH9.out 0).trans rfl
    have hg1 : W9.cell? ⟨gb28, 1, none⟩ = some (.slice Ah l.length ch) := (blk_cell BH9.out 1).trans rfl
    have hg2 : W9.cell? ⟨gb28, 2, none⟩ = some (.int .i64 q) := (blk_cell BH9.out 2).trans rfl
    have hE := Aside0.mk (A5.out W9 Ah ch Aw cw C2 L2 C1 L1)
    clear C1 C2 L1 L2
    go_upto_region 19 with (go_at_call 32; refine hE.out.mono ?_; rintro e w56 ⟨rfl, hb56⟩)
    have HBA := Aside0.mk (below_step HB9.out hb56)
    have HGA := Aside0.mk (Kd.S_below HG9.out hb56)
    have BGA := Aside0.mk (blk_below (pk BG9.out) hb56)
    clear hw0 hw1 hw2 hg0 hg1 hg2 hE hb56 HB9 HS9 HG9 HI9 BW9 BG9 BH9
    obtain ⟨hlen2, LG, CG⟩ := Kd.S_reads' HGA.out
    have hH := Aside0.mk (show Calls Tryd.prog 49 #[.agg #[.int .i64 n, .slice Ag l.length cg, .int .i64 q], .int .i64 1] w56 fun e w' => e = .returned (.int .i64 q') ∧ Below w56.heap.size w56 w' by rw [hlen2]; exact A7.out w56 Ag cg CG (by rw [← hlen2]; exact LG))
    clear CG LG hlen2
    have hg0 : w56.cell? ⟨gb18, 0, none⟩ = some (.int .i64 n) := (blk_cell BGA.out 0).trans rfl
    have hg1 : w56.cell? ⟨gb18, 1, none⟩ = some (.slice Ag l.length cg) := (blk_cell BGA.out 1).trans rfl
    have hg2 : w56.cell? ⟨gb18, 2, none⟩ = some (.int .i64 q) := (blk_cell BGA.out 2).trans rfl
    go_wp2_with (go_at_call 49; refine hH.out.mono ?_; rintro e w60 ⟨rfl, hb60⟩)
    go_ret
    exact ⟨rfl, below_step HBA.out hb60⟩

end Go.Proofs.YtpiidnmobofaeaaDoor.QFnExactParseKeep
