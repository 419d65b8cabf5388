/- Contracts of functions of the given program, walked. Conditions: those at each theorem. -/
import Derived.Test.YthkchdfkeieabaaQGrx0
import Derived.Test.YthkchdfkeieabaaQGrx11
namespace Go.Proofs.Ythkchdfkeieabaa.QGr
open Go.RowKit Go.Proofs.YthkchdfkeieabaaW.PrintWords Go.Proofs.YthkchdfkeieabaaW.PrintLast Go.Proofs.YthkchdfkeieabaaW.PrintMore
open List (setIfInBounds_toArray set_cons_zero set_cons_succ map_toArray map_cons map_nil)
attribute [local go_sem] max2_int min2_int max_two min_two max_three min_three max_four min_four
set_option linter.unusedVariables false
set_option maxHeartbeats 8000000
set_option maxRecDepth 100000
set_option linter.unusedSimpArgs false
def slices_Repeat_int_int.f (l0 : List Int) (a1 : Int) : Option (List Int) := if l0.length = 1 then (if 0 ≤ a1 then (if a1 ≤ 1000000 then some (List.replicate a1.toNat (l0.headD 0)) else none) else none) else none
def slices_Repeat_int_int.row (N m : Nat) (x : Int) : List Int := List.replicate m x ++ List.replicate (N - m) 0
theorem slices_Repeat_int_int.row_len {N m : Nat} {x : Int} (h : m ≤ N) : (slices_Repeat_int_int.row N m x).length = N := by
 unfold slices_Repeat_int_int.row
 rw [List.length_append, List.length_replicate, List.length_replicate]
 omega
theorem slices_Repeat_int_int.row_set {N m : Nat} {x : Int} (h : m < N) : (slices_Repeat_int_int.row N m x).set m x = slices_Repeat_int_int.row N (m + 1) x := by
 unfold slices_Repeat_int_int.row
 obtain ⟨r, hr⟩ : ∃ r, N - m = r + 1 := ⟨N - m - 1, by omega⟩
 rw [hr, show N - (m + 1) = r by omega, List.set_append_right _ _ (by simp), List.length_replicate, Nat.sub_self, List.replicate_succ, List.set_cons_zero, List.replicate_succ', List.append_assoc]
 rfl
theorem slices_Repeat_int_int.row_get {N m j : Nat} {x : Int} (h : j < m) : rdOf 0 (slices_Repeat_int_int.row N m x) (j : Int) = x := by
 unfold slices_Repeat_int_int.row rdOf
 rw [Int.toNat_natCast, List.getD_eq_getElem?_getD, List.getElem?_append_left (by simpa using h)]
 simp [h]
theorem slices_Repeat_int_int.puts {w : World} {base g N c : Nat} {x : Int} (hg : w.heap.size ≤ g) : ∀ (q m : Nat) (W : World), m + q ≤ N → (Kd.int .i64).R 3 W base (fun _ => True) (.slice (some ⟨g, 0, none⟩) N c) (slices_Repeat_int_int.row N m x) → Below w.heap.size w W →
  (Kd.int .i64).R 3 (W.setCells g m (List.replicate q (Value.int .i64 x))) base (fun _ => True) (.slice (some ⟨g, 0, none⟩) N c) (slices_Repeat_int_int.row N (m + q) x) ∧ Below w.heap.size w (W.setCells g m (List.replicate q (Value.int .i64 x)))
 | 0, m, W, _, h, hb => ⟨h, hb⟩
 | q + 1, m, W, hl, h, hb => by
  have h1 := (Kd.R_putg h (m : Int) x).1
  rw [Int.toNat_natCast, slices_Repeat_int_int.row_set (by omega)] at h1
  have h2 := slices_Repeat_int_int.puts hg q (m + 1) _ (by omega) h1 (below_set (j := m) (v := Value.int .i64 x) hb hg)
  rw [show m + (q + 1) = m + 1 + q by omega, List.replicate_succ]
  exact h2
theorem slices_Repeat_int_int.calls (A0 : Option Addr) (c0 : Nat) (l0 : List Int) (a1 : Int) (r : List Int) (w : World) (hr0 : Kd.C (Kd.int .i64) w A0 l0.length l0) (hc0 : l0.length ≤ c0) (h : slices_Repeat_int_int.f l0 a1 = some r) :
  Calls Try.prog 127 #[.slice A0 l0.length c0, .int .i64 a1] w fun e w' => ∃ v0_ : Value, e = .returned (v0_) ∧ (Kd.int .i64).R 3 w' w.heap.size (fun _ => True) v0_ r ∧ Below w.heap.size w w' := by
 unfold slices_Repeat_int_int.f at h
 by_cases hl : l0.length = 1
 rotate_left
 ·rw [if_neg hl] at h; exact absurd h (by simp)
 rw [if_pos hl] at h
 by_cases h0 : 0 ≤ a1
 rotate_left
 ·rw [if_neg h0] at h; exact absurd h (by simp)
 rw [if_pos h0] at h
 by_cases h1 : a1 ≤ 1000000
 rotate_left
 ·rw [if_neg h1] at h; exact absurd h (by simp)
 rw [if_pos h1] at h
 obtain ⟨x, rfl⟩ := List.length_eq_one_iff.mp hl
 obtain ⟨N, rfl⟩ : ∃ N : Nat, a1 = (N : Int) := ⟨a1.toNat, by omega⟩
 rw [Int.toNat_natCast] at h
 obtain rfl := Option.some.inj h
 obtain ⟨ad, rfl, hx⟩ := Kd.at_int hr0 0 (by decide) (by simp)
 have hx1 : w.cell? (ad.add 0) = some (Value.int .i64 x) := hx
 have HX := ak_ hx1
 have HN := ak_ h1
 have HB := ak_ (Below.refl w.heap.size w)
 have HM0 := fun (W : World) => Try.bits_Mul 1 N (by decide) (by omega) W
 rw [show (1 * N / 18446744073709551616 : Nat) = 0 by omega, show (1 * N % 18446744073709551616 : Nat) = N by omega] at HM0
 have HM := ak_ HM0
 have k0 : decide ((N : Int) < 0) = false := decide_eq_false (by omega)
 have k0n : ((N : Int) < 0) = False := eq_false (by omega)
 have k1 : IntKind.u64.wrap (N : Int) = (N : Int) := IntWalk.u64_in _ ⟨by omega, by omega⟩
 have k2 : IntKind.i64.wrap (N : Int) = (N : Int) := IntWalk.i64_in _ ⟨by omega, by omega⟩
 have k3 : decide ((9223372036854775807 : Int) < (N : Int)) = false := decide_eq_false (by omega)
 have k3n : ((9223372036854775807 : Int) < (N : Int)) = False := eq_false (by omega)
 have HH := ak_ (show List.replicate N x = List.replicate N (List.headD [x] 0) from rfl)
 clear h hl h0 h1 hr0 hc0 hx hx1 HM0
 go_enter Try.func127, Try.ntmps127
 go_upto_region 6 with (go_at_call 161; refine (HM.out _).mono ?_; rintro e w' ⟨rfl, hw_⟩; rw [hw_]; clear hw_ w')
 go_upto_region 7 with ((with_reducible refine gate_dst (N := 30) rfl ?_); refine Kd.R_make (Kd.int .i64) _ 3 rfl (N := 30) rfl 29 _ _ rfl (N : Int) rfl rfl Try.underlying29 (Value.int .i64 0) 8 info3 rfl (by decide) (by omega) 0 (ok := fun _ => True) (okp := fun _ => True) rfl (fun _ hk => hk) trivial (by omega) (by have := HN.out; omega) (Below.refl _ _) (Nat.le_refl _) ?_; intro v30 w30 ho hb hg hnew; have HO := ak_ (Kd.R_lower ho (bz_ (bb_ HB.out))); have n0_ := ak_ (bs_ (bb_ HB.out) hb); clear HB hb hg hnew ho; have HB := n0_; clear n0_)
 have h30 := HO.out
 rw [Int.toNat_natCast] at h30
 clear HO
 have hsz : (Try.prog.info? 3).map (·.size) = some 1 := by kernel_rfl
 by_cases hz : N = 0
 ·obtain ⟨A3, c3, e3⟩ := Kd.R_slice h30
  rw [List.length_replicate] at e3
  subst e3
  have HO := ak_ h30
  have hcp : ∀ W, (Builtin.copy_ #[29, 29] 3 #[.slice A3 N c3, .slice (some ad) 1 c0]).run Try.prog W = .ok (goInt 0) W := fun W => run_copy_none W 29 29 3 3 A3 (some ad) N c3 1 c0 Try.underlying29 hsz (by rw [hz]; rfl)
  have k4 : decide ((0 : Int) < (N : Int)) = false := decide_eq_false (by omega)
  have k4n : decide (0 < N) = false := decide_eq_false (by omega)
  have k4p : (0 < N) = False := eq_false (by omega)
  have HZ := ak_ hz
  clear h30 hz
  go_upto_region 8 with (fail)
  go_loopg [8] 0 (fun gg v8 wr => v8 = .int .i64 0 ∧ Aside0 ((Kd.int .i64).R 3 wr w.heap.size (fun _ => True) (.slice A3 N c3) (List.replicate N 0)) ∧ Aside0 (Below w.heap.size w wr))
  case atStart => exact ⟨rfl, ⟨Kd.R_below HO.out be_⟩, ⟨(bb_ HB.out)⟩⟩
  case round =>
   clear HO HB
   obtain ⟨rfl, HO, HB⟩ := hrel
   go_wp2
   go_ret
   exact ⟨_, rfl, by have h_ := HO.out; rw [HZ.out] at h_ ⊢; exact Kd.R_below h_ be_, (bb_ HB.out)⟩
 obtain ⟨g, cap, e3, hge, -, -⟩ := Kd.R_form h30 (by rw [List.length_replicate]; omega)
 rw [List.length_replicate] at e3
 subst e3
 have HO := ak_ (show (Kd.int .i64).R 3 w30 w.heap.size (fun _ => True) (.slice (some ⟨g, 0, none⟩) N cap) (slices_Repeat_int_int.row N 0 x) from h30)
 have HG := ak_ hge
 have HZ := ak_ hz
 have hc00 := Kd.R_celln 0 h30 (0 : Int) (by decide) (by omega)
 have hcp : (Builtin.copy_ #[29, 29] 3 #[.slice (some ⟨g, 0, none⟩) N cap, .slice (some ad) 1 c0]).run Try.prog w30 = .ok (goInt 1) (w30.setCells g 0 [Value.int .i64 x]) :=
  run_copy_cells w30 29 29 3 3 g 0 N cap ad 1 c0 [Value.int .i64 x] Try.underlying29 hsz (by simp [Nat.min_def]; omega)
   (fun j v hj => by
    rcases j with _ | j
    ·obtain rfl := Option.some.inj hj
     exact (HB.out.cell (World.block_lt_of_cell? w _ HX.out)).trans HX.out
    ·simp at hj)
   (fun j hj => by
    obtain rfl : j = 0 := by simpa using hj
    have := hc00.1
    simp at this ⊢
    rw [this]; rfl)
   (fun j hj => by
    obtain rfl : j = 0 := by simpa using hj
    have := hc00.2
    simpa using this) (by intro v hv; obtain rfl := List.mem_singleton.mp hv; rfl)
 clear h30 hge hz hc00
 go_upto_region 8 with (fail)
 have hp1 := slices_Repeat_int_int.puts (w := w) HG.out 1 0 w30 (by have := HZ.out; omega) HO.out HB.out
 have n0_ := ak_ hp1.1
 have n1_ := ak_ hp1.2
 clear HO HB hp1 hcp
 have HO := n0_; have HB := n1_
 clear n0_ n1_
 change Aside0 ((Kd.int .i64).R 3 (w30.setCells g 0 [Value.int .i64 x]) w.heap.size (fun _ => True) (.slice (some ⟨g, 0, none⟩) N cap) (slices_Repeat_int_int.row N 1 x)) at HO
 change Aside0 (Below w.heap.size w (w30.setCells g 0 [Value.int .i64 x])) at HB
 generalize hW8 : w30.setCells g 0 [Value.int .i64 x] = W8 at HO HB ⊢
 clear hW8
 go_loopg [8] N (fun gg v8 wr => ∃ m : Nat, v8 = .int .i64 (m : Int) ∧ 1 ≤ m ∧ m ≤ N ∧ N - m ≤ gg ∧ Aside0 ((Kd.int .i64).R 3 wr w.heap.size (fun _ => True) (.slice (some ⟨g, 0, none⟩) N cap) (slices_Repeat_int_int.row N m x)) ∧ Aside0 (Below w.heap.size w wr))
 case atStart => exact ⟨1, rfl, Nat.le_refl _, by have := HZ.out; omega, by omega, ⟨Kd.R_below HO.out be_⟩, ⟨(bb_ HB.out)⟩⟩
 case round =>
  clear HO HB
  obtain ⟨m, rfl, hm1, hmN, hg, HO, HB⟩ := hrel
  by_cases hlt : m < N
  ·have q1 : decide ((m : Int) < (N : Int)) = true := decide_eq_true (by omega)
   have q1n : decide (m < N) = true := decide_eq_true hlt
   have q1p : (m < N) = True := eq_true hlt
   have hcap := (Kd.R_reads' HO.out).2.1
   have h00 := fun j (hj : j < N) => Kd.R_celln 0 HO.out (j : Int) (by omega) (by omega)
   have b0 : (0 : Int) ≤ (m : Int) := by omega
   have b1 : (m : Int) ≤ (N : Int) := by omega
   have b2 : (m : Int) ≤ (cap : Int) := by omega
   have b3 : (N : Int) ≤ (cap : Int) := by omega
   have b1n : m ≤ N := by omega
   have b2n : m ≤ cap := by omega
   have b3n : N ≤ cap := by omega
   have b4 : (cap = m) = False := eq_false (by omega)
   have b5 : ((cap : Int) = (m : Int)) = False := eq_false (by omega)
   obtain ⟨q, hq⟩ : ∃ q, q = Nat.min m (N - m) := ⟨_, rfl⟩
   have hq1 : q ≤ m := by rw [hq]; exact Nat.min_le_left _ _
   have hq2' : q ≤ N - m := by rw [hq]; exact Nat.min_le_right _ _
   have hq2 : m + q ≤ N := by omega
   clear hq2'
   have hq3 : 1 ≤ q := by rw [hq]; exact Nat.le_min.2 ⟨hm1, by omega⟩
   have hw : IntKind.i64.wrap ((m : Int) + (q : Int)) = ((m + q : Nat) : Int) := by rw [IntWalk.i64_in _ ⟨by omega, by have := HN.out; omega⟩]; omega
   have hp1 := slices_Repeat_int_int.puts (w := w) HG.out q m wr.drew hq2 (Kd.R_drew HO.out) (b1_ HB.out)
   have hcp : (Builtin.copy_ #[29, 29] 3 #[.slice (some ⟨g, m, none⟩) (N - m) (cap - m), .slice (some ⟨g, 0, none⟩) m cap]).run Try.prog wr.drew = .ok (goInt (q : Int)) (wr.drew.setCells g m (List.replicate q (Value.int .i64 x))) := by
    have h_ := run_copy_cells (P := Try.prog) wr.drew 29 29 3 3 g m (N - m) (cap - m) ⟨g, 0, none⟩ m cap (List.replicate q (Value.int .i64 x)) Try.underlying29 hsz (by rw [List.length_replicate]; exact hq)
     (fun j v hj => by
      rw [List.getElem?_replicate] at hj
      by_cases hjq : j < q
      ·rw [if_pos hjq] at hj
       obtain rfl := Option.some.inj hj
       have e := (h00 j (by omega)).1
       rw [slices_Repeat_int_int.row_get (by omega), Int.toNat_natCast] at e
       rw [add_plain]
       simpa using e
      ·rw [if_neg hjq] at hj; exact absurd hj (by simp))
     (fun j hj => by
      rw [List.length_replicate] at hj
      have e := (h00 (m + j) (by omega)).1
      rw [Int.toNat_natCast] at e
      simp only [World.cell?_drew]
      rw [e]; rfl)
     (fun j hj => by
      rw [List.length_replicate] at hj
      have e := (h00 (m + j) (by omega)).2
      rw [Int.toNat_natCast] at e
      simpa using e) (by intro v hv; obtain rfl := List.eq_of_mem_replicate hv; rfl)
    rw [List.length_replicate] at h_
    exact h_
   have HQ := ak_ (And.intro hq3 (And.intro hg hlt))
   have HP1 := ak_ hp1
   clear hq hq1 hq3 h00 hp1 hcap hm1 hmN hg hlt
   try go_wp2
   refine start_ (n := 10) (S := fun _ => True) (ds := [9]) (mb_ 10 0) (by kernel_rfl) rfl rfl trivial (fun hHeld => ?_)
   refine pure_ (i := 0) (N := some 38) (v := ?_) (a' := ?_) (mb_ 10 1) rfl rfl (by kernel_rfl) (fun _ _ _ h => h) (Or.inl ⟨by rfl, ?_⟩) ?_ ?_
   rotate_left
   ·intro w'
    go_simp
    with_reducible rfl
   rotate_left
   ·simp only [Act.put, setIfInBounds_toArray, set_cons_zero, set_cons_succ, i64_w, i32_w]
    rfl
   refine pure_ (i := 1) (N := some 39) (v := ?_) (a' := ?_) (mb_ 10 3) rfl rfl (by kernel_rfl) (fun _ _ _ h => h) (Or.inl ⟨by rfl, ?_⟩) ?_ ?_
   rotate_left
   ·intro w'
    go_simp
    with_reducible rfl
   rotate_left
   ·simp only [Act.put, setIfInBounds_toArray, set_cons_zero, set_cons_succ, i64_w, i32_w]
    rfl
   refine pure_ (i := 2) (N := some 40) (v := ?_) (a' := ?_) (mb_ 10 7) rfl rfl (by kernel_rfl) (fun _ _ _ h => h) (Or.inl ⟨by rfl, ?_⟩) ?_ ?_
   rotate_left
   ·intro w'
    go_simp
    with_reducible rfl
   rotate_left
   ·simp only [Act.put, setIfInBounds_toArray, set_cons_zero, set_cons_succ, i64_w, i32_w]
    rfl
   refine pure_ (i := 3) (N := some 41) (v := ?_) (a' := ?_) (mb_ 10 15) rfl rfl (by kernel_rfl) (fun _ _ _ h => h) (Or.inl ⟨by rfl, ?_⟩) ?_ ?_
   rotate_left
   ·intro w'
    go_simp
    with_reducible rfl
   rotate_left
   ·simp only [Act.put, setIfInBounds_toArray, set_cons_zero, set_cons_succ, i64_w, i32_w]
    rfl
   refine pure_ (i := 4) (N := some 42) (v := ?_) (a' := ?_) (mb_ 10 31) rfl rfl (by kernel_rfl) (fun _ _ _ h => h) (Or.inl ⟨by rfl, ?_⟩) ?_ ?_
   rotate_left
   ·intro w'
    go_simp
    with_reducible rfl
   rotate_left
   ·simp only [Act.put, setIfInBounds_toArray, set_cons_zero, set_cons_succ, i64_w, i32_w]
    rfl
   refine pure_ (i := 5) (N := some 43) (v := ?_) (a' := ?_) (mb_ 10 63) rfl rfl (by kernel_rfl) (fun _ _ _ h => h) (Or.inl ⟨by rfl, ?_⟩) ?_ ?_
   rotate_left
   ·intro w'
    go_simp
    with_reducible rfl
   rotate_left
   ·simp only [Act.put, setIfInBounds_toArray, set_cons_zero, set_cons_succ, i64_w, i32_w]
    rfl
   refine pure_ (i := 6) (N := some 44) (v := ?_) (a' := ?_) (mb_ 10 127) rfl rfl (by kernel_rfl) (fun _ _ _ h => h) (Or.inl ⟨by rfl, ?_⟩) ?_ ?_
   rotate_left
   ·intro w'
    go_simp
    with_reducible rfl
   rotate_left
   ·simp only [Act.put, setIfInBounds_toArray, set_cons_zero, set_cons_succ, i64_w, i32_w]
    rfl
   refine one_ (i := 7) (N := some 45) (mb_ 10 255) rfl rfl (by kernel_rfl) (by decide) (fun K hK => ?_)
   refine value_ (w1 := ?_) (v := ?_) (by rfl) rfl ?_ ?_
   rotate_left 2
   ·go_simp
    constructor
    ·rfl
    ·rfl
   refine hK.out _ _ trivial (fun hHeld => ?_)
   clear hK K
   refine nm_ ?_
   refine pure_ (i := 8) (N := some 46) (v := ?_) (a' := ?_) (mb_ 10 511) rfl rfl (by kernel_rfl) (fun _ _ _ h => h) (Or.inl ⟨by rfl, ?_⟩) ?_ ?_
   rotate_left
   ·intro w'
    go_simp
    with_reducible rfl
   rotate_left
   ·simp only [Act.put, setIfInBounds_toArray, set_cons_zero, set_cons_succ, i64_w, i32_w]
    rfl
   refine pure_ (i := 9) (N := some 8) (v := ?_) (a' := ?_) (mb_ 10 1023) rfl rfl (by kernel_rfl) (fun _ _ _ h => h) (Or.inl ⟨by rfl, ?_⟩) ?_ ?_
   rotate_left
   ·intro w'
    go_simp
    with_reducible rfl
   rotate_left
   ·simp only [Act.put, setIfInBounds_toArray, set_cons_zero, set_cons_succ, i64_w, i32_w]
    rfl
   refine done_ (by kernel_rfl) ?_
   clear HO HB hcp
   have HO := ak_ HP1.out.1
   have HB := ak_ HP1.out.2
   clear HP1
   generalize wr.drew.setCells g m (List.replicate q (Value.int .i64 x)) = W9 at HO HB ⊢
   try go_wp2
   go_roundg (N - (m + q))
   case measure => have := HQ.out; omega
   case rel => exact ⟨m + q, (ry_), by have := HQ.out; omega, hq2, Nat.le_refl _, ⟨Kd.R_below HO.out be_⟩, ⟨(bb_ HB.out)⟩⟩
  ·have q1 : decide ((m : Int) < (N : Int)) = false := decide_eq_false (by omega)
   have q1n : decide (m < N) = false := decide_eq_false hlt
   have q1p : (m < N) = False := eq_false hlt
   obtain rfl : m = N := by omega
   clear hlt hg hmN hm1
   go_wp2
   go_ret
   have e : slices_Repeat_int_int.row m m x = List.replicate m (List.headD [x] 0) := by unfold slices_Repeat_int_int.row; rw [Nat.sub_self]; simp
   exact ⟨_, rfl, by have h_ := HO.out; rw [e] at h_; exact Kd.R_below h_ be_, (bb_ HB.out)⟩
def GOut (fo : Nat) (cb : Array Value) (N : Int) (E : Int → List S110) (w0 : World) : Prop :=
 ∀ (W : World) (s : Int), Below w0.heap.size w0 W → 0 ≤ s → s < N → Calls Try.prog fo (#[.int .i64 s] ++ cb) W fun e w' => ∃ v : Value, e = .returned v ∧ Kd.S k110 110 w' W.heap.size (fun _ => True) v (E s) ∧ Below W.heap.size W w'
def frPad (n : Nat) (w : List (List Int)) : List (List Int) := w ++ List.replicate (n + 1 - w.length) []
theorem frPad_of {n t : Nat} {w w2 : List (List Int)} (h : w2 = w ++ List.replicate t []) (ht : t = 0 ∨ w2.length ≤ n + 1) (hn : n < w2.length) : w2 = frPad n w := by
 unfold frPad
 rw [h]
 have hl : w2.length = w.length + t := by rw [h, List.length_append, List.length_replicate]
 congr 2
 omega
theorem frPad_len (n : Nat) (w : List (List Int)) : w.length ≤ (frPad n w).length := by
 unfold frPad
 rw [List.length_append]
 omega
def frEdges (d : Nat) (dist : List Int) : List S110 → List (List Int) → Option (List (List Int))
 | [], w => some w
 | e :: es, w => if 0 ≤ e.f0 ∧ e.f0 < (dist.length : Int) then (if rdOf 0 dist e.f0 ≥ 0 then frEdges d dist es w else (if 1 ≤ e.f1 ∧ (d : Int) + e.f1 < 1000000 ∧ ((frPad (d + e.f1.toNat) w).getD (d + e.f1.toNat) []).length < 1000000 ∧ w.length < 1000000 then
  frEdges d dist es ((frPad (d + e.f1.toNat) w).set (d + e.f1.toNat) (((frPad (d + e.f1.toNat) w).getD (d + e.f1.toNat) []) ++ [e.f0])) else none)) else none
def frRun (E : Int → List S110) (N : Int) : Nat → Nat → Nat → List Int → List (List Int) → Option (List Int)
 | 0, _, _, _, _ => none
 | k + 1, d, i, dist, w => if d < w.length then (if i < (w.getD d []).length then (if 0 ≤ rdOf 0 (w.getD d []) (i : Int) ∧ rdOf 0 (w.getD d []) (i : Int) < N ∧ i < 1000000 ∧ d < 1000000 ∧ (E (rdOf 0 (w.getD d []) (i : Int))).length < 1000000 then
  (if rdOf 0 dist (rdOf 0 (w.getD d []) (i : Int)) ≥ 0 then frRun E N k d (i + 1) dist w else
   (frEdges d (dist.set (rdOf 0 (w.getD d []) (i : Int)).toNat (d : Int)) (E (rdOf 0 (w.getD d []) (i : Int))) w).bind fun w' => frRun E N k d (i + 1) (dist.set (rdOf 0 (w.getD d []) (i : Int)).toNat (d : Int)) w')
  else none) else (if d < 1000000 then frRun E N k (d + 1) 0 dist w else none)) else some dist
def impl_graph_int_from.f (E : Int → List S110) (k : Nat) (N : Int) (starts : List Int) : Option (List Int) := if 0 < N then (slices_Repeat_int_int.f [-1] N).bind fun dist => frRun E N k 0 0 dist [starts] else none
theorem frRun_mono (E : Int → List S110) (N : Int) : ∀ k d i dist w, LeO (frRun E N k d i dist w) (frRun E N (k + 1) d i dist w)
 | 0, _, _, _, _ => fun r h => by simp [frRun] at h
 | k + 1, d, i, dist, w => by
  rw [frRun.eq_2, frRun.eq_2]
  exact LeO.ite (LeO.ite (LeO.ite (LeO.ite (frRun_mono E N k _ _ _ _) (LeO.bind (LeO.refl _) (fun _ => frRun_mono E N k _ _ _ _))) (LeO.refl _)) (LeO.ite (frRun_mono E N k _ _ _ _) (LeO.refl _))) (LeO.refl _)
theorem impl_graph_int_from.mono (E : Int → List S110) : ∀ N starts k, LeO (impl_graph_int_from.f E k N starts) (impl_graph_int_from.f E (k + 1) N starts) := fun N starts k => LeO.ite (LeO.bind (LeO.refl _) (fun _ => frRun_mono E N k _ _ _ _)) (LeO.refl _)
theorem fr_own {g n c k : Nat} (h : some k = (Value.slice (some ⟨g, 0, none⟩) n c).ownBlock) : k = g := by simpa [Value.ownBlock] using h
theorem fr_below {w W w' : World} {b : Nat} (hB : Below w.heap.size w W) (hg : W.grownBy w' (some b)) (hb : w.heap.size ≤ b) : Below w.heap.size w w' :=
 ⟨hg.os.trans hB.os, hg.tape.trans hB.tape, hg.output.trans hB.output, Nat.le_trans hB.size hg.size, fun k hk => (hg.block k (Nat.lt_of_lt_of_le hk hB.size) (fun e => by injection e with e; omega)).trans (hB.block k hk)⟩
theorem fr_lit {W : World} {base : Nat} {ok okp : Nat → Prop} {v : Value} {x : List Int} (hR : (Kd.int .i64).R 3 W base okp v x) (hok : ∀ k, okp k → ok k) (hf : ok W.heap.size) (hb : base ≤ W.heap.size) :
  Kd.S (Kd.slice 3 (Kd.int .i64)) 29 (W.alloc (.cells #[v] 29)) base ok (.slice (some ⟨W.heap.size, 0, none⟩) 1 1) [x] := by
 obtain ⟨f, hr⟩ := Kd.reps_tag (d := Kd.slice 3 (Kd.int .i64)) (w := W) (base := base) (ok := ok) (xs := [x]) (inner := [v]) (fun j k => j = 0 ∧ okp k) (by rintro i j k ⟨rfl, _⟩ ⟨rfl, _⟩; rfl) (fun j k h => hok k h.2) rfl (fun j y hj => by
  cases j with
  | zero =>
   obtain rfl := Option.some.inj hj
   exact ⟨v, rfl, Kd.R_mono hR (fun k hk => ⟨rfl, hk⟩)⟩
  | succ j => simp at hj)
 refine ⟨f, fun k hk => ?_, [v], ?_, ?_⟩
 ·have : W.heap.size = k := by simpa [Value.ownBlock] using hk
  subst this
  exact hf
 ·have h2 := World.ownsRow_lit (base := base) (e := 29) (size := 1) W #[v] 1 hb (by simp [maxLen]) (by simp)
  have h3 : (W.alloc (.cells #[v] 29)).ownsRow base 29 1 (.slice (some ⟨W.heap.size, 0, none⟩) 1 1) 1 [v] := by simpa using h2
  exact h3
 ·refine hr.imp_ (fun p c hp => Kd.M_mono _ (fun k hk => ⟨hk.1, fun he => ?_⟩) (Kd.M_below (Kd.M_bound _ hp) (ba_ (Below.refl _ _) _)))
  have h3 : k = W.heap.size := by simpa [Value.ownBlock] using he
  have := hk.2.2.1
  omega
theorem fr_lend {g base n cap : Nat} {ok : Nat → Prop} {W : World} {xs : List (List Int)} (h : Kd.S (Kd.slice 3 (Kd.int .i64)) 29 W base ok (.slice (some ⟨g, 0, none⟩) n cap) xs) (i : Int) (h0 : 0 ≤ i) (h1 : i < n) :
  ∃ (vi : Value) (oki : Nat → Prop), W.cell? ⟨g, i.toNat, none⟩ = some vi ∧ W.frozen? ⟨g, i.toNat, none⟩ = false ∧ Kd.R (Kd.int .i64) 3 W base oki vi (xs.getD i.toNat []) ∧ (∀ k, oki k → ok k ∧ k ≠ g) ∧ Kd.H (Kd.slice 3 (Kd.int .i64)) 29 W base ok (.slice (some ⟨g, 0, none⟩) n cap) xs i oki [vi] := by
 obtain ⟨oki, c, hc, hM, hcell, hfr, hok, hH⟩ := Kd.S_elem h [] i h0 h1
 obtain ⟨vi, rfl, hR⟩ := hM
 refine ⟨vi, oki, ?_, ?_, hR, hok, hH⟩
 ·have := hcell 0 vi rfl
  simpa [Kd.slice] using this
 ·have := hfr 0
  simpa [Kd.slice] using this
theorem fr_back {g base n cap gd : Nat} {W w3 : World} {xs : List (List Int)} {i : Int} {oki : Nat → Prop} {vi v3 : Value} {l l' : List Int} (hH : Kd.H (Kd.slice 3 (Kd.int .i64)) 29 W base (fun k => k ≠ gd) (.slice (some ⟨g, 0, none⟩) n cap) xs i oki [vi]) (h0 : 0 ≤ i) (h1 : i < n) (hgd : gd < W.heap.size)
  (hR : Kd.R (Kd.int .i64) 3 W base oki vi l) (hg : W.grownBy w3 vi.ownBlock) (hat : v3.ownBlock = vi.ownBlock ∨ ∃ b, v3.ownBlock = some b ∧ W.heap.size ≤ b) (h3 : Kd.R (Kd.int .i64) 3 w3 base (fun _ => True) v3 l') :
  Kd.S (Kd.slice 3 (Kd.int .i64)) 29 (w3.setCell ⟨g, i.toNat, none⟩ v3) base (fun k => k ≠ gd) (.slice (some ⟨g, 0, none⟩) n cap) (xs.set i.toNat l') ∧ w3.grownBy (w3.setCell ⟨g, i.toNat, none⟩ v3) (some g) := by
 have hH2 := Kd.H_grown (Kd.H_widen hH) hg (fun k hk => .inl (hR.1 k hk))
 have h4 := Kd.S_seg0 (seg := [v3]) (j := 0) (x' := l') (okp := fun k => some k = v3.ownBlock) hH2 h0 h1 (Nat.le_refl _) ⟨v3, rfl, Kd.R_tight rfl h3⟩ (fun k hk => ?_)
 ·have e : i.toNat * (Kd.slice 3 (Kd.int .i64)).sz + 0 = i.toNat := by show i.toNat * 1 + 0 = i.toNat; omega
  rw [e] at h4
  exact h4
 ·rcases hat with e | ⟨b, e, hb⟩
  ·exact .inl (hR.1 k (by rw [← e, ← hk]))
  ·have hkb : k = b := by rw [e] at hk; exact Option.some.inj hk
   subst hkb
   exact .inr ⟨by omega, hb⟩
def frCl (cl : Array Value) (es : List S110) : Prop := ∀ (i : Int), 0 ≤ i → i < (es.length : Int) → ∃ (A2 : Option Addr) (n2 c2 : Nat), cl[i.toNat * 3]? = some (.int .i64 (rd_T110 es i).f0) ∧ cl[i.toNat * 3 + 1]? = some (.int .i64 (rd_T110 es i).f1) ∧ cl[i.toNat * 3 + 2]? = some (.slice A2 n2 c2)
theorem frCl_of {W : World} {base g n cap : Nat} {ok : Nat → Prop} {es : List S110} {cl : Array Value} {t : Nat} (h : Kd.S k110 110 W base ok (.slice (some ⟨g, 0, none⟩) n cap) es) (hb : W.heap[g]? = some (.cells cl t (0, 0))) : frCl cl es := by
 intro i h0 h1
 obtain ⟨hn, -, hC⟩ := Kd.S_reads' h
 obtain ⟨ad, c, e, -, hK, hcell⟩ := Kd.C_get hC z110 i h0 h1
 obtain rfl := Option.some.inj e
 obtain ⟨A2, c2, rfl, -, -⟩ := k110_open hK
 have hc : ∀ j, W.cell? ⟨g, j, none⟩ = cl[j]? := fun j => blk_cell hb j
 have hsz : k110.sz = 3 := rfl
 refine ⟨A2, (es.getD i.toNat z110).f2.length, c2, ?_, ?_, ?_⟩
 ·have h_ := hcell 0 _ rfl
  rw [add_at, hsz, Nat.zero_add, Nat.add_zero, hc] at h_; exact h_
 ·have h_ := hcell 1 _ rfl
  rw [add_at, hsz, Nat.zero_add, hc] at h_; exact h_
 ·have h_ := hcell 2 _ rfl
  rw [add_at, hsz, Nat.zero_add, hc] at h_; exact h_
def frEd (W : World) (Ae : Option Addr) (es : List S110) : Prop := es.length = 0 ∨ ∃ ge cl, Ae = some ⟨ge, 0, none⟩ ∧ W.heap[ge]? = some (.cells cl 110 (0, 0)) ∧ frCl cl es
theorem frEd_of {W : World} {base c : Nat} {ok : Nat → Prop} {Ae : Option Addr} {es : List S110} (h : Kd.S k110 110 W base ok (.slice Ae es.length c) es) : frEd W Ae es := by
 rcases Nat.eq_zero_or_pos es.length with h0 | h0
 ·exact .inl h0
 ·obtain ⟨g, cap, e, -, -, cl, hc⟩ := Kd.S_form h h0
  injection e with e1 _ e3
  subst e1
  subst e3
  exact .inr ⟨g, cl, rfl, hc, frCl_of h hc⟩
def impl_graph_int_from.T17 : Bool × List (List Nat × List Nat) := (true, [([], []), ([], []), ([], []), ([2], [2]), ([1, 3], [1, 3]), ([], []), ([], []), ([], []), ([7], [7]), ([6, 8], [6, 8]), ([5, 9], [5, 9]), ([10], [10]), ([], []), ([12], [12]), ([13], [13]), ([11, 14], [11, 14]), ([0, 4, 0, 1, 2, 3, 4, 5, 6, 7, 8, 9, 10, 11, 12, 13, 14, 15], [0, 4]), ([16, 15, 15, 0, 1, 2, 3, 4, 5, 6, 7, 8, 9, 10, 11, 12, 13, 14, 15], [15, 16])])
def impl_graph_int_from.B17 : List Nat := [0, 0, 0, 4, 14, 0, 0, 0, 128, 448, 992, 2016, 0, 4096, 12288, 32736, 65535, 131071]
theorem impl_graph_int_from.T17_ : rtab .any (opsOf Try.f84 17) = impl_graph_int_from.T17 := by kernel_rfl
theorem impl_graph_int_from.B17_ : waitsOk impl_graph_int_from.T17.2 impl_graph_int_from.B17 = true := by kernel_rfl
theorem impl_graph_int_from.calls (fo : Nat) (cb : Array Value) (N : Int) (E : Int → List S110) (w w0 : World) (ee : ∀ args w, (callFunc fo args).run Try.prog w = .ok (.enter fo args) w) (hE : GOut fo cb N E w) (k : Nat) (starts r : List Int) (bs cs : Nat) (hb0 : Below w.heap.size w w0)
  (hs : Kd.R (Kd.int .i64) 3 w0 w.heap.size (fun _ => True) (.slice (some ⟨bs, 0, none⟩) starts.length cs) starts) (h : impl_graph_int_from.f E k N starts = some r) :
  Calls Try.prog 84 #[.agg #[.int .i64 N, .func (.func fo) #[] cb], .slice (some ⟨bs, 0, none⟩) starts.length cs] w0 fun e w' => ∃ v0_ : Value, e = .returned v0_ ∧ Kd.R (Kd.int .i64) 3 w' w.heap.size (fun _ => True) v0_ r ∧ Below w.heap.size w w' := by
 have hu := Try.underlying68
 have hu2 := Try.underlying110
 unfold impl_graph_int_from.f at h
 by_cases hN0 : 0 < N
 rotate_left
 ·rw [if_neg hN0] at h; exact absurd h (by simp)
 rw [if_pos hN0] at h
 obtain ⟨dist, h1, h2⟩ := Option.bind_eq_some_iff.mp h
 have hN : 0 < N ∧ N ≤ 1000000 ∧ dist.length = N.toNat := by
  unfold slices_Repeat_int_int.f at h1
  rw [if_pos (by rfl), if_pos (by omega)] at h1
  by_cases c1 : N ≤ 1000000
  ·rw [if_pos c1] at h1
   obtain rfl := Option.some.inj h1
   exact ⟨hN0, c1, by simp⟩
  ·rw [if_neg c1] at h1; exact absurd h1 (by simp)
 obtain ⟨DL, hDL⟩ : ∃ DL, DL = dist.length := ⟨_, rfl⟩
 have A1 := ak_ fun (W : World) (A : Option Addr) (c : Nat) (h2 : Kd.C (Kd.int .i64) W A 1 [-1]) (h3 : 1 ≤ c) => slices_Repeat_int_int.calls A c [-1] N dist W h2 h3 h1
 have H := ak_ h2
 have HN := ak_ (And.intro hN.1 (And.intro hN.2.1 (hDL.trans hN.2.2)))
 have HDL := ak_ hDL
 have HE := ak_ hE
 have HB := ak_ hb0
 have HS := ak_ hs
 clear h h1 h2 hN hE hb0 hs hN0 hDL
 go_enter Try.func84, Try.ntmps84
 go_wp2_with (first | ((with_reducible refine gate_dst (N := 2) rfl ?_); refine box_event ?hg (N := 2) ?hd (cs := #[.int .i64 N, .func (.func fo) #[] cb]) (t := 68) ?hr ?_; (case hd => rfl); (case hg => rfl); (case hr => go_simp <;> rfl); intro gb2 hg w2 hbox hb; have ns_ := ak_ (Kd.R_below HS.out hb); have nb_ := ak_ (bs_ (bb_ HB.out) hb); have nc_ := ak_ hbox; have nd_ := ak_ ((by rw [hg]; exact (bz_ (bb_ HB.out)) : w.heap.size ≤ gb2)); clear HS HB hb hbox hg; have HS := ns_; have HB := nb_; have BK2 := nc_; have GE2 := nd_; clear ns_ nb_ nc_ nd_; have hz2_0 := (blk_cell BK2.out 0); have hf2_0 := (blk_frozen BK2.out 0); simp at hz2_0; have hz2_1 := (blk_cell BK2.out 1); have hf2_1 := (blk_frozen BK2.out 1); simp at hz2_1; skip) | ((with_reducible refine gate_dst (N := 12) rfl ?_); refine Kd.R_lit (Kd.int .i64) _ 3 ?hg (N := 12) ?hd (xs := ([-1] : List Int)) (inner := [.int .i64 (-1)]) (ok := fun _ => True) (okp := fun _ => True) ?hr ?hp (fun _ hk => hk) trivial (Below.refl _ _) (Nat.le_refl _) (by simp) ?_; (case hd => rfl); (case hg => rfl); (case hr => go_simp <;> rfl); (case hp => exact (Reps.one (show Kd.M (Kd.int .i64) _ _ _ (-1) [.int .i64 (-1)] from rfl) (Reps.none _ _))); intro v12 w12 ho hb hg_ hnew_; clear hg_ hnew_; obtain ⟨A12, c12, rfl⟩ := Kd.R_slice ho; have HL := ak_ ho; have HBS := ak_ (Kd.R_lt (Kd.R_below (Kd.pR HS.out) hb) bs rfl : bs < w12.heap.size); have n0_ := ak_ (blk_below (pk BK2.out) hb); have n1_ := ak_ (bs_ (bb_ HB.out) hb); have n2_ := ak_ (Kd.R_below (Kd.pR HS.out) hb); clear BK2 HB HS hb ho; have BK2 := n0_; have HB := n1_; have HS := n2_; clear n0_ n1_ n2_; have hq2_0 := (blk_cell BK2.out 0); have hq2_1 := (blk_cell BK2.out 1); simp at hq2_0; simp at hq2_1) | (go_at_call 127; refine (A1.out _ A12 c12 (Kd.R_reads' HL.out).2.2 (Kd.R_reads' HL.out).2.1).mono ?_; rintro e w15 ⟨v15, rfl, ho, hb⟩; obtain ⟨gd, cd, rfl, hgb, hgl, -⟩ := Kd.R_form ho (by have := HN.out; have := HDL.out; omega); have HGD := ak_ (And.intro (Nat.lt_of_lt_of_le HBS.out hgb : bs < gd) (And.intro hgl (Nat.le_trans (bz_ (bb_ HB.out)) hgb : w.heap.size ≤ gd))); have HD := ak_ (Kd.R_lower (Kd.R_mono (Kd.R_tight rfl ho) (ok' := fun k => k = gd) (fun k hk => (by simpa [Value.ownBlock] using hk))) (bz_ (bb_ HB.out))); rw [← HDL.out] at HD; clear hgb hgl ho HL HBS; have n0_ := ak_ (blk_below (pk BK2.out) hb); have n1_ := ak_ (bs_ (bb_ HB.out) hb); have n2_ := ak_ (Kd.R_below (Kd.pR HS.out) hb); clear BK2 HB HS hb; have BK2 := n0_; have HB := n1_; have HS := n2_; clear n0_ n1_ n2_; have hq2_0 := (blk_cell BK2.out 0); have hq2_1 := (blk_cell BK2.out 1); simp at hq2_0; simp at hq2_1; rw [← HDL.out]))
 have HW := ak_ (fr_lit (ok := fun k => k ≠ gd) (Kd.R_mono (Kd.R_tight rfl (Kd.pR HS.out)) (ok' := fun k => k ≠ gd) (fun k hk => (by have e_ := fr_own hk; have := HGD.out; omega))) (fun _ hk => hk) (Nat.ne_of_gt HGD.out.2.1) (bz_ (bb_ HB.out)))
 clear HS
 go_loopg [6, 7] k (fun gg v6 v7 wr => ∃ (d : Nat) (dist : List Int) (ww : List (List Int)) (gw cw : Nat), v6 = .slice (some ⟨gw, 0, none⟩) ww.length cw ∧ v7 = .int .i64 (d : Int) ∧ Aside0 (frRun E N gg d 0 dist ww = some r) ∧ Aside0 (dist.length = DL) ∧ Aside0 (Kd.R (Kd.int .i64) 3 wr w.heap.size (fun k => k = gd) (.slice (some ⟨gd, 0, none⟩) DL cd) dist) ∧ Aside0 (Kd.S (Kd.slice 3 (Kd.int .i64)) 29 wr w.heap.size (fun k => k ≠ gd) (.slice (some ⟨gw, 0, none⟩) ww.length cw) ww) ∧ Aside0 (wr.heap[gb2]? = some (.cells #[.int .i64 N, .func (.func fo) #[] cb] 68 (0, 0))) ∧ Aside0 (Below w.heap.size w wr))
 case atStart => exact ⟨0, dist, [starts], w15.heap.size, 1, rfl, rfl, H, ⟨HDL.out.symm⟩, ⟨Kd.pR HD.out⟩, ⟨HW.out⟩, ⟨pk BK2.out⟩, ⟨(bb_ HB.out)⟩⟩
 case round =>
  clear H HDL HD HW BK2 HB
  obtain ⟨d, dist, ww, gw, cw, rfl, rfl, H, HL, HD, HW, BK2, HB⟩ := hrel
  cases gk with
  | zero => exact absurd H.out (by simp [frRun])
  | succ m =>
   by_cases hd : d < ww.length
   ·have q1 : decide ((d : Int) < (ww.length : Int)) = true := decide_eq_true (by omega)
    have q1n : decide (d < ww.length) = true := decide_eq_true hd
    have HDW := ak_ hd
    clear hd
    go_wp2
    go_loopg [6, 8] (m + 1) (fun gg v6 v8 wr => ∃ (i : Nat) (dist : List Int) (ww : List (List Int)) (gw cw : Nat), v6 = .slice (some ⟨gw, 0, none⟩) ww.length cw ∧ v8 = .int .i64 (i : Int) ∧ Aside0 (gg ≤ m + 1) ∧ Aside0 (frRun E N gg d i dist ww = some r) ∧ Aside0 (dist.length = DL) ∧ Aside0 (d < ww.length) ∧ Aside0 (Kd.R (Kd.int .i64) 3 wr w.heap.size (fun k => k = gd) (.slice (some ⟨gd, 0, none⟩) DL cd) dist) ∧ Aside0 (Kd.S (Kd.slice 3 (Kd.int .i64)) 29 wr w.heap.size (fun k => k ≠ gd) (.slice (some ⟨gw, 0, none⟩) ww.length cw) ww) ∧ Aside0 (wr.heap[gb2]? = some (.cells #[.int .i64 N, .func (.func fo) #[] cb] 68 (0, 0))) ∧ Aside0 (Below w.heap.size w wr))
    case atStart => exact ⟨0, dist, ww, gw, cw, rfl, rfl, ⟨Nat.le_refl _⟩, H, HL, HDW, ⟨Kd.pR HD.out⟩, ⟨Kd.pS HW.out⟩, ⟨pk BK2.out⟩, ⟨(bb_ HB.out)⟩⟩
    case round =>
     clear H HL HD HW BK2 HB HDW q1 q1n
     obtain ⟨i, dist, ww, gw, cw, rfl, rfl, HM, H, HL, HDW, HD, HW, BK2, HB⟩ := hrel
     cases gk with
     | zero => exact absurd H.out (by simp [frRun])
     | succ m2 =>
      have h := H.out
      simp only [frRun] at h
      rw [if_pos HDW.out] at h
      obtain ⟨vi, oki, hcell, hfrz, hRi, hok, hH⟩ := fr_lend HW.out (d : Int) (by omega) (by have := HDW.out; omega)
      rw [Int.toNat_natCast] at hcell hfrz hRi
      have d0 : (0 : Int) ≤ (d : Int) := by omega
      have d1 : (d : Int) < (ww.length : Int) := by have := HDW.out; omega
      replace d0 := eq_true d0
      replace d1 := eq_true d1
      obtain ⟨row, hrow⟩ : ∃ row, row = ww.getD d [] := ⟨_, rfl⟩
      rw [← hrow] at h hRi
      have HROW := ak_ hrow
      clear hok hH hfrz hrow
      by_cases hi : i < row.length
      ·obtain ⟨b, ci, rfl, -, -, -⟩ := Kd.R_form hRi (by omega)
       obtain ⟨hx, -⟩ := Kd.R_celln 0 hRi (i : Int) (by omega) (by omega)
       rw [Int.toNat_natCast] at hx
       rw [if_pos hi] at h
       obtain ⟨s, hs⟩ : ∃ s, s = rdOf 0 row (i : Int) := ⟨_, rfl⟩
       rw [← hs] at h hx
       by_cases hc : 0 ≤ s ∧ s < N ∧ i < 1000000 ∧ d < 1000000 ∧ (E s).length < 1000000
       rotate_left
       ·rw [if_neg hc] at h; exact absurd h (by simp)
       rw [if_pos hc] at h
       have i1 : decide ((i : Int) < (row.length : Int)) = true := decide_eq_true (by omega)
       have i1n : decide (i < row.length) = true := decide_eq_true hi
       have i0 : ((0 : Int) ≤ (i : Int)) = True := eq_true (by omega)
       have i1p : ((i : Int) < (row.length : Int)) = True := eq_true (by omega)
       have s0 : ((0 : Int) ≤ s) = True := eq_true hc.1
       have s1 : (s < (DL : Int)) = True := eq_true (by have := HN.out; omega)
       obtain ⟨hxs, hfs⟩ := Kd.R_celln 0 HD.out s hc.1 (by have := HN.out; omega)
       have hw8 : IntKind.i64.wrap ((i : Int) + 1) = ((i + 1 : Nat) : Int) := by rw [IntWalk.i64_in _ ⟨by omega, by omega⟩]; omega
       have HC := ak_ hc
       clear hi hc hs hRi
       by_cases hv : rdOf 0 dist s ≥ 0
       ·have v1 : decide (rdOf 0 dist s ≥ 0) = true := decide_eq_true hv
        have v2 : decide (0 ≤ rdOf 0 dist s) = true := decide_eq_true hv
        rw [if_pos hv] at h
        have H2 := ak_ h
        clear h hv H
        go_wp2
        go_roundg m2
        case measure => omega
        case rel => exact ⟨i + 1, dist, ww, gw, cw, rfl, (by first | rfl | (simp; done)), ⟨by have := HM.out; omega⟩, H2, HL, HDW, ⟨Kd.pR HD.out⟩, ⟨Kd.pS HW.out⟩, ⟨pk BK2.out⟩, ⟨(bb_ HB.out)⟩⟩
       ·have v1 : decide (rdOf 0 dist s ≥ 0) = false := decide_eq_false hv
        have v2 : decide (0 ≤ rdOf 0 dist s) = false := decide_eq_false hv
        rw [if_neg hv] at h
        obtain ⟨wf, h1, h2⟩ := Option.bind_eq_some_iff.mp h
        have H1 := ak_ h1
        have H2 := ak_ h2
        have hput := Kd.R_putg HD.out s (d : Int)
        have HPUT := ak_ hput
        obtain ⟨dist2, hd2⟩ : ∃ dist2, dist2 = dist.set s.toNat (d : Int) := ⟨_, rfl⟩
        have hL2 : dist2.length = DL := by rw [hd2, List.length_set]; exact HL.out
        rw [← hd2] at H1 H2 HPUT
        have HL2 := ak_ hL2
        clear h h1 h2 hv H hput hd2 hL2
        go_upto_region 11 with (fail)
        generalize hw : wr.setCell ⟨gd, s.toNat, none⟩ (.int .i64 (d : Int)) = w10
        have hg : wr.grownBy w10 (some gd) := (by rw [← hw]; exact HPUT.out.2)
        have n0_ := ak_ (blk_grown BK2.out hg (Kd.R_ne HD.out BK2.out (by decide))); have n1_ := ak_ (Kd.S_grown HW.out hg (fun k hk e => hk (Option.some.inj e))); have n2_ := ak_ ((show Below w.heap.size w w10 from (by rw [← hw]; exact below_set HB.out HGD.out.2.2))); have n3_ := ak_ ((show Kd.R (Kd.int .i64) 3 w10 w.heap.size (fun k => k = gd) (.slice (some ⟨gd, 0, none⟩) DL cd) dist2 from (by rw [← hw]; exact HPUT.out.1))); clear BK2 HW HB HD hg hw HPUT; have BK2 := n0_; have HW := n1_; have HB := n2_; have HD := n3_; clear n0_ n1_ n2_ n3_
        clear hcell hx hxs hfs
        have hc2_0 := (blk_cell BK2.out 0)
        have hc2_1 := (blk_cell BK2.out 1)
        simp at hc2_0
        simp at hc2_1
        go_wp2_with (go_at_fn fo; refine (HE.out _ s (bb_ HB.out) HC.out.1 HC.out.2.1).mono ?_; rintro e w11 ⟨v11, rfl, ho, hb⟩; obtain ⟨Ae, ce, rfl⟩ := Kd.S_slice ho; have HED := ak_ (frEd_of ho); have n0_ := ak_ (blk_below (pk BK2.out) hb); have n1_ := ak_ (Kd.S_below (Kd.pS HW.out) hb); have n2_ := ak_ (bs_ (bb_ HB.out) hb); have n3_ := ak_ (Kd.R_below (Kd.pR HD.out) hb); clear BK2 HW HB HD hb ho; have BK2 := n0_; have HW := n1_; have HB := n2_; have HD := n3_; clear n0_ n1_ n2_ n3_)
        go_loopg [6, 54] (E s).length (fun gg v6 v54 wr2 => ∃ (j : Nat) (w1 : List (List Int)) (gw cw : Nat), v6 = .slice (some ⟨gw, 0, none⟩) w1.length cw ∧ v54 = .int .i64 (j : Int) ∧ Aside0 (j ≤ (E s).length ∧ (E s).length - j ≤ gg) ∧ Aside0 (frEdges d dist2 ((E s).drop j) w1 = some wf) ∧ Aside0 (d < w1.length) ∧ Aside0 (Kd.R (Kd.int .i64) 3 wr2 w.heap.size (fun k => k = gd) (.slice (some ⟨gd, 0, none⟩) DL cd) dist2) ∧ Aside0 (Kd.S (Kd.slice 3 (Kd.int .i64)) 29 wr2 w.heap.size (fun k => k ≠ gd) (.slice (some ⟨gw, 0, none⟩) w1.length cw) w1) ∧ Aside0 (frEd wr2 Ae (E s)) ∧ Aside0 (wr2.heap[gb2]? = some (.cells #[.int .i64 N, .func (.func fo) #[] cb] 68 (0, 0))) ∧ Aside0 (Below w.heap.size w wr2))
        case atStart => exact ⟨0, ww, gw, cw, rfl, rfl, ⟨⟨Nat.zero_le _, Nat.le_refl _⟩⟩, H1, HDW, ⟨Kd.pR HD.out⟩, ⟨Kd.pS HW.out⟩, ⟨HED.out⟩, ⟨pk BK2.out⟩, ⟨(bb_ HB.out)⟩⟩
        case round =>
         clear H1 HDW HD HW HED BK2 HB
         obtain ⟨j, w1, gw, cw, rfl, rfl, HJ, H1, HDW, HD, HW, HED, BK2, HB⟩ := hrel
         have hL2 := HL2.out
         by_cases hj : j < (E s).length
         ·have j1 : decide ((j : Int) < ((E s).length : Int)) = true := decide_eq_true (by omega)
          have j1n : decide (j < (E s).length) = true := decide_eq_true hj
          have j0p : ((0 : Int) ≤ (j : Int)) = True := eq_true (by omega)
          have j1p : ((j : Int) < ((E s).length : Int)) = True := eq_true (by omega)
          rcases HED.out with h0 | ⟨ge, cl, rfl, hbe, hcl⟩
          ·exact absurd h0 (by omega)
          have BKE := ak_ hbe
          have HCL := ak_ hcl
          obtain ⟨A2, n2, c2, he0, he1, he2⟩ := hcl (j : Int) (by omega) (by omega)
          rw [Int.toNat_natCast] at he0 he1 he2
          rw [← blk_cell hbe] at he0 he1 he2
          obtain ⟨e, he⟩ : ∃ e, e = rd_T110 (E s) (j : Int) := ⟨_, rfl⟩
          rw [← he] at he0 he1
          have h := H1.out
          rw [List.drop_eq_getElem_cons hj, show (E s)[j] = e from by rw [he]; unfold rd_T110; rw [Int.toNat_natCast, List.getD_eq_getElem?_getD, List.getElem?_eq_getElem hj]; rfl] at h
          simp only [frEdges] at h
          have HE1 := ak_ he
          clear hbe hcl he H1 HED
          by_cases hc : 0 ≤ e.f0 ∧ e.f0 < (dist2.length : Int)
          rotate_left
          ·rw [if_neg hc] at h; exact absurd h (by simp)
          rw [if_pos hc] at h
          rw [hL2] at hc
          obtain ⟨hxt, -⟩ := Kd.R_celln 0 HD.out e.f0 hc.1 (by omega)
          have t0 := eq_true hc.1
          have t1 := eq_true hc.2
          have hw54 : IntKind.i64.wrap ((j : Int) + 1) = ((j + 1 : Nat) : Int) := by have := HC.out; rw [IntWalk.i64_in _ ⟨by omega, by omega⟩]; omega
          clear hc
          have HJJ := ak_ hj
          clear hj
          go_upto_region 14 with (fail)
          obtain ⟨w14, hw14⟩ : ∃ W, W = wr.alloc (.cells #[.int .i64 e.f0, .int .i64 e.f1, .slice A2 n2 c2] 110) := ⟨_, rfl⟩
          have hb : Below wr.heap.size wr w14 := (by rw [hw14]; exact ba_ (Below.refl _ _) _)
          have hbk : w14.heap[wr.heap.size]? = some (.cells #[.int .i64 e.f0, .int .i64 e.f1, .slice A2 n2 c2] 110 (0, 0)) := (by rw [hw14]; exact blk_new wr _)
          have hgw : w.heap.size ≤ wr.heap.size := bz_ HB.out
          rw [← hw14]
          clear hw14 he0 he1 he2 hxt
          have n0_ := ak_ (blk_below BK2.out hb); have n1_ := ak_ (blk_below BKE.out hb); have n2_ := ak_ (Kd.S_below HW.out hb); have n3_ := ak_ (Kd.R_below HD.out hb); have n4_ := ak_ (bs_ HB.out hb); clear BK2 BKE HW HD HB hb; have BK2 := n0_; have BKE := n1_; have HW := n2_; have HD := n3_; have HB := n4_; clear n0_ n1_ n2_ n3_ n4_
          obtain ⟨gb11, hg11⟩ : ∃ g, g = wr.heap.size := ⟨_, rfl⟩
          rw [← hg11] at hbk ⊢
          have BK11 := ak_ hbk
          clear hbk hg11 hgw
          have hz0 := (blk_cell BK11.out 0)
          have hz1 := (blk_cell BK11.out 1)
          simp at hz0
          simp at hz1
          obtain ⟨hxt, -⟩ := Kd.R_celln 0 HD.out e.f0 (of_eq_true t0) (by have := of_eq_true t1; omega)
          by_cases hv : rdOf 0 dist2 e.f0 ≥ 0
          ·have v1 : decide (rdOf 0 dist2 e.f0 ≥ 0) = true := decide_eq_true hv
           have v2 : decide (0 ≤ rdOf 0 dist2 e.f0) = true := decide_eq_true hv
           rw [if_pos hv] at h
           have H1 := ak_ h
           clear h hv
           go_wp2
           go_roundg ((E s).length - (j + 1))
           case measure => have := HJ.out; have := HJJ.out; omega
           case rel => exact ⟨j + 1, w1, gw, cw, rfl, (by first | rfl | (simp; done)), ⟨⟨by have := HJJ.out; omega, Nat.le_refl _⟩⟩, H1, HDW, ⟨Kd.pR HD.out⟩, ⟨Kd.pS HW.out⟩, ⟨.inr ⟨ge, cl, rfl, pk BKE.out, HCL.out⟩⟩, ⟨pk BK2.out⟩, ⟨(bb_ HB.out)⟩⟩
          ·have v1 : decide (rdOf 0 dist2 e.f0 ≥ 0) = false := decide_eq_false hv
           have v2 : decide (0 ≤ rdOf 0 dist2 e.f0) = false := decide_eq_false hv
           rw [if_neg hv] at h
           by_cases hc : 1 ≤ e.f1 ∧ (d : Int) + e.f1 < 1000000 ∧ ((frPad (d + e.f1.toNat) w1).getD (d + e.f1.toNat) []).length < 1000000 ∧ w1.length < 1000000
           rotate_left
           ·rw [if_neg hc] at h; exact absurd h (by simp)
           rw [if_pos hc] at h
           obtain ⟨q, hq⟩ : ∃ q, q = d + e.f1.toNat := ⟨_, rfl⟩
           rw [← hq] at h hc
           have hqi : (d : Int) + e.f1 = (q : Int) := by omega
           have hwq : IntKind.i64.wrap ((d : Int) + e.f1) = (q : Int) := by rw [hqi]; exact IntWalk.i64_in _ ⟨by omega, by omega⟩
           have H1 := ak_ h
           have HC2 := ak_ (And.intro (by omega : q < 1000000) (And.intro hc.2.2.1 hc.2.2.2))
           clear h hv hc hq hqi
           go_wp2
           go_loopg [6] (q + 1) (fun gg v6 wr3 => ∃ (t : Nat) (w2 : List (List Int)) (gw cw : Nat), v6 = .slice (some ⟨gw, 0, none⟩) w2.length cw ∧ Aside0 (w2 = w1 ++ List.replicate t [] ∧ (t = 0 ∨ w2.length ≤ q + 1) ∧ q + 1 - w2.length ≤ gg) ∧ Aside0 (Kd.R (Kd.int .i64) 3 wr3 w.heap.size (fun k => k = gd) (.slice (some ⟨gd, 0, none⟩) DL cd) dist2) ∧ Aside0 (Kd.S (Kd.slice 3 (Kd.int .i64)) 29 wr3 w.heap.size (fun k => k ≠ gd) (.slice (some ⟨gw, 0, none⟩) w2.length cw) w2) ∧ Aside0 (wr3.heap[ge]? = some (.cells cl 110 (0, 0))) ∧ Aside0 (wr3.heap[gb11]? = some (.cells #[.int .i64 e.f0, .int .i64 e.f1, .slice A2 n2 c2] 110 (0, 0))) ∧ Aside0 (wr3.heap[gb2]? = some (.cells #[.int .i64 N, .func (.func fo) #[] cb] 68 (0, 0))) ∧ Aside0 (Below w.heap.size w wr3))
           case atStart => exact ⟨0, w1, gw, cw, rfl, ⟨⟨by simp, .inl rfl, by omega⟩⟩, ⟨Kd.pR HD.out⟩, ⟨Kd.pS HW.out⟩, ⟨pk BKE.out⟩, ⟨pk BK11.out⟩, ⟨pk BK2.out⟩, ⟨(bb_ HB.out)⟩⟩
           case round =>
            clear HD HW BKE BK11 BK2 HB hz0 hz1 hxt
            obtain ⟨t, w2, gw, cw, rfl, HT, HD, HW, BKE, BK11, BK2, HB⟩ := hrel
            have hz0 := (blk_cell BK11.out 0)
            have hz1 := (blk_cell BK11.out 1)
            simp at hz0
            simp at hz1
            by_cases hl : w2.length ≤ q
            ·have l1 : decide ((w2.length : Int) ≤ (q : Int)) = true := decide_eq_true (by omega)
             have l1n : decide (w2.length ≤ q) = true := decide_eq_true hl
             have HLQ := ak_ hl
             clear hl
             go_wp2_with ((with_reducible refine gate_builtin (b := .append) (xs := #[.tmp 71, .tmp 72]) rfl ?_); at_builtin; refine Kd.S_append (Kd.slice 3 (Kd.int .i64)) (w0 := w) w.heap.size rfl (.tmp 71) (.tmp 72) 47 29 (.slice none 0 0) 24 rfl Try.underlying47 info29 rfl (by decide) (by omega) (.slice (some ⟨gw, 0, none⟩) w2.length cw) w2 [] [.slice none 0 0] (fun k => k ≠ gd) (fun _ => False) rfl rfl ?aP (fun _ hk => hk.elim) ?aF ?aO ?aB ?aS ?aL ?_; (case aP => exact ⟨.slice none 0 0, rfl, Kd.R_nil _ _ _ _ _⟩); (case aB => exact (bb_ HB.out)); (case aF => exact (fun k hk => by have h_ := Kd.R_lt HD.out gd rfl; omega)); (case aO => exact Kd.S_mono (Kd.pS HW.out) (fun k hk => ⟨hk, fun h => h⟩)); (case aS => exact bz_ (bb_ HB.out)); (case aL => have := HLQ.out; have := HC2.out; omega); intro v73 w73 ho hb hg hat; obtain ⟨gw3, cw3, rfl, -, -, -⟩ := Kd.S_form ho (by simp); have n0_ := ak_ (blk_grown (pk BK2.out) hg (Kd.S_ne HW.out BK2.out (by decide))); have n1_ := ak_ (blk_grown (pk BKE.out) hg (Kd.S_ne HW.out BKE.out (by decide))); have n2_ := ak_ (blk_grown (pk BK11.out) hg (Kd.S_ne HW.out BK11.out (by decide))); have n3_ := ak_ (Kd.R_grown (Kd.pR HD.out) hg (fun k hk => by rw [hk]; exact Kd.S_away HW.out (fun k hk => hk))); have n4_ := ak_ (ho); have n5_ := ak_ (hb); clear BK2 BKE BK11 HD HW HB hg hat; have BK2 := n0_; have BKE := n1_; have BK11 := n2_; have HD := n3_; have HW := n4_; have HB := n5_; clear n0_ n1_ n2_ n3_ n4_ n5_)
             go_roundg (q + 1 - (w2.length + 1))
             case measure => have := HT.out; have := HLQ.out; omega
             case rel => exact ⟨t + 1, w2 ++ [[]], gw3, cw3, (by rw [List.length_append]; rfl), ⟨⟨by rw [HT.out.1, List.append_assoc, ← List.replicate_succ'], .inr (by have := HLQ.out; rw [List.length_append, List.length_singleton]; omega), by rw [List.length_append, List.length_singleton]; omega⟩⟩, ⟨Kd.pR HD.out⟩, ⟨Kd.pS HW.out⟩, ⟨pk BKE.out⟩, ⟨pk BK11.out⟩, ⟨pk BK2.out⟩, ⟨(bb_ HB.out)⟩⟩
            ·have l1 : decide ((w2.length : Int) ≤ (q : Int)) = false := decide_eq_false (by omega)
             have l1n : decide (w2.length ≤ q) = false := decide_eq_false hl
             have hw2 : w2 = frPad q w1 := frPad_of HT.out.1 (by have := HT.out.2.1; omega) (by omega)
             have HW2 := ak_ hw2
             have q0 : ((0 : Int) ≤ (q : Int)) = True := eq_true (by omega)
             have q1p : ((q : Int) < (w2.length : Int)) = True := eq_true (by omega)
             have q1d : decide ((q : Int) < (w2.length : Int)) = true := decide_eq_true (by omega)
             have HQ := ak_ (by omega : q < w2.length)
             clear hl hw2
             go_upto_region 17 with (fail)
             try go_wp2
             have n0_ := ak_ (k1_ BK2.out); have n1_ := ak_ (k1_ BKE.out); have n2_ := ak_ (k1_ BK11.out); have n3_ := ak_ (Kd.R_drew HD.out); have n4_ := ak_ (Kd.S_drew HW.out); have n5_ := ak_ (b1_ HB.out); clear BK2 BKE BK11 HD HW HB; have BK2 := n0_; have BKE := n1_; have BK11 := n2_; have HD := n3_; have HW := n4_; have HB := n5_; clear n0_ n1_ n2_ n3_ n4_ n5_
             obtain ⟨vi, oki, hcell, hfrz, hRi, hok, hH⟩ := fr_lend HW.out (q : Int) (by omega) (by have := HQ.out; omega)
             rw [Int.toNat_natCast] at hcell hfrz hRi
             have NEK := ak_ (And.intro (Kd.S_ne HW.out BKE.out (by decide)) (Kd.S_ne HW.out BK2.out (by decide)))
             have HOK := ak_ hok
             have HH := ak_ hH
             have HRI := ak_ hRi
             clear hok hH hfrz hRi HW
             have HCE := ak_ hcell
             clear hcell hz0 hz1
             refine start_ (n := 18) (S := fun w' => w'.cell? ⟨gb11, 0, none⟩ = some (.int .i64 e.f0) ∧ w'.cell? ⟨gb11, 1, none⟩ = some (.int .i64 e.f1) ∧ w'.cell? ⟨gw, q, none⟩ = some vi) (ds := [17]) (mb_ 18 0) (by kernel_rfl) rfl rfl ⟨(blk_cell BK11.out 0).trans rfl, (blk_cell BK11.out 1).trans rfl, HCE.out⟩ (fun hHeld => ?_); refine with_tabW impl_graph_int_from.T17_ impl_graph_int_from.B17_ (fun HT_ HW_ => ?_)
             generalize wr.drew = w9 at HD BKE BK11 BK2 HB HCE HH HRI hHeld ⊢
             refine pu_ 0 74 18 1 ?_
             refine pu_ 1 75 18 3 ?_
             refine pu_ 2 76 18 7 ?_
             refine tk_ 3 77 18 15 ?_ (hy := by rintro w' ⟨s0, s1, s2⟩; go_simp; with_reducible rfl)
             refine pu_ 4 78 18 31 ?_
             refine pu_ 5 79 18 63 ?_
             refine pu_ 6 80 18 127 ?_
             refine pu_ 7 81 18 255 ?_
             refine tk_ 8 82 18 511 ?_ (hy := by rintro w' ⟨s0, s1, s2⟩; go_simp; with_reducible rfl)
             refine pu_ 9 83 18 1023 ?_
             refine pu_ 10 84 18 2047 ?_
             refine tk_ 11 85 18 4095 ?_ (hy := by rintro w' ⟨s0, s1, s2⟩; go_simp; with_reducible rfl)
             refine pu_ 12 86 18 8191 ?_
             refine tk_ 13 87 18 16383 ?_ (hy := by rintro w' ⟨s0, s1, s2⟩; go_simp; with_reducible rfl)
             refine on_ 14 88 18 32767 (fun K hK => ?_)
             refine Kd.R_lit_step (Kd.int .i64) _ 3 ?hg (N := 88) ?hd (xs := [e.f0]) (inner := [.int .i64 e.f0]) (ok := fun _ => True) (okp := fun _ => True) ?hr ?hp (fun _ hk => hk) trivial (Below.refl _ _) (Nat.le_refl _) (by simp) ?_; (case hd => rfl); (case hg => rfl); (case hr => go_simp <;> rfl); (case hp => exact (Reps.one (show Kd.M (Kd.int .i64) _ _ _ e.f0 [.int .i64 e.f0] from rfl) (Reps.none _ _)))
             intro s2 w10 ho0 hb0 hg_ hnew_
             clear hg_ hnew_
             obtain ⟨AL, cL, rfl⟩ := Kd.R_slice ho0
             have HLIT := ak_ (Kd.R_reads' ho0).2.2
             have n0_ := ak_ (blk_below BK2.out hb0); have n1_ := ak_ (blk_below BKE.out hb0); have n2_ := ak_ (blk_below BK11.out hb0); have n3_ := ak_ (Kd.R_below HD.out hb0); have n4_ := ak_ (bs_ HB.out hb0); have n5_ := ak_ (pw_cell_below hb0 HCE.out); have n6_ := ak_ (Kd.H_below HH.out hb0); have n7_ := ak_ (Kd.R_below HRI.out hb0); clear BK2 BKE BK11 HD HB HCE HH HRI hb0 ho0; have BK2 := n0_; have BKE := n1_; have BK11 := n2_; have HD := n3_; have HB := n4_; have HCE := n5_; have HH := n6_; have HRI := n7_; clear n0_ n1_ n2_ n3_ n4_ n5_ n6_ n7_
             refine hK.out _ _ ⟨(blk_cell BK11.out 0).trans rfl, (blk_cell BK11.out 1).trans rfl, HCE.out⟩ (fun hHeld => ?_)
             clear hK K
             refine nm_ ?_
             refine on_ 15 89 18 65535 (fun K hK => ?_)
             refine Kd.R_append_rows_step (Kd.int .i64) (w0 := w) w.heap.size (by rfl) (.tmp 85) (.tmp 88) 29 3 (.int .i64 0) 8 rfl Try.underlying29 info3 rfl (by decide) (by omega) vi (w2.getD q []) [e.f0] AL 1 cL (fun _ => True) (fun _ => False) rfl rfl ?aO ?aR (fun _ _ h => h) (fun _ h => h.elim) ?aF ?aB ?aS ?aL ?_
             (case aO => exact Kd.R_mono HRI.out (fun _ _ => trivial))
             (case aR => exact HLIT.out)
             (case aB => exact HB.out)
             (case aF => exact (fun _ _ => trivial))
             (case aS => exact bz_ HB.out)
             (case aL => have := HC2.out.2.1; rw [← HW2.out] at this; omega)
             intro v3 w11 ho hb hg hat
             obtain ⟨A3, c3, rfl⟩ := Kd.R_slice ho
             generalize (w2.getD q [] ++ [e.f0]).length = n3 at ho hg hat ⊢
             have HD2 := ak_ HD.out
             have HN3 := ak_ ho
             have HGR := ak_ (And.intro hg hat)
             have hat_ := Kd.H_at (Kd.H_grown (Kd.H_widen HH.out) hg (fun k hk => .inl (HRI.out.1 k hk))) (by omega) (by have := HQ.out; omega)
             have hce_ : w11.cell? ⟨gw, q, none⟩ = some vi := (by have h_ := hat_.1 0 vi rfl; rw [Int.toNat_natCast, show q * (Kd.slice 3 (Kd.int .i64)).sz + 0 = q from (by show q * 1 + 0 = q; omega)] at h_; exact h_)
             have hfr_ : w11.frozen? ⟨gw, q, none⟩ = false := (by have h_ := hat_.2 0; rw [Int.toNat_natCast, show q * (Kd.slice 3 (Kd.int .i64)).sz + 0 = q from (by show q * 1 + 0 = q; omega)] at h_; exact h_)
             have n0_ := ak_ (blk_grown BK2.out hg (Kd.R_ne HRI.out BK2.out (by decide))); have n1_ := ak_ (blk_grown BKE.out hg (Kd.R_ne HRI.out BKE.out (by decide))); have n2_ := ak_ (blk_grown BK11.out hg (Kd.R_ne HRI.out BK11.out (by decide))); have n3_ := ak_ (Kd.R_grown HD.out hg (fun k hk e_ => (HOK.out k (HRI.out.1 k e_.symm)).1 hk)); have n4_ := ak_ (hb); have n5_ := ak_ (hce_); clear BK2 BKE BK11 HD HB HCE hg hat ho hat_ hce_; have BK2 := n0_; have BKE := n1_; have BK11 := n2_; have HD := n3_; have HB := n4_; have HCE := n5_; clear n0_ n1_ n2_ n3_ n4_ n5_
             have HFR := ak_ hfr_
             clear hfr_
             refine hK.out _ _ ⟨(blk_cell BK11.out 0).trans rfl, (blk_cell BK11.out 1).trans rfl, HCE.out⟩ (fun hHeld => ?_)
             clear hK K
             refine nm_ ?_
             refine pu_ 16 90 18 131071 ?_
             refine last_ (i := 17) (N := none) (mb_ 18 262143) rfl rfl (one_of HT_.out (by kernel_rfl)) (by decide) (fun K hK => ?_)
             have hs_ := HCE.out
             have hf_ := HFR.out
             refine skip_ (w1 := ?_) (by rfl) rfl ?_ ?_
             rotate_left
             ·go_simp
              rfl
             refine hK.out _ _ ?_
             clear hK K
             refine done_ (done_of HT_.out (by kernel_rfl)) ?_
             try go_wp2
             have hB_ := fr_back HH.out (by omega) (by have := HQ.out; omega) (by have := Kd.R_lt HD2.out gd rfl; omega) HRI.out HGR.out.1 HGR.out.2 HN3.out
             rw [Int.toNat_natCast] at hB_
             have HBK := ak_ hB_
             clear hB_
             go_roundg ((E s).length - (j + 1))
             case measure => have := HJ.out; have := HJJ.out; omega
             case rel => exact ⟨j + 1, w2.set q (w2.getD q [] ++ [e.f0]), gw, cw, (by rw [List.length_set]), (by first | rfl | (simp; done)), ⟨⟨by have := HJJ.out; omega, Nat.le_refl _⟩⟩, ⟨by rw [HW2.out]; exact H1.out⟩, ⟨by rw [List.length_set, HW2.out]; exact Nat.lt_of_lt_of_le HDW.out (frPad_len q w1)⟩, ⟨Kd.R_grown HD.out HBK.out.2 (fun k hk => by rw [hk]; exact Kd.S_away HBK.out.1 (fun k hk => hk))⟩, ⟨by rw [List.length_set]; exact HBK.out.1⟩, ⟨.inr ⟨ge, cl, rfl, blk_grown BKE.out HBK.out.2 NEK.out.1, HCL.out⟩⟩, ⟨blk_grown BK2.out HBK.out.2 NEK.out.2⟩, ⟨fr_below HB.out HBK.out.2 (Kd.S_base HBK.out.1 gw rfl)⟩⟩
         ·have j1 : decide ((j : Int) < ((E s).length : Int)) = false := decide_eq_false (by omega)
          have j1n : decide (j < (E s).length) = false := decide_eq_false hj
          have h := H1.out
          rw [List.drop_of_length_le (by omega)] at h
          obtain rfl := Option.some.inj (show some w1 = some wf from h)
          clear h H1 hj
          go_wp2
          go_roundg m2
          case measure => omega
          case rel => exact ⟨i + 1, _, w1, gw, cw, rfl, (by first | rfl | (simp; done)), ⟨by have := HM.out; omega⟩, H2, HL2, HDW, ⟨Kd.pR HD.out⟩, ⟨Kd.pS HW.out⟩, ⟨pk BK2.out⟩, ⟨(bb_ HB.out)⟩⟩
      ·have i1 : decide ((i : Int) < (row.length : Int)) = false := decide_eq_false (by omega)
       have i1n : decide (i < row.length) = false := decide_eq_false hi
       rw [if_neg hi] at h
       by_cases hd2 : d < 1000000
       rotate_left
       ·rw [if_neg hd2] at h; exact absurd h (by simp)
       rw [if_pos hd2] at h
       have hw7 : IntKind.i64.wrap ((d : Int) + 1) = ((d + 1 : Nat) : Int) := by rw [IntWalk.i64_in _ ⟨by omega, by omega⟩]; omega
       obtain ⟨Ai, ci, rfl⟩ := Kd.R_slice hRi
       have H2 := ak_ h
       clear h hi hd2 H hRi
       go_wp2
       go_roundg m2
       case measure => have := HM.out; omega
       case rel => exact ⟨d + 1, dist, ww, gw, cw, rfl, (by first | rfl | (simp; done)), H2, HL, ⟨Kd.pR HD.out⟩, ⟨Kd.pS HW.out⟩, ⟨pk BK2.out⟩, ⟨(bb_ HB.out)⟩⟩
   ·have q1 : decide ((d : Int) < (ww.length : Int)) = false := decide_eq_false (by omega)
    have q1n : decide (d < ww.length) = false := decide_eq_false hd
    have h := H.out
    simp only [frRun] at h
    rw [if_neg hd] at h
    obtain rfl := Option.some.inj h
    clear h H hd
    go_wp2
    first | go_ret | go_ret2
    exact ⟨_, rfl, Kd.R_mono (Kd.R_below HD.out be_) (fun _ _ => trivial), (bb_ HB.out)⟩
def impl_last.f (a0 : Int) : Option (Int) := if 0 ≤ (wrap64 (a0 + 1)) then (some (wrap64 ((shl .i64 1 (wrap64 (a0 + 1))) - 1))) else (none)
theorem impl_last.calls (a0 : Int) (r : Int) (w : World) (h : impl_last.f a0 = some r) :
  Calls Try.prog 85 #[.int .i64 a0] w fun e w' => e = .returned (.int .i64 r) ∧ Drawn0 w w' := by
 have H : (if 0 ≤ (wrap64 (a0 + 1)) then (some (wrap64 ((shl .i64 1 (wrap64 (a0 + 1))) - 1))) else (none)) = some r := h
 clear h
 obtain ⟨ji2, hji2⟩ : ∃ j_ : Int, (wrap64 (a0 + 1)) = j_ := ⟨_, rfl⟩
 replace H : (if 0 ≤ (ji2) then (some (wrap64 ((shl .i64 1 (ji2)) - 1))) else (none)) = some r := by first | (rw [hji2] at H; exact H) | (simp only [hji2] at H ⊢; exact H)
 have hji2w : (IntKind.i64.wrap (a0 + 1)) = ji2 := (i64_w _).trans hji2
 by_cases c3 : 0 ≤ (ji2)
 ·
  rw [if_pos c3] at H
  have c3b0 := eq_true c3
  have c3b1 : decide (0 ≤ (ji2)) = true := decide_eq_true c3
  clear c3
  obtain ⟨ji4, hji4⟩ : ∃ j_ : Int, (shl .i64 1 (ji2)) = j_ := ⟨_, rfl⟩
  replace H : (some (wrap64 ((ji4) - 1))) = some r := by first | (rw [hji4] at H; exact H) | (simp only [hji4] at H ⊢; exact H)
  have hji4_ : (IntKind.i64.wrap (1 * 2 ^ min (ji2).toNat 64)) = ji4 := hji4
  have hji4z : (ji2) ≤ 64 → (IntKind.i64.wrap (1 * 2 ^ (ji2).toNat)) = ji4 := shl_small hji4
  have hji4u : (IntKind.i64.wrap (2 ^ min (ji2).toNat 64)) = ji4 := by have h_ := hji4_; rw [Int.one_mul] at h_; exact h_
  have hji4v : (ji2) ≤ 64 → (IntKind.i64.wrap (2 ^ (ji2).toNat)) = ji4 := fun hle_ => by have h_ := hji4z hle_; rw [Int.one_mul] at h_; exact h_
  have hji4y : (wrap64 (1 * 2 ^ min (ji2).toNat 64)) = ji4 := (i64_w _).symm.trans hji4_
  have hji4x : (ji2) ≤ 64 → (wrap64 (1 * 2 ^ (ji2).toNat)) = ji4 := fun h_ => (i64_w _).symm.trans (hji4z h_)
  obtain rfl := Option.some.inj H
  go_enter Try.func85, Try.ntmps85
  go_wp2
  go_ret
  exact ⟨by first | rfl | (simp; done) | (simp only [← hji2, ← hji4] <;> (first | rfl | simp)) | (simp [*]; done), by repeat (first | exact Drawn0.refl _ | apply Drawn0.step)⟩
 ·
  rw [if_neg c3] at H
  exact absurd H (by simp)
def impl_stateOf.l0 : Nat → Int → Int → Int → List Bool → Bool → Option (List Bool × Bool)
 | 0, _, _, _, _, _ => none
 | k + 1, x1, x17, x18, x487000, x487001 => if x18 < x17 then (if 0 ≤ x18 then (if x18 < (x487000.length : Int) then (impl_stateOf.l0 k x1 x17 (wrap64 (x18 + 1)) (x487000.set (x18 : Int).toNat ((Go.bits .and .i64 (shr .i64 x1 x18) 1) == 1)) x487001) else (none)) else (none)) else (some (x487000, x487001))
def impl_stateOf.f (k : Nat) (a0 : Int) (a1 : Int) : Option (List Bool × Bool) := if 0 ≤ a0 then (if (a0 : Int).toNat ≤ 281474976710656 then ((some (List.replicate (a0 : Int).toNat false : List Bool)).bind fun y483 => (impl_stateOf.l0 k a1 (y483.length : Int) 0 y483 ((Go.bits .and .i64 (shr .i64 a1 a0) 1) == 1))) else (none)) else (none)
theorem impl_stateOf.mono_l : ∀ k, (∀ y0 y1 y2 y3 y4, LeO (impl_stateOf.l0 k y0 y1 y2 y3 y4) (impl_stateOf.l0 (k + 1) y0 y1 y2 y3 y4))
 | 0 => fun _ _ _ _ _ r h => by simp [impl_stateOf.l0] at h
 | k + 1 => by
  have ih0 := impl_stateOf.mono_l k
  ·intro y0 y1 y2 y3 y4
   unfold impl_stateOf.l0
   repeat' first
   | (with_reducible first | exact ih0 _ _ _ _ _ | exact LeO.refl _ | exact LeO.none _ | refine LeO.ite ?_ ?_ | refine LeO.bind ?_ (fun _ => ?_))
theorem impl_stateOf.mono : ∀ a0 a1 k, LeO (impl_stateOf.f k a0 a1) (impl_stateOf.f (k + 1) a0 a1) := by
 intro a0 a1 k
 have ih0 := impl_stateOf.mono_l k
 unfold impl_stateOf.f
 repeat' first
  | (with_reducible first | exact ih0 _ _ _ _ _ | exact LeO.refl _ | exact LeO.none _ | refine LeO.ite ?_ ?_ | refine LeO.bind ?_ (fun _ => ?_))
def impl_stateOf.T1 : Bool × List (List Nat × List Nat) := (true, [([], []), ([0, 0], [0]), ([], []), ([], []), ([2, 3], [2, 3]), ([4], [4]), ([5], [5]), ([1, 6], [1, 6]), ([], []), ([8, 7, 0, 1, 2, 3, 4, 5, 6, 7, 8], [7, 8])])
def impl_stateOf.B1 : List Nat := [0, 1, 0, 0, 12, 28, 60, 127, 0, 511]
theorem impl_stateOf.tab1 : rtab .any (opsOf Try.f123 1) = impl_stateOf.T1 := by kernel_rfl
theorem impl_stateOf.bits1 : waitsOk impl_stateOf.T1.2 impl_stateOf.B1 = true := by kernel_rfl
def impl_stateOf.T5 : Bool × List (List Nat × List Nat) := (true, [([], []), ([0], [0]), ([], []), ([], []), ([], []), ([3, 4], [3, 4]), ([5], [5]), ([6], [6]), ([1, 2, 0, 1, 2, 3, 4, 5, 6, 7], [1, 2]), ([8, 7, 0, 1, 2, 3, 4, 5, 6, 7], [7, 8])])
def impl_stateOf.B5 : List Nat := [0, 1, 0, 0, 0, 24, 56, 120, 255, 511]
theorem impl_stateOf.tab5 : rtab .any (opsOf Try.f123 5) = impl_stateOf.T5 := by kernel_rfl
theorem impl_stateOf.bits5 : waitsOk impl_stateOf.T5.2 impl_stateOf.B5 = true := by kernel_rfl
theorem impl_stateOf.calls (k : Nat) (a0 : Int) (a1 : Int) (r1 : List Bool) (r2 : Bool) (w : World) (h : impl_stateOf.f k a0 a1 = some (r1, r2)) :
  Calls Try.prog 123 #[.int .i64 a0, .int .i64 a1] w fun e w' => ∃ v0_ : Value, e = .returned (.agg #[v0_, .bool r2]) ∧ Kd.R Kd.bool 4 w' w.heap.size (fun _ => True) v0_ r1 ∧ Below w.heap.size w w' := by
 have hu115 := Try.underlying115
 have HB := ak_ (Below.refl w.heap.size w)
 have H : (if 0 ≤ a0 then (if (a0 : Int).toNat ≤ 281474976710656 then ((some (List.replicate (a0 : Int).toNat false : List Bool)).bind fun y483 => (impl_stateOf.l0 k a1 (y483.length : Int) 0 y483 ((Go.bits .and .i64 (shr .i64 a1 a0) 1) == 1))) else (none)) else (none)) = some (r1, r2) := h
 clear h
 by_cases c3 : 0 ≤ a0
 ·
  rw [if_pos c3] at H
  have c3b0 := eq_true c3
  have c3b1 : decide (0 ≤ a0) = true := decide_eq_true c3
  clear c3
  by_cases c4 : (a0 : Int).toNat ≤ 281474976710656
  ·
   rw [if_pos c4] at H
   have c4b0 := eq_true c4
   have c4b1 : decide ((a0 : Int).toNat ≤ 281474976710656) = true := decide_eq_true c4
   clear c4
   obtain ⟨y483, hy483⟩ : ∃ y_ : List Bool, y_ = (List.replicate (a0 : Int).toNat false) := ⟨_, rfl⟩
   replace H : (impl_stateOf.l0 k a1 (y483.length : Int) 0 y483 ((Go.bits .and .i64 (shr .i64 a1 a0) 1) == 1)) = some (r1, r2) := by first | (rw [hy483]; exact H) | exact H
   have Ny483 := ak_ hy483
   clear hy483
   have c5b0 := eq_true (odt_ (by assumption) : 0 ≤ a0)
   obtain ⟨ji6, hji6⟩ : ∃ j_ : Int, (shr .i64 a1 a0) = j_ := ⟨_, rfl⟩
   replace H : (impl_stateOf.l0 k a1 (y483.length : Int) 0 y483 ((Go.bits .and .i64 (ji6) 1) == 1)) = some (r1, r2) := by first | (rw [hji6] at H; exact H) | (simp only [hji6] at H ⊢; exact H)
   have hji6_ : (a1 / 2 ^ min a0.toNat 64) = ji6 := hji6
   have hji6z : a0 ≤ 64 → (a1 / 2 ^ a0.toNat) = ji6 := shr_small hji6
   have H' := ak_ H
   clear H
   go_enter Try.func123, Try.ntmps123
   try go_wp2_with (first | ((with_reducible refine gate_dst (N := 4) rfl ?_); refine bx_ 4 #[.slice none 0 0, .bool false] 115 ?_; intro gb482 hg w7 hbox hb; have n0_ := ak_ (bs_ (bb_ HB.out) hb); have n1_ := ak_ (hbox); have n2_ := ak_ ((by rw [hg]; exact (bz_ (bb_ HB.out)) : w.heap.size ≤ gb482)); have n3_ := n2_; clear HB; have HB := n0_; have BK482 := n1_; have GW482 := n2_; have GE482 := n3_; clear n0_ n1_ n2_ n3_; clear hb hbox hg))
   have n0_ := ak_ (k1_ BK482.out)
   have n1_ := ak_ (b1_ HB.out)
   clear BK482 HB
   have BK482 := n0_; have HB := n1_
   clear n0_ n1_
   refine start_ (n := 10) (S := fun w' => True) (ds := []) (mb_ 10 0) (by kernel_rfl) rfl rfl trivial (fun hHeld => ?_); refine with_tabW impl_stateOf.tab1 impl_stateOf.bits1 (fun HT_ HW_ => ?_)
   generalize w7.drew = w8 at BK482 HB hHeld ⊢
   refine pu_ 0 7 10 1 ?_
   refine pu_ 2 9 10 5 ?_
   refine pu_ 3 10 10 13 ?_
   refine pu_ 4 11 10 29 ?_
   refine pu_ 5 12 10 61 ?_
   refine pu_ 6 13 10 125 ?_
   refine join_ (σ := Value × Nat) 1 (mb_ 10 511) (fun s_ => [(8, s_.1), (5, .pointer (some ⟨s_.2, 0, none⟩)), (14, .agg #[s_.1, .bool ((Go.bits .and .i64 (ji6) 1) == 1)])]) (fun s_ w' => (Kd.R Kd.bool 4 w' w.heap.size (fun _ => True) s_.1 y483) ∧ (w'.heap[gb482]? = some (.cells #[.slice none 0 0, .bool false] 115 (0, 0))) ∧ (w'.heap[s_.2]? = some (.cells #[.slice none 0 0, .bool false] 115 (0, 0))) ∧ (w.heap.size ≤ s_.2) ∧ (w.heap.size ≤ s_.2) ∧ (gb482 ≠ s_.2) ∧ (s_.2 ≠ gb482) ∧ (Below w.heap.size w w')) ?_ ?_
   rotate_left
   ·
    intro hCont
    refine two_ (i := 1) (j := 8) (Ni := some 8) (Nj := some 5) (mb_ 10 127) (mb_ 10 381) rfl rfl rfl rfl (two_of HT_.out (by kernel_rfl)) (by decide) (by decide) (fun K hK => ?_) (fun K hK => ?_)
    ·
     skip
     refine Kd.R_make_step Kd.bool _ 4 (by rfl) (N := 8) rfl 38 _ _ rfl a0 rfl rfl Try.underlying38 (.bool false) 1 info4 rfl (by decide) (by omega) false (ok := fun _ => True) (okp := fun _ => True) rfl (fun _ hk => hk) trivial (odt_ (by assumption)) (Nat.le_trans (Nat.mul_le_mul_right _ (odt_ (by assumption) : a0.toNat ≤ 281474976710656)) (by omega)) (Below.refl _ _) (Nat.le_refl _) ?_
     intro v484 w9 ho10 hb hg_ hnew_
     clear hg_ hnew_
     (first | rw [← Ny483.out] at ho10 | (simp only [Int.reduceToNat] at ho10; rw [← Ny483.out] at ho10))
     have n0_ := ak_ (Kd.R_lower ho10 (bz_ bl_))
     have n1_ := ak_ (blk_below (pk BK482.out) hb)
     have n2_ := ak_ (bs_ bl_ hb)
     clear BK482 HB
     have HO485 := n0_; have BK482 := n1_; have HB := n2_
     clear n0_ n1_ n2_ hb ho10
     obtain ⟨Ao11, co11, eo11⟩ := Kd.R_slice HO485.out
     (first | subst eo11 | (injection eo11 with f1_ f2_ f3_; have f4_ := f1_.symm; have f5_ := f3_.symm; clear f1_ f2_ f3_; subst f4_; subst f5_))
     refine hK.out _ _ trivial (fun hHeld => ?_)
     clear hK K
     refine nm_ ?_
     refine pu_ 7 14 10 255 ?_
     refine on_ 8 5 10 511 (fun K hK => ?_)
     refine box_step ?hg (N := 5) ?hd (cs := #[.slice none 0 0, .bool false]) (t := 115) ?hr ?_; (case hd => rfl); (case hg => rfl); (case hr => go_simp <;> rfl)
     intro gb486 hg w12 hbox hb
     have n0_ := ak_ (Kd.R_below (Kd.pR HO485.out) hb)
     have n1_ := ak_ (blk_below (pk BK482.out) hb)
     have n2_ := ak_ (bs_ bl_ hb)
     have n3_ := ak_ (hbox)
     have n4_ := ak_ ((by rw [hg]; exact (bz_ bl_) : w.heap.size ≤ gb486))
     have n5_ := n4_
     have n6_ := ak_ ((by rw [hg]; exact Nat.ne_of_lt (blk_lt (pk BK482.out)) : gb482 ≠ gb486))
     have n7_ := ak_ n6_.out.symm
     clear HO485 BK482 HB
     have HO485 := n0_; have BK482 := n1_; have HB := n2_; have BK486 := n3_; have GW486 := n4_; have GE486 := n5_; have NB482_486 := n6_; have NB486_482 := n7_
     clear n0_ n1_ n2_ n3_ n4_ n5_ n6_ n7_ hb hbox hg
     refine hK.out _ _ trivial (fun hHeld => ?_)
     clear hK K
     refine nm_ ?_
     exact norm_ (by simp only [putAll, Act.put, setIfInBounds_toArray, set_cons_zero, set_cons_succ]) (hCont (.slice Ao11 y483.length co11, gb486) _ ⟨(Kd.pR HO485.out), (pk BK482.out), (pk BK486.out), GW486.out, GE486.out, NB482_486.out, NB486_482.out, bl_⟩)
    ·
     skip
     refine box_step ?hg (N := 5) ?hd (cs := #[.slice none 0 0, .bool false]) (t := 115) ?hr ?_; (case hd => rfl); (case hg => rfl); (case hr => go_simp <;> rfl)
     intro gb486 hg w9 hbox hb
     have n0_ := ak_ (blk_below (pk BK482.out) hb)
     have n1_ := ak_ (bs_ bl_ hb)
     have n2_ := ak_ (hbox)
     have n3_ := ak_ ((by rw [hg]; exact (bz_ bl_) : w.heap.size ≤ gb486))
     have n4_ := n3_
     have n5_ := ak_ ((by rw [hg]; exact Nat.ne_of_lt (blk_lt (pk BK482.out)) : gb482 ≠ gb486))
     have n6_ := ak_ n5_.out.symm
     clear BK482 HB
     have BK482 := n0_; have HB := n1_; have BK486 := n2_; have GW486 := n3_; have GE486 := n4_; have NB482_486 := n5_; have NB486_482 := n6_
     clear n0_ n1_ n2_ n3_ n4_ n5_ n6_ hb hbox hg
     refine hK.out _ _ trivial (fun hHeld => ?_)
     clear hK K
     refine nm_ ?_
     refine on_ 1 8 10 383 (fun K hK => ?_)
     refine Kd.R_make_step Kd.bool _ 4 (by rfl) (N := 8) rfl 38 _ _ rfl a0 rfl rfl Try.underlying38 (.bool false) 1 info4 rfl (by decide) (by omega) false (ok := fun _ => True) (okp := fun _ => True) rfl (fun _ hk => hk) trivial (odt_ (by assumption)) (Nat.le_trans (Nat.mul_le_mul_right _ (odt_ (by assumption) : a0.toNat ≤ 281474976710656)) (by omega)) (Below.refl _ _) (Nat.le_refl _) ?_
     intro v484 w10 ho11 hb hg_ hnew_
     clear hg_ hnew_
     (first | rw [← Ny483.out] at ho11 | (simp only [Int.reduceToNat] at ho11; rw [← Ny483.out] at ho11))
     have n0_ := ak_ (Kd.R_lower ho11 (bz_ bl_))
     have n1_ := ak_ (blk_below (pk BK482.out) hb)
     have n2_ := ak_ (blk_below (pk BK486.out) hb)
     have n3_ := ak_ (bs_ bl_ hb)
     clear BK482 BK486 HB
     have HO485 := n0_; have BK482 := n1_; have BK486 := n2_; have HB := n3_
     clear n0_ n1_ n2_ n3_ hb ho11
     obtain ⟨Ao12, co12, eo12⟩ := Kd.R_slice HO485.out
     (first | subst eo12 | (injection eo12 with f1_ f2_ f3_; have f4_ := f1_.symm; have f5_ := f3_.symm; clear f1_ f2_ f3_; subst f4_; subst f5_))
     refine hK.out _ _ trivial (fun hHeld => ?_)
     clear hK K
     refine nm_ ?_
     refine pu_ 7 14 10 511 ?_
     exact norm_ (by simp only [putAll, Act.put, setIfInBounds_toArray, set_cons_zero, set_cons_succ]) (hCont (.slice Ao12 y483.length co12, gb486) _ ⟨(Kd.pR HO485.out), (pk BK482.out), (pk BK486.out), GW486.out, GE486.out, NB482_486.out, NB486_482.out, bl_⟩)
   rintro ⟨v484, gb486⟩ w13 ⟨h0_, h1_, h2_, h3_, h4_, h5_, h6_, h7_⟩
   have n0_ : Aside0 (Kd.R Kd.bool 4 w13 w.heap.size (fun _ => True) v484 y483) := ⟨h0_⟩
   have n1_ : Aside0 (w13.heap[gb482]? = some (.cells #[.slice none 0 0, .bool false] 115 (0, 0))) := ⟨h1_⟩
   have n2_ : Aside0 (w13.heap[gb486]? = some (.cells #[.slice none 0 0, .bool false] 115 (0, 0))) := ⟨h2_⟩
   have n3_ : Aside0 (w.heap.size ≤ gb486) := ⟨h3_⟩
   have n4_ : Aside0 (w.heap.size ≤ gb486) := ⟨h4_⟩
   have n5_ : Aside0 (gb482 ≠ gb486) := ⟨h5_⟩
   have n6_ : Aside0 (gb486 ≠ gb482) := ⟨h6_⟩
   have n7_ : Aside0 (Below w.heap.size w w13) := ⟨h7_⟩
   clear BK482 HB h0_ h1_ h2_ h3_ h4_ h5_ h6_ h7_
   have HO485 := n0_; have BK482 := n1_; have BK486 := n2_; have GW486 := n3_; have GE486 := n4_; have NB482_486 := n5_; have NB486_482 := n6_; have HB := n7_
   clear n0_ n1_ n2_ n3_ n4_ n5_ n6_ n7_
   have hHeld := trivial
   obtain ⟨Ao14, co14, eo14⟩ := Kd.R_slice HO485.out
   (first | subst eo14 | (injection eo14 with f1_ f2_ f3_; have f4_ := f1_.symm; have f5_ := f3_.symm; clear f1_ f2_ f3_; subst f4_; subst f5_))
   refine norm_ (a' := ?_) ?_ ?_
   rotate_left
   ·
    simp only [putAll, Act.put, setIfInBounds_toArray, set_cons_zero, set_cons_succ]
    rfl
   refine one_ (i := 9) (N := none) (mb_ 10 1023) rfl rfl (one_of HT_.out (by kernel_rfl)) (by decide) (fun K hK => ?_)
   have hs15 : w13.cell? ⟨gb486, 0, none⟩ = some (.slice none 0 0) := (blk_cell BK486.out 0).trans rfl
   have hfs15 := blk_frozen BK486.out 0
   have hns15_0 := NB482_486.out
   have hms15_0 := NB486_482.out
   have hs16 : w13.cell? ⟨gb486, 1, none⟩ = some (.bool false) := (blk_cell BK486.out 1).trans rfl
   have hfs16 := blk_frozen BK486.out 1
   have hns16_0 := NB482_486.out
   have hms16_0 := NB486_482.out
   refine skip_ (w1 := ?_) (by rfl) rfl ?_ ?_
   rotate_left
   ·
    go_simp
    rfl
   refine hK.out _ _ trivial (fun hHeld => ?_)
   clear hK K
   refine done_ (done_of HT_.out (by kernel_rfl)) ?_
   have hnb17 := NB486_482.out
   have hnc17 := NB482_486.out
   obtain ⟨hcz18_0, hcz18_1, hfz18_0, hfz18_1⟩ := c2_ BK486.out
   try go_wp2
   go_loopg [18] k (fun kq v18 w' => ∃ (x18_1 : Int) (x487000_1 : List Bool) (u487000 : Value), v18 = .int .i64 x18_1 ∧ Aside0 (impl_stateOf.l0 kq a1 (y483.length : Int) x18_1 x487000_1 ((Go.bits .and .i64 (ji6) 1) == 1) = some (r1, r2)) ∧ Aside0 (kq ≤ k) ∧ Aside0 (Kd.R Kd.bool 4 w' w.heap.size (fun _ => True) u487000 x487000_1) ∧ Aside0 (w'.heap[gb482]? = some (.cells #[(.slice none 0 0), .bool false] 115 (0, 0))) ∧ Aside0 (w'.heap[gb486]? = some (.cells #[u487000, .bool ((Go.bits .and .i64 (ji6) 1) == 1)] 115 (0, 0))) ∧ Aside0 (Below w.heap.size w w'))
   case atStart => exact ⟨(0), (y483), (.slice Ao14 y483.length co14), (ry_), H', ⟨Nat.le_refl _⟩, ⟨by (with_reducible repeat (first | apply Kd.R_alloc | apply Kd.R_drewN | apply Kd.R_drew)); exact Kd.R_mono (Kd.R_far (p := ⟨gb486, 1, none⟩) (Kd.R_far (p := ⟨gb486, 0, none⟩) (Kd.R_types HO485.out BK486.out (by decide)) (fun _ hk => hk.2) (.slice Ao14 y483.length co14)) (fun _ hk => hk.2) (.bool ((Go.bits .and .i64 (ji6) 1) == 1))) (fun _ hk => trivial)⟩, ⟨by (with_reducible repeat (first | refine kN_ ?_ _ | refine k1_ ?_ | refine ka_ ?_ _)); refine blk_far ?_ NB482_486.out _; (with_reducible repeat (first | refine kN_ ?_ _ | refine k1_ ?_ | refine ka_ ?_ _)); refine blk_far ?_ NB482_486.out _; exact pk BK482.out⟩, ⟨by (with_reducible repeat (first | refine kN_ ?_ _ | refine k1_ ?_ | refine ka_ ?_ _)); refine blk_put (cs := #[.slice Ao14 y483.length co14, .bool false]) ?_ 1 _ rfl; (with_reducible repeat (first | refine kN_ ?_ _ | refine k1_ ?_ | refine ka_ ?_ _)); refine blk_put (cs := #[.slice none 0 0, .bool false]) ?_ 0 _ rfl; exact pk BK486.out⟩, ⟨by repeat (first | exact HB.out | apply ba_ | apply bN_ | apply b1_ | refine below_set ?_ (Aside0.out (by assumption)))⟩⟩
   case round =>
    clear H'
    try clear c1
    try clear p2
    try clear c3
    try clear c3b0
    try clear c3b1
    try clear c4
    try clear c4b0
    try clear c4b1
    try clear c5
    try clear c5b0
    try clear c12
    try clear c17
    try clear hcz18_0
    try clear hcz18_1
    try clear hfz18_0
    try clear hfz18_1
    obtain ⟨x18_1, x487000_1, u487000, rfl, HA, HK1, HO_487000, BK482, BK486, HB⟩ := hrel
    cases gk with
    | zero => exact absurd HA.out (by simp [impl_stateOf.l0])
    | succ k1 =>
     have H := HA.out
     clear HA
     simp only [impl_stateOf.l0] at H
     by_cases c19 : x18_1 < (y483.length : Int)
     ·
      rw [if_pos c19] at H
      have c19b0 : decide (x18_1 < (y483.length : Int)) = true := decide_eq_true c19
      clear c19
      by_cases c20 : 0 ≤ x18_1
      ·
       rw [if_pos c20] at H
       have c20b0 := eq_true c20
       have c20b1 : decide (0 ≤ x18_1) = true := decide_eq_true c20
       clear c20
       obtain ⟨ji21, hji21⟩ : ∃ j_ : Int, (shr .i64 a1 x18_1) = j_ := ⟨_, rfl⟩
       replace H : (if x18_1 < (x487000_1.length : Int) then (impl_stateOf.l0 k1 a1 (y483.length : Int) (wrap64 (x18_1 + 1)) (x487000_1.set (x18_1 : Int).toNat ((Go.bits .and .i64 (ji21) 1) == 1)) ((Go.bits .and .i64 (ji6) 1) == 1)) else (none)) = some (r1, r2) := by first | (rw [hji21] at H; exact H) | (simp only [hji21] at H ⊢; exact H)
       have hji21_ : (a1 / 2 ^ min x18_1.toNat 64) = ji21 := hji21
       have hji21z : x18_1 ≤ 64 → (a1 / 2 ^ x18_1.toNat) = ji21 := shr_small hji21
       by_cases c22 : x18_1 < (x487000_1.length : Int)
       ·
        rw [if_pos c22] at H
        have c22b0 : decide (x18_1 < (x487000_1.length : Int)) = true := decide_eq_true c22
        clear c22
        obtain ⟨y487, hy487⟩ : ∃ y_ : List Bool, y_ = (x487000_1.set (x18_1 : Int).toNat ((Go.bits .and .i64 (ji21) 1) == 1)) := ⟨_, rfl⟩
        replace H : (impl_stateOf.l0 k1 a1 (y483.length : Int) (wrap64 (x18_1 + 1)) y487 ((Go.bits .and .i64 (ji6) 1) == 1)) = some (r1, r2) := by first | (rw [hy487]; exact H) | exact H
        have Ny487 := ak_ hy487
        clear hy487
        have H' := ak_ H
        clear H
        try go_wp2
        have n0_ := ak_ (Kd.R_drew HO_487000.out)
        have n1_ := ak_ (k1_ BK482.out)
        have n2_ := ak_ (k1_ BK486.out)
        have n3_ := ak_ (b1_ HB.out)
        clear HO_487000 BK482 BK486 HB
        have HO_487000 := n0_; have BK482 := n1_; have BK486 := n2_; have HB := n3_
        clear n0_ n1_ n2_ n3_
        have p23 : 0 ≤ (x18_1 : Int) := odt_ (by assumption)
        have q23 : (x18_1 : Int) < ((x487000_1.length : Int) : Int) := odt_ (by assumption)
        obtain ⟨go23, co23, eo23, gb23, gl23, cl23, HG23⟩ := Kd.R_form HO_487000.out (by omega)
        (first | cases eo23 | (injection eo23 with ea_ en_ ec_; (first | subst ea_ | (injection ea_ with ea_; subst ea_)); subst ec_; clear en_))
        have GB23 := ak_ gb23
        have GG23 := ak_ HG23
        clear gb23 gl23 HG23
        obtain ⟨hx23_0, hf23_0⟩ := Kd.R_celln false HO_487000.out (x18_1 : Int) p23 q23
        replace p23 := eq_true p23
        replace q23 := eq_true q23
        have HP25 := Kd.R_putn HO_487000.out (x18_1 : Int) ((Go.bits .and .i64 (ji21) 1) == 1)
        rw [← Ny487.out] at HP25
        have HQ25 := ak_ HP25
        clear HP25
        refine start_ (n := 10) (S := fun w' => w'.cell? ⟨gb486, 0, none⟩ = some (.slice (some ⟨go23, 0, none⟩) x487000_1.length co23) ∧ w'.cell? ⟨gb486, 1, none⟩ = some (.bool ((Go.bits .and .i64 (ji6) 1) == 1))) (ds := [9]) (mb_ 10 0) (by kernel_rfl) rfl rfl ⟨(blk_cell BK486.out 0).trans rfl, (blk_cell BK486.out 1).trans rfl⟩ (fun hHeld => ?_); refine with_tabW impl_stateOf.tab5 impl_stateOf.bits5 (fun HT_ HW_ => ?_)
        generalize wr.drew = w24 at HO_487000 BK482 BK486 HB GG23 HQ25 hf23_0 hx23_0 hHeld ⊢
        refine pu_ 0 21 10 1 ?_
        refine pu_ 2 23 10 5 ?_
        refine pu_ 3 24 10 13 ?_
        refine pu_ 4 25 10 29 ?_
        refine pu_ 5 26 10 61 ?_
        refine pu_ 6 27 10 125 ?_
        refine pu_ 7 28 10 253 ?_
        refine tk_ 1 22 10 255 ?_ (hy := by rintro w' ⟨s0, s1⟩; go_simp; with_reducible rfl)
        refine pu_ 8 29 10 511 ?_
        refine last_ (i := 9) (N := none) (mb_ 10 1023) rfl rfl (one_of HT_.out (by kernel_rfl)) (by decide) (fun K hK => ?_)
        refine skip_ (w1 := ?_) (by rfl) rfl ?_ ?_
        rotate_left
        ·
         go_simp
         rfl
        refine hK.out _ _ ?_
        clear hK K
        refine done_ (done_of HT_.out (by kernel_rfl)) ?_
        try go_wp2
        go_roundg k1
        case measure => have := HK1.out; omega
        case rel => exact ⟨(wrap64 (x18_1 + 1)), (y487), (.slice (some ⟨go23, 0, none⟩) x487000_1.length co23), (ry_), H', ⟨by have := HK1.out; omega⟩, ⟨Kd.pR HQ25.out⟩, ⟨by (with_reducible repeat (first | refine kN_ ?_ _ | refine k1_ ?_ | refine ka_ ?_ _)); refine blk_far ?_ (by have h_ := Kd.R_ne HO_487000.out BK482.out (by decide); intro e_; exact h_ (by rw [e_]; rfl)) _; exact pk BK482.out⟩, ⟨by (with_reducible repeat (first | refine kN_ ?_ _ | refine k1_ ?_ | refine ka_ ?_ _)); refine blk_far ?_ (by have h_ := Kd.R_ne HO_487000.out BK486.out (by decide); intro e_; exact h_ (by rw [e_]; rfl)) _; exact pk BK486.out⟩, ⟨by repeat (first | exact HB.out | apply ba_ | apply bN_ | apply b1_ | refine below_set ?_ GB23.out | refine below_set ?_ (Aside0.out (by assumption)))⟩⟩
       ·
        rw [if_neg c22] at H
        exact absurd H (by simp)
      ·
       rw [if_neg c20] at H
       exact absurd H (by simp)
     ·
      rw [if_neg c19] at H
      have c19b0 : decide (x18_1 < (y483.length : Int)) = false := decide_eq_false c19
      clear c19
      simp only [Option.some.injEq, Prod.mk.injEq] at H
      obtain ⟨rfl, rfl⟩ := H
      have hnb26 := NB486_482.out
      have hnc26 := NB482_486.out
      obtain ⟨hcz27_0, hcz27_1, hfz27_0, hfz27_1⟩ := c2_ BK486.out
      obtain ⟨Ao28, co28, eo28⟩ := Kd.R_slice HO_487000.out
      subst eo28
      obtain ⟨hcz29_0, hcz29_1, hfz29_0, hfz29_1⟩ := c2_ BK482.out
      go_wp2
      refine bodyPost_ret (results_cell_row rfl _ _ gb482 115 #[.slice Ao28 x487000_1.length co28, .bool ((Go.bits .and .i64 (ji6) 1) == 1)] (0, 0) _ rfl (by (with_reducible repeat (first | refine kN_ ?_ _ | refine k1_ ?_ | refine ka_ ?_ _)); refine blk_put (cs := #[.slice Ao28 x487000_1.length co28, .bool false]) ?_ 1 _ rfl; (with_reducible repeat (first | refine kN_ ?_ _ | refine k1_ ?_ | refine ka_ ?_ _)); refine blk_put (cs := #[.slice none 0 0, .bool false]) ?_ 0 _ rfl; exact pk BK482.out) Try.underlying115 rfl (by kernel_rfl)) rfl ?_
      exact ⟨_, by first | rfl | (simp [errW_none, errW_some] <;> rfl) | (simp only [← hji6]; first | rfl | (simp [errW_none, errW_some] <;> rfl)) | (simp [*, errW_none, errW_some] <;> rfl), by (with_reducible repeat (first | apply Kd.R_alloc | apply Kd.R_drewN | apply Kd.R_drew)); exact Kd.R_mono (Kd.R_far (p := ⟨gb482, 1, none⟩) (Kd.R_far (p := ⟨gb482, 0, none⟩) (Kd.R_types HO_487000.out BK482.out (by decide)) (fun _ hk => hk.2) (.slice Ao28 x487000_1.length co28)) (fun _ hk => hk.2) (.bool ((Go.bits .and .i64 (ji6) 1) == 1))) (fun _ hk => trivial), by repeat (first | exact HB.out | apply ba_ | apply bN_ | apply b1_ | refine below_set ?_ (Aside0.out (by assumption)))⟩
  ·
   rw [if_neg c4] at H
   exact absurd H (by simp)
 ·
  rw [if_neg c3] at H
  exact absurd H (by simp)
def impl_bit.f (a0 : Bool) : Option (Int) := if a0 = true then (some 1) else (some 0)
theorem impl_bit.calls (a0 : Bool) (r : Int) (w : World) (h : impl_bit.f a0 = some r) :
  Calls Try.prog 160 #[.bool a0] w fun e w' => e = .returned (.int .i64 r) ∧ Drawn0 w w' := by
 have H : (if a0 = true then (some 1) else (some 0)) = some r := h
 clear h
 by_cases c2 : a0 = true
 ·subst c2
  have H1 : (some 1) = some r := by rw [if_pos rfl] at H; exact H
  clear H
  have H := H1
  clear H1
  obtain rfl := Option.some.inj H
  go_enter Try.func160, Try.ntmps160
  go_wp2
  go_ret
  exact ⟨ry_, by repeat (first | exact Drawn0.refl _ | apply Drawn0.step)⟩
 ·replace c2 := Bool.eq_false_iff.mpr c2
  subst c2
  have H1 : (some 0) = some r := by rw [if_neg (show ¬ (false = true) by decide)] at H; exact H
  clear H
  have H := H1
  clear H1
  obtain rfl := Option.some.inj H
  go_enter Try.func160, Try.ntmps160
  go_wp2
  go_ret
  exact ⟨ry_, by repeat (first | exact Drawn0.refl _ | apply Drawn0.step)⟩
def impl_State_code.l0 : Nat → Int → List Bool → Int → Int → Option (Int)
 | 0, _, _, _, _ => none
 | k + 1, x3, x14, x15, x16 => if x16 < x15 then (if 0 ≤ x16 then (if x16 < (x14.length : Int) then ((impl_bit.f (rdOf false x14 x16)).bind fun t491 => (impl_State_code.l0 k (Go.bits .or .i64 x3 (shl .i64 t491 x16)) x14 x15 (wrap64 (x16 + 1)))) else (none)) else (none)) else (some x3)
def impl_State_code.f (k : Nat) (l0_0 : List Bool) (a0_1 : Bool) : Option (Int) := (impl_bit.f a0_1).bind fun t489 => (impl_State_code.l0 k (shl .i64 t489 (l0_0.length : Int)) l0_0 (l0_0.length : Int) 0)
theorem impl_State_code.mono_l : ∀ k, (∀ y0 y1 y2 y3, LeO (impl_State_code.l0 k y0 y1 y2 y3) (impl_State_code.l0 (k + 1) y0 y1 y2 y3))
 | 0 => fun _ _ _ _ r h => by simp [impl_State_code.l0] at h
 | k + 1 => by
  have ih0 := impl_State_code.mono_l k
  ·intro y0 y1 y2 y3
   unfold impl_State_code.l0
   repeat' first
   | (with_reducible first | exact ih0 _ _ _ _ | exact LeO.refl _ | exact LeO.none _ | refine LeO.ite ?_ ?_ | refine LeO.bind ?_ (fun _ => ?_))
theorem impl_State_code.mono : ∀ a0 a1 k, LeO (impl_State_code.f k a0 a1) (impl_State_code.f (k + 1) a0 a1) := by
 intro a0 a1 k
 have ih0 := impl_State_code.mono_l k
 unfold impl_State_code.f
 repeat' first
  | (with_reducible first | exact ih0 _ _ _ _ | exact LeO.refl _ | exact LeO.none _ | refine LeO.ite ?_ ?_ | refine LeO.bind ?_ (fun _ => ?_))
theorem impl_State_code.calls (k : Nat) (A0_0 : Option Addr) (c0_0 : Nat) (l0_0 : List Bool) (a0_1 : Bool) (r : Int) (w : World) (hr0_0 : Kd.C Kd.bool w A0_0 l0_0.length l0_0) (hc0_0 : l0_0.length ≤ c0_0) (h : impl_State_code.f k l0_0 a0_1 = some r) :
  Calls Try.prog 126 #[.agg #[.slice A0_0 l0_0.length c0_0, .bool a0_1]] w fun e w' => e = .returned (.int .i64 r) ∧ Below w.heap.size w w' := by
 have hu115 := Try.underlying115
 have HR0_0 := ak_ hr0_0
 have HC0_0 := ak_ hc0_0
 clear hr0_0 hc0_0
 have HB := ak_ (Below.refl w.heap.size w)
 have H : ((impl_bit.f a0_1).bind fun t489 => (impl_State_code.l0 k (shl .i64 t489 (l0_0.length : Int)) l0_0 (l0_0.length : Int) 0)) = some r := h
 clear h
 replace H := Option.bind_eq_some_iff.mp H
 obtain ⟨t489, A20, H⟩ := H
 replace H : (impl_State_code.l0 k (shl .i64 t489 (l0_0.length : Int)) l0_0 (l0_0.length : Int) 0) = some r := H
 have A2 := ak_ A20
 clear A20
 obtain ⟨ji3, hji3⟩ : ∃ j_ : Int, (shl .i64 t489 (l0_0.length : Int)) = j_ := ⟨_, rfl⟩
 replace H : (impl_State_code.l0 k ji3 l0_0 (l0_0.length : Int) 0) = some r := by first | (rw [hji3] at H; exact H) | (simp only [hji3] at H ⊢; exact H)
 (try rw [hji3] at A2)
 have hji3_ : (IntKind.i64.wrap (t489 * 2 ^ min (l0_0.length : Int).toNat 64)) = ji3 := hji3
 have hji3z : (l0_0.length : Int) ≤ 64 → (IntKind.i64.wrap (t489 * 2 ^ (l0_0.length : Int).toNat)) = ji3 := shl_small hji3
 have hji3p : (IntKind.i64.wrap (t489 * 2 ^ min l0_0.length 64)) = ji3 := hji3_
 have hji3q : (l0_0.length : Int) ≤ 64 → (IntKind.i64.wrap (t489 * 2 ^ l0_0.length)) = ji3 := hji3z
 have hji3y : (wrap64 (t489 * 2 ^ min (l0_0.length : Int).toNat 64)) = ji3 := (i64_w _).symm.trans hji3_
 have hji3x : (l0_0.length : Int) ≤ 64 → (wrap64 (t489 * 2 ^ (l0_0.length : Int).toNat)) = ji3 := fun h_ => (i64_w _).symm.trans (hji3z h_)
 have H' := ak_ H
 clear H
 go_enter Try.func126, Try.ntmps126
 go_wp2_with (first | ((with_reducible refine gate_dst (N := 1) rfl ?_); refine bx_ 1 #[.slice A0_0 l0_0.length c0_0, .bool a0_1] 115 ?_; intro gb488 hg w4 hbox hb; have n0_ := ak_ (bs_ (bb_ HB.out) hb); have n1_ := ak_ (hbox); have n2_ := ak_ ((by rw [hg]; exact (bz_ (bb_ HB.out)) : w.heap.size ≤ gb488)); have n3_ := n2_; clear HB; have HB := n0_; have BK488 := n1_; have GW488 := n2_; have GE488 := n3_; clear n0_ n1_ n2_ n3_; clear hb hbox hg; obtain ⟨hcz5_0, hcz5_1, hfz5_0, hfz5_1⟩ := c2_ BK488.out) | (go_at_call 160; (with_reducible refine (impl_bit.calls a0_1 t489 _ A2.out).mono ?_); rintro e w' ⟨rfl, ⟨nd, rfl⟩⟩; (try first | exact ⟨rfl, _, World.drewN_drewN _ _ _⟩ | exact ⟨rfl, _, Eq.trans (World.drewN_drewN _ _ _) (congrArg (World.drewN _) (Nat.add_assoc _ _ _))⟩)))
 repeat (go_quiet (first | ((with_reducible refine gate_dst (N := 1) rfl ?_); refine bx_ 1 #[.slice A0_0 l0_0.length c0_0, .bool a0_1] 115 ?_; intro gb488 hg w4 hbox hb; have n0_ := ak_ (bs_ (bb_ HB.out) hb); have n1_ := ak_ (hbox); have n2_ := ak_ ((by rw [hg]; exact (bz_ (bb_ HB.out)) : w.heap.size ≤ gb488)); have n3_ := n2_; clear HB; have HB := n0_; have BK488 := n1_; have GW488 := n2_; have GE488 := n3_; clear n0_ n1_ n2_ n3_; clear hb hbox hg; obtain ⟨hcz5_0, hcz5_1, hfz5_0, hfz5_1⟩ := c2_ BK488.out) | (go_at_call 160; (with_reducible refine (impl_bit.calls a0_1 t489 _ A2.out).mono ?_); rintro e w' ⟨rfl, ⟨nd, rfl⟩⟩; (try first | exact ⟨rfl, _, World.drewN_drewN _ _ _⟩ | exact ⟨rfl, _, Eq.trans (World.drewN_drewN _ _ _) (congrArg (World.drewN _) (Nat.add_assoc _ _ _))⟩))); try go_wp2_with (first | ((with_reducible refine gate_dst (N := 1) rfl ?_); refine bx_ 1 #[.slice A0_0 l0_0.length c0_0, .bool a0_1] 115 ?_; intro gb488 hg w4 hbox hb; have n0_ := ak_ (bs_ (bb_ HB.out) hb); have n1_ := ak_ (hbox); have n2_ := ak_ ((by rw [hg]; exact (bz_ (bb_ HB.out)) : w.heap.size ≤ gb488)); have n3_ := n2_; clear HB; have HB := n0_; have BK488 := n1_; have GW488 := n2_; have GE488 := n3_; clear n0_ n1_ n2_ n3_; clear hb hbox hg; obtain ⟨hcz5_0, hcz5_1, hfz5_0, hfz5_1⟩ := c2_ BK488.out) | (go_at_call 160; (with_reducible refine (impl_bit.calls a0_1 t489 _ A2.out).mono ?_); rintro e w' ⟨rfl, ⟨nd, rfl⟩⟩; (try first | exact ⟨rfl, _, World.drewN_drewN _ _ _⟩ | exact ⟨rfl, _, Eq.trans (World.drewN_drewN _ _ _) (congrArg (World.drewN _) (Nat.add_assoc _ _ _))⟩))))
 go_loopg [3, 16] k (fun kq v3 v16 w' => ∃ (x3_1 : Int) (x16_1 : Int), v3 = .int .i64 x3_1 ∧ v16 = .int .i64 x16_1 ∧ Aside0 (impl_State_code.l0 kq x3_1 l0_0 (l0_0.length : Int) x16_1 = some r) ∧ Aside0 (kq ≤ k) ∧ Aside0 (w'.heap[gb488]? = some (.cells #[(.slice A0_0 l0_0.length c0_0), .bool a0_1] 115 (0, 0))) ∧ Aside0 (Below w.heap.size w w'))
 case atStart => exact ⟨(ji3), (0), (by first | rfl | (simp; done) | (simp only [← hji3] <;> (first | rfl | simp)) | (simp [*]; done)), (ry_), H', ⟨Nat.le_refl _⟩, ⟨pk BK488.out⟩, ⟨by repeat (first | exact HB.out | apply ba_ | apply bN_ | apply b1_ | refine below_set ?_ GE488.out)⟩⟩
 case round =>
  clear H'
  try clear c1
  try clear p2
  try clear hcz5_0
  try clear hcz5_1
  try clear hfz5_0
  try clear hfz5_1
  obtain ⟨x3_1, x16_1, rfl, rfl, HA, HK1, BK488, HB⟩ := hrel
  cases gk with
  | zero => exact absurd HA.out (by simp [impl_State_code.l0])
  | succ k1 =>
   have H := HA.out
   clear HA
   simp only [impl_State_code.l0] at H
   by_cases c6 : x16_1 < (l0_0.length : Int)
   ·
    rw [if_pos c6] at H
    have c6b0 : decide (x16_1 < (l0_0.length : Int)) = true := decide_eq_true c6
    clear c6
    by_cases c7 : 0 ≤ x16_1
    ·
     rw [if_pos c7] at H
     have c7b0 : decide (0 ≤ x16_1) = true := decide_eq_true c7
     clear c7
     by_cases c8 : x16_1 < (l0_0.length : Int)
     ·
      rw [if_pos c8] at H
      have c8b0 : decide (x16_1 < (l0_0.length : Int)) = true := decide_eq_true c8
      clear c8
      replace H := Option.bind_eq_some_iff.mp H
      obtain ⟨t491, A90, H⟩ := H
      replace H : (impl_State_code.l0 k1 (Go.bits .or .i64 x3_1 (shl .i64 t491 x16_1)) l0_0 (l0_0.length : Int) (wrap64 (x16_1 + 1))) = some r := H
      have A9 := ak_ A90
      clear A90
      have c10b0 := eq_true (odt_ (by assumption) : 0 ≤ x16_1)
      obtain ⟨ji11, hji11⟩ : ∃ j_ : Int, (shl .i64 t491 x16_1) = j_ := ⟨_, rfl⟩
      replace H : (impl_State_code.l0 k1 (Go.bits .or .i64 x3_1 (ji11)) l0_0 (l0_0.length : Int) (wrap64 (x16_1 + 1))) = some r := by first | (rw [hji11] at H; exact H) | (simp only [hji11] at H ⊢; exact H)
      (try rw [hji11] at A9)
      have hji11_ : (IntKind.i64.wrap (t491 * 2 ^ min x16_1.toNat 64)) = ji11 := hji11
      have hji11z : x16_1 ≤ 64 → (IntKind.i64.wrap (t491 * 2 ^ x16_1.toNat)) = ji11 := shl_small hji11
      have hji11y : (wrap64 (t491 * 2 ^ min x16_1.toNat 64)) = ji11 := (i64_w _).symm.trans hji11_
      have hji11x : x16_1 ≤ 64 → (wrap64 (t491 * 2 ^ x16_1.toNat)) = ji11 := fun h_ => (i64_w _).symm.trans (hji11z h_)
      have H' := ak_ H
      clear H
      have p490 : 0 ≤ (x16_1 : Int) := odt_ (by assumption)
      have q490 : x16_1 < (l0_0.length : Int) := odt_ (by assumption)
      obtain ⟨ad490, e490, hx490_0⟩ := Kd.at_bool HR0_0.out x16_1 p490 q490
      cases e490
      try replace hx490_0 := (HB.out.cell (World.block_lt_of_cell? w _ hx490_0)).trans hx490_0
      replace p490 := eq_true p490
      replace q490 := eq_true q490
      go_wp2_with (first | (go_at_call 160; (with_reducible refine (impl_bit.calls (rdOf false l0_0 x16_1) t491 _ A9.out).mono ?_); rintro e w' ⟨rfl, ⟨nd, rfl⟩⟩; (try first | exact ⟨rfl, _, World.drewN_drewN _ _ _⟩ | exact ⟨rfl, _, Eq.trans (World.drewN_drewN _ _ _) (congrArg (World.drewN _) (Nat.add_assoc _ _ _))⟩)))
      repeat (go_quiet (first | (go_at_call 160; (with_reducible refine (impl_bit.calls (rdOf false l0_0 x16_1) t491 _ A9.out).mono ?_); rintro e w' ⟨rfl, ⟨nd, rfl⟩⟩; (try first | exact ⟨rfl, _, World.drewN_drewN _ _ _⟩ | exact ⟨rfl, _, Eq.trans (World.drewN_drewN _ _ _) (congrArg (World.drewN _) (Nat.add_assoc _ _ _))⟩))); try go_wp2_with (first | (go_at_call 160; (with_reducible refine (impl_bit.calls (rdOf false l0_0 x16_1) t491 _ A9.out).mono ?_); rintro e w' ⟨rfl, ⟨nd, rfl⟩⟩; (try first | exact ⟨rfl, _, World.drewN_drewN _ _ _⟩ | exact ⟨rfl, _, Eq.trans (World.drewN_drewN _ _ _) (congrArg (World.drewN _) (Nat.add_assoc _ _ _))⟩))))
      go_roundg k1
      case measure => have := HK1.out; omega
      case rel => exact ⟨(Go.bits .or .i64 x3_1 (ji11)), (wrap64 (x16_1 + 1)), (by first | rfl | (simp; done) | (simp only [← hji11] <;> (first | rfl | simp)) | (simp [*]; done)), (ry_), H', ⟨by have := HK1.out; omega⟩, ⟨pk BK488.out⟩, ⟨by repeat (first | exact HB.out | apply ba_ | apply bN_ | apply b1_ | refine below_set ?_ GE488.out)⟩⟩
     ·
      rw [if_neg c8] at H
      exact absurd H (by simp)
    ·
     rw [if_neg c7] at H
     exact absurd H (by simp)
   ·
    rw [if_neg c6] at H
    have c6b0 : decide (x16_1 < (l0_0.length : Int)) = false := decide_eq_false c6
    clear c6
    obtain rfl := Option.some.inj H
    go_wp2
    repeat (go_quiet (fail); try go_wp2)
    go_ret
    exact ⟨by first | rfl | (simp [errW_none, errW_some] <;> rfl) | (simp only [← hji3]; first | rfl | (simp [errW_none, errW_some] <;> rfl)) | (simp [*, errW_none, errW_some] <;> rfl), by repeat (first | exact HB.out | apply ba_ | apply bN_ | apply b1_ | refine below_set ?_ GE488.out)⟩
def slices_Clone_int_int_s.f (l0 : List Int) : Option (List Int) := (some (([] : List Int) : List Int)).bind fun y492 => (if y492.length + l0.length < 17592186044416 then (some (y492 ++ l0)) else (none))
theorem slices_Clone_int_int_s.calls (ad0 : Addr) (c0 : Nat) (l0 : List Int) (r : List Int) (w : World) (hr0 : Kd.C (Kd.int .i64) w (some ad0) l0.length l0) (hc0 : l0.length ≤ c0) (h : slices_Clone_int_int_s.f l0 = some r) :
  Calls Try.prog 149 #[.slice (some ad0) l0.length c0] w fun e w' => ∃ v0_ : Value, e = .returned (v0_) ∧ Kd.R (Kd.int .i64) 3 w' w.heap.size (fun _ => True) v0_ r ∧ Below w.heap.size w w' := by
 have HR0 := ak_ hr0
 have HC0 := ak_ hc0
 clear hr0 hc0
 have HB := ak_ (Below.refl w.heap.size w)
 have H : ((some (([] : List Int) : List Int)).bind fun y492 => (if y492.length + l0.length < 17592186044416 then (some (y492 ++ l0)) else (none))) = some r := h
 clear h
 obtain ⟨y492, hy492⟩ : ∃ y_ : List Int, y_ = (([] : List Int)) := ⟨_, rfl⟩
 replace H : (if y492.length + l0.length < 17592186044416 then (some (y492 ++ l0)) else (none)) = some r := by first | (rw [hy492]; exact H) | exact H
 have Ny492 := ak_ hy492
 clear hy492
 by_cases c2 : y492.length + l0.length < 17592186044416
 ·rw [if_pos c2] at H
  have LMc2 := ak_ c2
  clear c2
  obtain ⟨y495, hy495⟩ : ∃ y_ : List Int, y_ = (y492 ++ l0) := ⟨_, rfl⟩
  replace H : (some y495) = some r := by first | (rw [hy495]; exact H) | exact H
  have Ny495 := ak_ hy495
  clear hy495
  obtain rfl := Option.some.inj H
  have hnil := fun (W : World) (a : Option Addr) (n c : Nat) => Go.Lib.run_eql_slice_nil (P := Try.prog) W 29 3 a n c 0 0 Try.underlying29
  go_enter Try.func149, Try.ntmps149
  go_wp2_with (first | ((with_reducible refine gate_dst (N := 5) rfl ?_); refine Kd.R_lit (Kd.int .i64) _ 3 ?hg (N := 5) ?hd (xs := ([] : List Int)) (inner := []) (ok := fun _ => True) (okp := fun _ => True) ?hr ?hp (fun _ hk => hk) trivial (Below.refl _ _) (Nat.le_refl _) (by simp) ?_; (case hd => rfl); (case hg => rfl); (case hr => go_simp <;> rfl); (case hp => exact (Reps.none _ _)); intro v493 w3 ho4 hb hg_ hnew_; clear hg_ hnew_; (first | rw [← Ny492.out] at ho4 | (simp only [Int.reduceToNat] at ho4; rw [← Ny492.out] at ho4)); have n0_ := ak_ (Kd.R_lower ho4 (bz_ (bb_ HB.out))); have n1_ := ak_ (bs_ (bb_ HB.out) hb); clear HB; have HO494 := n0_; have HB := n1_; clear n0_ n1_; clear hb ho4) | ((with_reducible refine gate_builtin (b := .append) (xs := #[.tmp 5, .tmp 6]) rfl ?_); at_builtin; refine Kd.R_append_rows (Kd.int .i64) (w0 := w) w.heap.size rfl (.tmp 5) (.tmp 6) 29 3 (.int .i64 0) 8 rfl Try.underlying29 info3 rfl (by decide) (by omega) v493 y492 l0 _ _ _ (fun _ => True) (fun _ => False) rfl rfl ?aO ?aR (fun _ _ h => h) (fun _ h => h.elim) ?aF ?aB ?aS ?aL ?_; (case aR => repeat (first | exact (Kd.C_below HR0.out HB.out) | (with_reducible refine Kd.C_alloc ?_ _) | (with_reducible refine Kd.C_drewN ?_ _) | (with_reducible refine Kd.C_drew ?_))); (case aB => exact (bb_ HB.out)); (case aF => exact (fun _ _ => trivial)); (case aO => exact (Kd.pR HO494.out)); (case aS => exact (bz_ (bb_ HB.out))); (case aL => have := LMc2.out; omega); intro v496 w5 ho hb hg hat; rw [← Ny495.out] at ho; have n0_ := ak_ (hb); have n1_ := ak_ (ho); clear HB; clear HO494; have HB := n0_; have HO497 := n1_; clear n0_ n1_; clear ho hb hg hat))
  go_ret
  exact ⟨_, rx_, by (with_reducible repeat (first | apply Kd.R_alloc | apply Kd.R_drewN | apply Kd.R_drew)); exact HO497.out, bb_ HB.out⟩
 ·rw [if_neg c2] at H
  exact absurd H (by simp)
theorem slices_Clone_int_int_s.f_eq (l0 : List Int) : slices_Clone_int_int_s.f l0 = if l0.length < 17592186044416 then some l0 else none := by
 unfold slices_Clone_int_int_s.f
 simp
def slices_Clone_int_int.f (l0 : List Int) : Option (List Int) := if l0.length < 17592186044416 then some l0 else none
theorem slices_Clone_int_int.calls (A0 : Option Addr) (c0 : Nat) (l0 : List Int) (r : List Int) (w : World) (hr0 : Kd.C (Kd.int .i64) w A0 l0.length l0) (hc0 : l0.length ≤ c0) (h : slices_Clone_int_int.f l0 = some r) :
  Calls Try.prog 149 #[.slice A0 l0.length c0] w fun e w' => ∃ v0_ : Value, e = .returned (v0_) ∧ Kd.R (Kd.int .i64) 3 w' w.heap.size (fun _ => True) v0_ r ∧ Below w.heap.size w w' := by
 cases A0 with
 | some ad => exact slices_Clone_int_int_s.calls ad c0 l0 r w hr0 hc0 (by rw [slices_Clone_int_int_s.f_eq]; exact h)
 | none =>
  obtain rfl : l0 = [] := by
   cases l0 with
   | nil => rfl
   | cons x xs =>
    obtain ⟨ad, he, _⟩ := hr0.2.2 (by simp)
    exact absurd he (by simp)
  obtain rfl : [] = r := by
   unfold slices_Clone_int_int.f at h
   simpa using h
  clear hr0 h
  have hnil := fun (W : World) (a : Option Addr) (n c : Nat) => Go.Lib.run_eql_slice_nil (P := Try.prog) W 29 3 a n c 0 0 Try.underlying29
  go_enter Try.func149, Try.ntmps149
  go_wp2
  go_ret
  exact ⟨_, rfl, Kd.R_nil (Kd.int .i64) 3 w w.heap.size _, Below.refl _ _⟩
section
variable {P : Program} {ops : Array Oper} {Q : Exit → Act → World → Prop}
theorem run_store_fn_ (P : Program) (w : World) (a : Addr) (m : Mode) (fn : Fn) (f c : Array Value) : (store a (.func fn f c) m).run P w = stored P w a (.func fn f c) m := run_store P w a _ m rfl
end
attribute [local go_sem] run_store_fn_
def gOn {α : Type} (st : List Int → List α → Option (List α)) (most : Int) : List Int → List Int → List α → Option (List α)
 | [], _, acc => some acc
 | x :: P, l, acc => if (l.length : Int) < most then (st (l ++ [x]) acc).bind fun a1 => (gOn st most P (l ++ [x]) a1).bind fun a => gOn st most P l a else some acc
def GpFr (g : Nat) (v v' : Value) (W w' : World) : Prop := W.heap.size ≤ w'.heap.size ∧ (∀ k, k < W.heap.size → k ≠ g → some k ≠ v.ownBlock → w'.heap[k]? = W.heap[k]?) ∧ (v'.ownBlock = v.ownBlock ∨ ∀ b, v'.ownBlock = some b → W.heap.size ≤ b)
theorem GpFr.below {g : Nat} {v : Value} {W w' : World} (h : Below W.heap.size W w') : GpFr g v v W w' := ⟨h.size, fun k hk _ _ => h.block k hk, .inl rfl⟩
theorem GpFr.ne {g k : Nat} {v v' : Value} {W w' : World} (h : GpFr g v v' W w') (hk : k < W.heap.size) (hv : some k ≠ v.ownBlock) : some k ≠ v'.ownBlock := by
 rcases h.2.2 with e | e
 ·rw [e]; exact hv
 ·intro h2
  have := e k h2.symm
  omega
theorem GpFr.trans {g : Nat} {v v1 v2 : Value} {W w1 w2 : World} (h : GpFr g v v1 W w1) (h' : GpFr g v1 v2 w1 w2) : GpFr g v v2 W w2 := by
 refine ⟨Nat.le_trans h.1 h'.1, fun k hk hg hv => (h'.2.1 k (Nat.lt_of_lt_of_le hk h.1) hg (h.ne hk hv)).trans (h.2.1 k hk hg hv), ?_⟩
 rcases h'.2.2 with e | e
 ·rcases h.2.2 with e1 | e1
  ·exact .inl (e.trans e1)
  ·exact .inr (fun b hb => e1 b (by rw [← e]; exact hb))
 ·exact .inr (fun b hb => Nat.le_trans h.1 (e b hb))
theorem GpFr.at_ {g k : Nat} {v v' : Value} {W w' : World} (h : GpFr g v v' W w') (hk : k < W.heap.size) (hg : k ≠ g) (hv : some k ≠ v.ownBlock) : w'.heap[k]? = W.heap[k]? := h.2.1 k hk hg hv
theorem GpFr.row {g : Nat} {v v' : Value} {W w' : World} (h : GpFr g v v' W w') {base : Nat} {u : Value} {l : List Int} (hr : (Kd.int .i64).R 3 W base (fun k => k ≠ g ∧ some k ≠ v.ownBlock) u l) : (Kd.int .i64).R 3 w' base (fun k => k ≠ g ∧ some k ≠ v'.ownBlock) u l :=
 Kd.R_mono (Kd.R_move (Kd.R_bound hr) (fun k hk => h.2.1 k hk.2.2.1 hk.1.1 hk.1.2)) (fun k hk => ⟨hk.1.1, h.ne hk.2.2.1 hk.1.2⟩)
structure GpSt {α : Type} (d : Kd α) (e tv : Nat) (g : Nat) (w0 W : World) (v : Value) (ok : Nat → Prop) (acc : List α) : Prop where
 out : W.heap[g]? = some (.cells #[v] tv (0, 0))
 row : Kd.S d e W w0.heap.size ok v acc
 bel : Below w0.heap.size w0 W
 ge : w0.heap.size ≤ g
section
variable {α : Type} {d : Kd α} {e tv : Nat}
theorem GpSt.up {g : Nat} {w0 W w' : World} {v : Value} {ok : Nat → Prop} {acc : List α} (h : GpSt d e tv g w0 W v ok acc) (hb : Below W.heap.size W w') : GpSt d e tv g w0 w' v ok acc := ⟨blk_below h.out hb, Kd.S_below h.row hb, bs_ h.bel hb, h.ge⟩
theorem GpSt.any {g : Nat} {w0 W : World} {v : Value} {ok : Nat → Prop} {acc : List α} (h : GpSt d e tv g w0 W v ok acc) : GpSt d e tv g w0 W v (fun _ => True) acc := ⟨h.out, Kd.S_mono h.row (fun _ _ => trivial), h.bel, h.ge⟩
theorem GpSt.old {g : Nat} {w0 W : World} {v u : Value} {ok : Nat → Prop} {acc : List α} (h : GpSt d e tv g w0 W v ok acc) (hu : ∀ k, u.ownBlock = some k → W.heap.size ≤ k) : GpSt d e tv g w0 W v (fun k => some k ≠ u.ownBlock) acc :=
 ⟨h.out, Kd.S_mono (Kd.S_bound h.row) (fun k hk e => by have := hu k e.symm; have := hk.2.2.1; omega), h.bel, h.ge⟩
theorem GpSt.new {g : Nat} {w0 W w' : World} {v u : Value} {ok ok2 : Nat → Prop} {acc : List α} {l : List Int} {n : Nat} (h : GpSt d e tv g w0 W v ok acc) (hn : W.heap.size ≤ n) (hr : (Kd.int .i64).R 3 w' n ok2 u l) : (Kd.int .i64).R 3 w' n (fun k => k ≠ g ∧ some k ≠ v.ownBlock) u l :=
 Kd.R_mono (Kd.R_bound hr) (fun k hk => ⟨fun e_ => by have := blk_lt h.out; have := hk.2.1; omega, fun e_ => by have := Kd.S_lt h.row k e_.symm; have := hk.2.1; omega⟩)
end
theorem gp_row {W : World} {base : Nat} {ok : Nat → Prop} {v : Value} {l : List Int} (h : (Kd.int .i64).R 3 W base ok v l) : ∃ A c, v = .slice A l.length c ∧ l.length ≤ c ∧ (Kd.int .i64).C W A l.length l := by
 obtain ⟨A, c, rfl⟩ := Kd.R_slice h
 obtain ⟨_, h1, h2⟩ := Kd.R_reads' h
 exact ⟨A, c, rfl, h1, h2⟩
theorem gp_at {W : World} {base : Nat} {ok : Nat → Prop} {ad : Addr} {n c : Nat} {P : List Int} (h : (Kd.int .i64).R 3 W base ok (.slice (some ad) n c) P) (i : Int) (h0 : 0 ≤ i) (h1 : i < (P.length : Int)) : W.cell? (ad.add i.toNat) = some (.int .i64 (rd P i)) := by
 obtain ⟨ad', e, hc⟩ := Kd.at_int (Kd.R_reads' h).2.2 i h0 h1
 cases e
 exact hc
theorem gp_some {W : World} {base : Nat} {ok : Nat → Prop} {Ap : Option Addr} {n c : Nat} {P : List Int} (h : (Kd.int .i64).R 3 W base ok (.slice Ap n c) P) (h1 : 0 < P.length) : ∃ ad, Ap = some ad := by
 obtain ⟨ad', e, -⟩ := Kd.at_int (Kd.R_reads' h).2.2 0 (by omega) (by omega)
 exact ⟨ad', e⟩
def gpB (Bp Bm Be Bo : Nat) : Array Value := #[.pointer (some ⟨Bp, 0, none⟩), .pointer (some ⟨Bm, 0, none⟩), .pointer (some ⟨Be, 0, none⟩), .pointer (some ⟨Bo, 0, none⟩)]
structure GpX (g : Nat) (Bp Bm Be Bo : Nat) (vp : Value) (most : Int) (ne : Nat) (eb : Array Value) (W : World) (v : Value) : Prop where
 p : W.heap[Bp]? = some (.cells #[vp] 29 (0, 0))
 m : W.heap[Bm]? = some (.cells #[.int .i64 most] 3 (0, 0))
 e : W.heap[Be]? = some (.cells #[.func (.func ne) #[] eb] 137 (0, 0))
 o : W.heap[Bo]? = some (.cells #[.func (.func 148) #[] (gpB Bp Bm Be Bo)] 156 (0, 0))
 aw : ∀ k, (k = Bp ∨ k = Bm ∨ k = Be ∨ k = Bo) → k ≠ g ∧ some k ≠ v.ownBlock
theorem GpX.up {g Bp Bm Be Bo ne : Nat} {vp v : Value} {most : Int} {eb : Array Value} {W w' : World} (h : GpX g Bp Bm Be Bo vp most ne eb W v) (hb : Below W.heap.size W w') : GpX g Bp Bm Be Bo vp most ne eb w' v :=
 ⟨blk_below h.p hb, blk_below h.m hb, blk_below h.e hb, blk_below h.o hb, h.aw⟩
theorem GpX.fr {g Bp Bm Be Bo ne : Nat} {vp v v' : Value} {most : Int} {eb : Array Value} {W w' : World} (h : GpX g Bp Bm Be Bo vp most ne eb W v) (hf : GpFr g v v' W w') : GpX g Bp Bm Be Bo vp most ne eb w' v' := by
 have a1 := h.aw Bp (.inl rfl)
 have a2 := h.aw Bm (.inr (.inl rfl))
 have a3 := h.aw Be (.inr (.inr (.inl rfl)))
 have a4 := h.aw Bo (.inr (.inr (.inr rfl)))
 refine ⟨(hf.at_ (blk_lt h.p) a1.1 a1.2).trans h.p, (hf.at_ (blk_lt h.m) a2.1 a2.2).trans h.m, (hf.at_ (blk_lt h.e) a3.1 a3.2).trans h.e, (hf.at_ (blk_lt h.o) a4.1 a4.2).trans h.o, ?_⟩
 rintro k (rfl | rfl | rfl | rfl)
 ·exact ⟨a1.1, hf.ne (blk_lt h.p) a1.2⟩
 ·exact ⟨a2.1, hf.ne (blk_lt h.m) a2.2⟩
 ·exact ⟨a3.1, hf.ne (blk_lt h.e) a3.2⟩
 ·exact ⟨a4.1, hf.ne (blk_lt h.o) a4.2⟩
def GpEach {α : Type} (d : Kd α) (e tv : Nat) (st : List Int → List α → Option (List α)) (g ne : Nat) (eb : Array Value) (w0 : World) : Prop :=
 ∀ (W : World) (v vL : Value) (l : List Int) (acc a1 : List α), GpSt d e tv g w0 W v (fun k => some k ≠ vL.ownBlock) acc → (Kd.int .i64).R 3 W w0.heap.size (fun k => k ≠ g ∧ some k ≠ v.ownBlock) vL l → st l acc = some a1 →
  Calls Try.prog ne (#[vL] ++ eb) W fun e_ w' => e_ = .returned (.tuple #[]) ∧ ∃ v', GpSt d e tv g w0 w' v' (fun _ => True) a1 ∧ GpFr g v v' W w'
def impl_groups_1.T3 : Bool × List (List Nat × List Nat) := (true, [([], []), ([0], [0]), ([], []), ([], []), ([2, 3], [2, 3]), ([4], [4]), ([5], [5]), ([1, 6, 1], [1, 6]), ([7, 7, 0, 1, 2, 3, 4, 5, 6, 7], [7])])
def impl_groups_1.B3 : List Nat := [0, 1, 0, 0, 12, 28, 60, 127, 255]
theorem impl_groups_1.T3_ : rtab .any (opsOf Try.f148 3) = impl_groups_1.T3 := by kernel_rfl
theorem impl_groups_1.B3_ : waitsOk impl_groups_1.T3.2 impl_groups_1.B3 = true := by kernel_rfl
theorem gp_on {α : Type} (d0 : Kd α) (e0 tv : Nat) (st : List Int → List α → Option (List α)) (g ne : Nat) (eb : Array Value) (w0 : World) (Bp Bm Be Bo : Nat) (Ap : Option Addr) (cp : Nat) (P : List Int) (most : Int) (ee : ∀ args w, (callFunc ne args).run Try.prog w = .ok (.enter ne args) w) (hE : GpEach d0 e0 tv st g ne eb w0) (hP : P.length ≤ 100) (d : Nat)
  (hI : ∀ (d' : Nat) (i : Nat) (l : List Int) (vL v : Value) (acc acc' : List α) (W : World), d' < d → i + d' = P.length → l.length + d' ≤ 200 → GpSt d0 e0 tv g w0 W v (fun _ => True) acc → (Kd.int .i64).R 3 W w0.heap.size (fun k => k ≠ g ∧ some k ≠ v.ownBlock) vL l → (Kd.int .i64).R 3 W w0.heap.size (fun k => k ≠ g ∧ some k ≠ v.ownBlock) (.slice Ap P.length cp) P → GpX g Bp Bm Be Bo (.slice Ap P.length cp) most ne eb W v → gOn st most (P.drop i) l acc = some acc' →
   Calls Try.prog 148 (#[.int .i64 (i : Int), vL] ++ gpB Bp Bm Be Bo) W fun e w' => e = .returned (.tuple #[]) ∧ ∃ v', GpSt d0 e0 tv g w0 w' v' (fun _ => True) acc' ∧ GpFr g v v' W w')
  (i : Nat) (l : List Int) (vL v : Value) (acc acc' : List α) (W : World) (hi : i + d = P.length) (hl : l.length + d ≤ 200) (hst : GpSt d0 e0 tv g w0 W v (fun _ => True) acc) (hr : (Kd.int .i64).R 3 W w0.heap.size (fun k => k ≠ g ∧ some k ≠ v.ownBlock) vL l) (hp : (Kd.int .i64).R 3 W w0.heap.size (fun k => k ≠ g ∧ some k ≠ v.ownBlock) (.slice Ap P.length cp) P) (hx : GpX g Bp Bm Be Bo (.slice Ap P.length cp) most ne eb W v) (h : gOn st most (P.drop i) l acc = some acc') :
  Calls Try.prog 148 (#[.int .i64 (i : Int), vL] ++ gpB Bp Bm Be Bo) W fun e w' => e = .returned (.tuple #[]) ∧ ∃ v', GpSt d0 e0 tv g w0 w' v' (fun _ => True) acc' ∧ GpFr g v v' W w' := by
 obtain ⟨A0, c0, rfl, hle, -⟩ := gp_row hr
 have ST := ak_ hst
 have RL := ak_ hr
 have PL := ak_ hp
 have GX := ak_ hx
 have FR := ak_ (GpFr.below (g := g) (v := v) (Below.refl W.heap.size W))
 have HE := ak_ hE
 have HM := ak_ (And.intro hl (And.intro hP (And.intro hle hi)))
 have H := ak_ h
 have HCl2 := ak_ fun (W1 : World) (ok1 : Nat → Prop) (h1 : (Kd.int .i64).R 3 W1 w0.heap.size ok1 (.slice A0 l.length c0) l) => slices_Clone_int_int.calls A0 c0 l l W1 (Kd.R_reads' h1).2.2 hle (by unfold slices_Clone_int_int.f; rw [if_pos (by omega)])
 unfold gpB at hI ⊢
 simp only [List.append_toArray, List.cons_append, List.nil_append] at hI
 have HI := ak_ hI
 have HX := ak_ fun (W : World) (v : Value) (h : GpX g Bp Bm Be Bo (.slice Ap P.length cp) most ne eb W v) => (show W.heap[Bo]? = some (.cells #[.func (.func 148) #[] #[.pointer (some ⟨Bp, 0, none⟩), .pointer (some ⟨Bm, 0, none⟩), .pointer (some ⟨Be, 0, none⟩), .pointer (some ⟨Bo, 0, none⟩)]] 156 (0, 0)) from h.o)
 clear hi hl hst hr hp hx h hE hP hle hI
 go_enter Try.func148, Try.ntmps148
 go_wp2
 go_loopg [8] d (fun gg v8 wr => ∃ (j : Nat) (a1 : List α) (v1 : Value), v8 = .int .i64 (j : Int) ∧ i ≤ j ∧ j ≤ P.length ∧ P.length - j ≤ gg ∧ Aside0 (gOn st most (P.drop j) l a1 = some acc') ∧ Aside0 (GpSt d0 e0 tv g w0 wr v1 (fun _ => True) a1) ∧ Aside0 ((Kd.int .i64).R 3 wr w0.heap.size (fun k => k ≠ g ∧ some k ≠ v1.ownBlock) (.slice A0 l.length c0) l) ∧ Aside0 ((Kd.int .i64).R 3 wr w0.heap.size (fun k => k ≠ g ∧ some k ≠ v1.ownBlock) (.slice Ap P.length cp) P) ∧ Aside0 (GpX g Bp Bm Be Bo (.slice Ap P.length cp) most ne eb wr v1) ∧ Aside0 (GpFr g v v1 W wr))
 case atStart => exact ⟨i, acc, v, rfl, Nat.le_refl _, by have := HM.out; omega, by have := HM.out; omega, H, ⟨ST.out.up be_⟩, ⟨Kd.R_below RL.out be_⟩, ⟨Kd.R_below PL.out be_⟩, ⟨GX.out.up be_⟩, ⟨FR.out.trans (GpFr.below be_)⟩⟩
 case round =>
  clear H ST RL PL GX FR
  obtain ⟨j, a1, v1, rfl, hij, hjP, hg, H, ST, RL, PL, GX, FR⟩ := hrel
  have hp0 := (blk_cell GX.out.p 0)
  have hm0 := (blk_cell GX.out.m 0)
  simp at hp0
  simp at hm0
  by_cases hlt : j < P.length
  ·have q1 : decide ((j : Int) < (P.length : Int)) = true := decide_eq_true (by omega)
   have q1n : decide (j < P.length) = true := decide_eq_true hlt
   have q1p : (j < P.length) = True := eq_true hlt
   have h := H.out
   rw [drop_at_i64 hlt] at h
   simp only [gOn] at h
   by_cases hlm : (l.length : Int) < most
   ·have q2 : decide ((l.length : Int) < most) = true := decide_eq_true hlm
    rw [if_pos hlm] at h
    obtain ⟨ad, rfl⟩ := gp_some PL.out (by omega)
    obtain ⟨a0, h0, h⟩ := Option.bind_eq_some_iff.mp h
    obtain ⟨a2, h1, h2⟩ := Option.bind_eq_some_iff.mp h
    have HA := ak_ h0
    have H1 := ak_ h1
    have H2 := ak_ h2
    have hw : IntKind.i64.wrap ((j : Int) + 1) = ((j + 1 : Nat) : Int) := by rw [IntWalk.i64_in _ ⟨by omega, by have := HM.out; omega⟩]; omega
    have HN := ak_ (And.intro hlt (And.intro hg hij))
    have j0 : (0 : Int) ≤ (j : Int) := by omega
    have j1 : (j : Int) < (P.length : Int) := by omega
    have J0 := ak_ j0
    have J1 := ak_ j1
    have j0e := eq_true j0
    have j1e := eq_true j1
    obtain ⟨x, hxe⟩ : ∃ x, x = rd P (j : Int) := ⟨_, rfl⟩
    have HXE := ak_ hxe
    clear h h0 h1 h2 hlt hlm hg hij hjP j0 j1 hxe H
    go_upto_region 3 with (fail)
    clear hp0 hm0
    try go_wp2
    have n0_ := ak_ (ST.out.up (below_drew (Below.refl _ _)))
    have n1_ := ak_ (Kd.R_drew RL.out)
    have n2_ := ak_ (Kd.R_drew PL.out)
    have n3_ := ak_ (GX.out.up (below_drew (Below.refl _ _)))
    have n4_ := ak_ (FR.out.trans (GpFr.below (below_drew (Below.refl _ _))))
    clear ST RL PL GX FR
    have ST := n0_; have RL := n1_; have PL := n2_; have GX := n3_; have FR := n4_
    clear n0_ n1_ n2_ n3_ n4_
    refine start_ (n := 9) (S := fun w' => w'.cell? ⟨Bp, 0, none⟩ = some (.slice (some ad) P.length cp) ∧ w'.cell? (ad.add j) = some (.int .i64 x)) (ds := [8]) (mb_ 9 0) (by kernel_rfl) rfl rfl ⟨(blk_cell GX.out.p 0).trans rfl, by have h_ := gp_at PL.out (j : Int) J0.out J1.out; rw [Int.toNat_natCast, ← HXE.out] at h_; exact h_⟩ (fun hHeld => ?_); refine with_tabW impl_groups_1.T3_ impl_groups_1.B3_ (fun HT_ HW_ => ?_)
    generalize wr.drew = w9 at ST RL PL GX FR hHeld ⊢
    refine pu_ 0 23 9 1 ?_
    refine tk_ 2 25 9 5 ?_ (hy := by rintro w' ⟨s0, s1⟩; go_simp; with_reducible rfl)
    refine pu_ 3 26 9 13 ?_
    refine pu_ 4 27 9 29 ?_
    refine tk_ 5 28 9 61 ?_ (hy := by rintro w' ⟨s0, s1⟩; go_simp; with_reducible rfl)
    refine join_ (σ := Value × Value) 2 (mb_ 9 127) (fun s_ => [(24, s_.1), (29, s_.2)]) (fun s_ w' => (w'.cell? ⟨Bp, 0, none⟩ = some (.slice (some ad) P.length cp) ∧ w'.cell? (ad.add j) = some (.int .i64 x)) ∧ (Kd.int .i64).R 3 w' w9.heap.size (fun _ => True) s_.1 l ∧ (∃ A c, s_.2 = .slice A 1 c ∧ (Kd.int .i64).C w' A 1 [x]) ∧ Below w9.heap.size w9 w') ?_ ?_
    rotate_left
    ·intro hCont
     refine two_ (i := 1) (j := 6) (Ni := some 24) (Nj := some 29) (mb_ 9 63) (mb_ 9 125) rfl rfl rfl rfl (two_of HT_.out (by kernel_rfl)) (by decide) (by decide) (fun K hK => ?_) (fun K hK => ?_)
     ·refine goes_ Try.func149 (by kernel_rfl) rfl #[.slice A0 l.length c0] (by rfl) rfl rfl (by first | rfl | (simp only [map_toArray, map_cons, map_nil]; try rfl)) ?_
      refine (HCl2.out _ _ RL.out).mono ?_
      rintro e w5 ⟨s1, rfl, hR0, hb0⟩
      have hR := ak_ hR0
      have hb3 := ak_ hb0
      have hb1 := ak_ hb0
      clear hR0 hb0
      refine ⟨_, rfl, ?_⟩
      refine hK.out _ _ ⟨(blk_cell (GX.out.up hb1.out).p 0).trans rfl, by have h_ := gp_at (Kd.R_below PL.out hb1.out) (j : Int) J0.out J1.out; rw [Int.toNat_natCast, ← HXE.out] at h_; exact h_⟩ (fun hHeld => ?_)
      clear hK K
      refine nm_ ?_
      clear hb3
      refine on_ 6 29 9 127 (fun K hK => ?_)
      refine Kd.R_lit_step (Kd.int .i64) _ 3 ?hg (N := 29) ?hd (xs := [x]) (inner := [.int .i64 x]) (ok := fun _ => True) (okp := fun _ => True) ?hr ?hp (fun _ hk => hk) trivial (Below.refl _ _) (Nat.le_refl _) (by simp) ?_; (case hd => rfl); (case hg => rfl); (case hr => go_simp <;> rfl); (case hp => exact (Reps.one (show Kd.M (Kd.int .i64) _ _ _ x [.int .i64 x] from rfl) (Reps.none _ _)))
      intro s2 w6 ho0 hb0 hg_ hnew_
      clear hg_ hnew_
      have hO := ak_ ho0
      have hb3 := ak_ hb0
      have hb2 := ak_ (bs_ hb1.out hb0)
      clear ho0 hb0
      refine hK.out _ _ ⟨(blk_cell (GX.out.up hb2.out).p 0).trans rfl, by have h_ := gp_at (Kd.R_below PL.out hb2.out) (j : Int) J0.out J1.out; rw [Int.toNat_natCast, ← HXE.out] at h_; exact h_⟩ (fun hHeld => ?_)
      clear hK K
      refine nm_ ?_
      exact norm_ (by simp only [putAll, Act.put, setIfInBounds_toArray, set_cons_zero, set_cons_succ]) (hCont (s1, s2) _ ⟨hHeld, Kd.R_below hR.out hb3.out, (by obtain ⟨A2, c2, rfl⟩ := Kd.R_slice hO.out; exact ⟨A2, c2, rfl, (Kd.R_reads' hO.out).2.2⟩), hb2.out⟩)
     ·refine Kd.R_lit_step (Kd.int .i64) _ 3 ?hg (N := 29) ?hd (xs := [x]) (inner := [.int .i64 x]) (ok := fun _ => True) (okp := fun _ => True) ?hr ?hp (fun _ hk => hk) trivial (Below.refl _ _) (Nat.le_refl _) (by simp) ?_; (case hd => rfl); (case hg => rfl); (case hr => go_simp <;> rfl); (case hp => exact (Reps.one (show Kd.M (Kd.int .i64) _ _ _ x [.int .i64 x] from rfl) (Reps.none _ _)))
      intro s2 w5 ho0 hb0 hg_ hnew_
      clear hg_ hnew_
      have hO := ak_ ho0
      have hb3 := ak_ hb0
      have hb1 := ak_ hb0
      clear ho0 hb0
      refine hK.out _ _ ⟨(blk_cell (GX.out.up hb1.out).p 0).trans rfl, by have h_ := gp_at (Kd.R_below PL.out hb1.out) (j : Int) J0.out J1.out; rw [Int.toNat_natCast, ← HXE.out] at h_; exact h_⟩ (fun hHeld => ?_)
      clear hK K
      refine nm_ ?_
      clear hb3
      refine on_ 1 24 9 127 (fun K hK => ?_)
      refine goes_ Try.func149 (by kernel_rfl) rfl #[.slice A0 l.length c0] (by rfl) rfl rfl (by first | rfl | (simp only [map_toArray, map_cons, map_nil]; try rfl)) ?_
      refine (HCl2.out _ _ (Kd.R_below RL.out hb1.out)).mono ?_
      rintro e w6 ⟨s1, rfl, hR0, hb0⟩
      have hR := ak_ hR0
      have hb3 := ak_ hb0
      have hb2 := ak_ (bs_ hb1.out hb0)
      clear hR0 hb0
      refine ⟨_, rfl, ?_⟩
      refine hK.out _ _ ⟨(blk_cell (GX.out.up hb2.out).p 0).trans rfl, by have h_ := gp_at (Kd.R_below PL.out hb2.out) (j : Int) J0.out J1.out; rw [Int.toNat_natCast, ← HXE.out] at h_; exact h_⟩ (fun hHeld => ?_)
      clear hK K
      refine nm_ ?_
      exact norm_ (by simp only [putAll, Act.put, setIfInBounds_toArray, set_cons_zero, set_cons_succ]) (hCont (s1, s2) _ ⟨hHeld, Kd.R_lower hR.out hb1.out.size, (by obtain ⟨A2, c2, rfl⟩ := Kd.R_slice (Kd.R_below hO.out hb3.out); exact ⟨A2, c2, rfl, (Kd.R_reads' (Kd.R_below hO.out hb3.out)).2.2⟩), hb2.out⟩)
    rintro ⟨s1, s2⟩ w2 ⟨hHeld, h1_, ⟨A2, c2, h2_, h3_⟩, h4_⟩
    dsimp only at h1_ h2_
    subst h2_
    have hR := ak_ h1_
    have hL := ak_ h3_
    have hB := ak_ h4_
    clear h1_ h3_ h4_
    refine norm_ (a' := ?_) ?_ ?_
    rotate_left
    ·simp only [putAll, Act.put, setIfInBounds_toArray, set_cons_zero, set_cons_succ]
     rfl
    refine on_ 7 30 9 255 (fun K hK => ?_)
    refine Kd.R_append_rows_step (Kd.int .i64) (w0 := w9) w9.heap.size (by rfl) (.tmp 24) (.tmp 29) 29 3 (.int .i64 0) 8 rfl Try.underlying29 info3 rfl (by decide) (by omega) s1 l [x] A2 1 c2 (fun _ => True) (fun _ => False) rfl rfl ?aO ?aR (fun _ _ h => h) (fun _ h => h.elim) ?aF ?aB ?aS ?aL ?_
    (case aO => exact hR.out)
    (case aR => exact hL.out)
    (case aB => exact hB.out)
    (case aF => exact (fun _ _ => trivial))
    (case aS => exact hB.out.size)
    (case aL => have := HM.out; omega)
    intro v3 w3 ho hb hg_ hat_
    clear hg_ hat_ hR hL hB
    have n0_ := ak_ ((ST.out.old (u := v3) (Kd.R_base ho)).up hb)
    have n1_ := ak_ (Kd.R_below RL.out hb)
    have n2_ := ak_ (Kd.R_below PL.out hb)
    have n3_ := ak_ (GX.out.up hb)
    have n4_ := ak_ (FR.out.trans (GpFr.below hb))
    have HO := ak_ (Kd.R_lower (ST.out.new (Nat.le_refl _) ho) (bz_ ST.out.bel))
    clear ST RL PL GX FR ho hb
    have ST := n0_; have RL := n1_; have PL := n2_; have GX := n3_; have FR := n4_
    clear n0_ n1_ n2_ n3_ n4_
    refine hK.out _ _ ⟨(blk_cell GX.out.p 0).trans rfl, by have h_ := gp_at PL.out (j : Int) J0.out J1.out; rw [Int.toNat_natCast, ← HXE.out] at h_; exact h_⟩ (fun hHeld => ?_)
    clear hK K
    refine nm_ ?_
    refine pu_ 8 9 9 511 ?_
    refine done_ (done_of HT_.out (by kernel_rfl)) ?_
    have he0 := (blk_cell GX.out.e 0)
    simp at he0
    go_upto_region 5 with (go_at_fn ne; refine (HE.out _ v1 v3 (l ++ [x]) a1 a0 ST.out HO.out (by rw [HXE.out]; exact HA.out)).mono ?_; rintro e w8 ⟨rfl, v5, hst5, hfr5⟩; have n0_ := ak_ hst5; have n1_ := ak_ (hfr5.row RL.out); have n2_ := ak_ (hfr5.row PL.out); have n3_ := ak_ (GX.out.fr hfr5); have n4_ := ak_ (FR.out.trans hfr5); have n5_ := ak_ (hfr5.row HO.out); clear ST RL PL GX FR HO hst5 hfr5; have ST := n0_; have RL := n1_; have PL := n2_; have GX := n3_; have FR := n4_; have HO := n5_; clear n0_ n1_ n2_ n3_ n4_ n5_)
    clear he0
    have ho0 := (blk_cell (HX.out _ _ GX.out) 0)
    simp at ho0
    go_wp2_with (refine (HI.out (P.length - (j + 1)) (j + 1) (l ++ [x]) v3 v5 a0 a2 _ (by have := HN.out; have := HM.out; omega) (by have := HN.out; omega) (by have := HM.out; have := HN.out; rw [List.length_append, List.length_singleton]; omega) (ST.out.up be_) (Kd.R_below HO.out be_) (Kd.R_below PL.out be_) (GX.out.up be_) (by rw [HXE.out]; exact H1.out)).mono ?_; rintro e w9 ⟨rfl, v6, hst6, hfr6⟩; have n0_ := ak_ hst6; have n1_ := ak_ (hfr6.row (Kd.R_below RL.out be_)); have n2_ := ak_ (hfr6.row (Kd.R_below PL.out be_)); have n3_ := ak_ ((GX.out.up be_).fr hfr6); have n4_ := ak_ (FR.out.trans ((GpFr.below be_).trans hfr6)); clear ST RL PL GX FR HO hst6 hfr6; have ST := n0_; have RL := n1_; have PL := n2_; have GX := n3_; have FR := n4_; clear n0_ n1_ n2_ n3_ n4_)
    go_roundg (P.length - (j + 1))
    case measure => have := HN.out; omega
    case rel => exact ⟨j + 1, a2, v6, (ry_), by have := HN.out; omega, by have := HN.out; omega, Nat.le_refl _, H2, ⟨ST.out.up be_⟩, ⟨Kd.R_below RL.out be_⟩, ⟨Kd.R_below PL.out be_⟩, ⟨GX.out.up be_⟩, ⟨FR.out.trans (GpFr.below be_)⟩⟩
   ·have q2 : decide ((l.length : Int) < most) = false := decide_eq_false hlm
    rw [if_neg hlm] at h
    obtain rfl := Option.some.inj h
    clear h H hg hlm hlt hij hjP
    go_wp2
    go_end0
    first | exact ⟨rfl, ⟨v1, ST.out.up be_, FR.out.trans (GpFr.below be_)⟩⟩ | exact ⟨rfl, v1, ST.out.up be_, FR.out.trans (GpFr.below be_)⟩
  ·have q1 : decide ((j : Int) < (P.length : Int)) = false := decide_eq_false (by omega)
   have q1n : decide (j < P.length) = false := decide_eq_false hlt
   have q1p : (j < P.length) = False := eq_false hlt
   have h := H.out
   rw [List.drop_of_length_le (by omega)] at h
   obtain rfl := Option.some.inj (show some a1 = some acc' from h)
   clear h H hg hlt hij hjP
   go_wp2
   go_end0
   first | exact ⟨rfl, ⟨v1, ST.out.up be_, FR.out.trans (GpFr.below be_)⟩⟩ | exact ⟨rfl, v1, ST.out.up be_, FR.out.trans (GpFr.below be_)⟩
theorem gp_calls {α : Type} (d0 : Kd α) (e0 tv : Nat) (st : List Int → List α → Option (List α)) (g ne : Nat) (eb : Array Value) (w0 : World) (Bp Bm Be Bo : Nat) (Ap : Option Addr) (cp : Nat) (P : List Int) (most : Int) (ee : ∀ args w, (callFunc ne args).run Try.prog w = .ok (.enter ne args) w) (hE : GpEach d0 e0 tv st g ne eb w0) (hP : P.length ≤ 100) :
  ∀ (d : Nat) (i : Nat) (l : List Int) (vL v : Value) (acc acc' : List α) (W : World), i + d = P.length → l.length + d ≤ 200 → GpSt d0 e0 tv g w0 W v (fun _ => True) acc → (Kd.int .i64).R 3 W w0.heap.size (fun k => k ≠ g ∧ some k ≠ v.ownBlock) vL l → (Kd.int .i64).R 3 W w0.heap.size (fun k => k ≠ g ∧ some k ≠ v.ownBlock) (.slice Ap P.length cp) P → GpX g Bp Bm Be Bo (.slice Ap P.length cp) most ne eb W v → gOn st most (P.drop i) l acc = some acc' →
   Calls Try.prog 148 (#[.int .i64 (i : Int), vL] ++ gpB Bp Bm Be Bo) W fun e w' => e = .returned (.tuple #[]) ∧ ∃ v', GpSt d0 e0 tv g w0 w' v' (fun _ => True) acc' ∧ GpFr g v v' W w' := by
 intro d
 induction d using Nat.strongRecOn with
 | _ d ih => exact fun i l vL v acc acc' W h1 h2 h3 h4 h5 h6 h7 => gp_on d0 e0 tv st g ne eb w0 Bp Bm Be Bo Ap cp P most ee hE hP d (fun d' i l vL v acc acc' W hd k1 k2 k3 k4 k5 k6 k7 => ih d' hd i l vL v acc acc' W k1 k2 k3 k4 k5 k6 k7) i l vL v acc acc' W h1 h2 h3 h4 h5 h6 h7
theorem groups_calls {α : Type} (d0 : Kd α) (e0 tv : Nat) (st : List Int → List α → Option (List α)) (g ne : Nat) (eb : Array Value) (w0 : World) (Ap : Option Addr) (cp : Nat) (P : List Int) (most : Int) (ee : ∀ args w, (callFunc ne args).run Try.prog w = .ok (.enter ne args) w) (hE : GpEach d0 e0 tv st g ne eb w0) (hP : P.length ≤ 100)
  (v : Value) {acc0 : List α} (acc' : List α) (W : World) (hst : GpSt d0 e0 tv g w0 W v (fun _ => True) acc0) (hp : (Kd.int .i64).R 3 W w0.heap.size (fun k => k ≠ g ∧ some k ≠ v.ownBlock) (.slice Ap P.length cp) P) (h : gOn st most P [] acc0 = some acc') :
  Calls Try.prog 113 #[.slice Ap P.length cp, .int .i64 most, .func (.func ne) #[] eb] W fun e w' => e = .returned (.tuple #[]) ∧ ∃ v', GpSt d0 e0 tv g w0 w' v' (fun _ => True) acc' ∧ GpFr g v v' W w' := by
 have ST := ak_ hst
 have FR := ak_ (Below.refl W.heap.size W)
 have VB := ak_ fun k (hk : v.ownBlock = some k) => (show k < W.heap.size by obtain ⟨cells, hc⟩ := Kd.S_typed hst.row k hk; exact blk_lt hc)
 have HO := ak_ fun (W1 : World) (hb : Below W.heap.size W W1) (Bp Bm Be Bo : Nat) (hx : GpX g Bp Bm Be Bo (.slice Ap P.length cp) most ne eb W1 v) =>
  gp_calls d0 e0 tv st g ne eb w0 Bp Bm Be Bo Ap cp P most ee hE hP P.length 0 [] (.slice none 0 0) v acc0 acc' W1 (by omega) (by simp; omega) (hst.up hb) (Kd.R_nil _ _ _ _ _) (Kd.R_below hp hb) hx (by rw [List.drop_zero]; exact h)
 clear hst hp hE h hP
 unfold gpB at HO
 go_enter Try.func113, Try.ntmps113
 go_upto_region 3 with (first | ((with_reducible refine gate_dst (N := 3) rfl ?_); refine bx_ 3 #[.slice Ap P.length cp] 29 ?_; intro gb3 hg w3 hbox hb; have nb_ := ak_ (bs_ (by repeat (first | (with_reducible first | exact FR.out | apply ba_ | apply bN_ | apply b1_) | exact FR.out)) hb); have nc_ := ak_ hbox; have nd_ := ak_ ((by rw [hg]; exact (bz_ (by repeat (first | (with_reducible first | exact FR.out | apply ba_ | apply bN_ | apply b1_) | exact FR.out))) : W.heap.size ≤ gb3)); clear FR hb hbox hg; have FR := nb_; have BK3 := nc_; have GE3 := nd_; clear nb_ nc_ nd_; have hz3_0 := (blk_cell BK3.out 0); have hf3_0 := (blk_frozen BK3.out 0); simp at hz3_0; skip) | ((with_reducible refine gate_dst (N := 4) rfl ?_); refine bx_ 4 #[.int .i64 most] 3 ?_; intro gb4 hg w4 hbox hb; have n0_ := ak_ (blk_below (pk BK3.out) hb); have m0_ := ak_ ((by rw [hg]; exact Nat.ne_of_lt (blk_lt (pk BK3.out)) : gb3 ≠ gb4)); have nb_ := ak_ (bs_ (by repeat (first | (with_reducible first | exact FR.out | apply ba_ | apply bN_ | apply b1_) | exact FR.out)) hb); have nc_ := ak_ hbox; have nd_ := ak_ ((by rw [hg]; exact (bz_ (by repeat (first | (with_reducible first | exact FR.out | apply ba_ | apply bN_ | apply b1_) | exact FR.out))) : W.heap.size ≤ gb4)); clear FR hb hbox hg; clear BK3; have BK3 := n0_; have NE3_4 := m0_; have FR := nb_; have BK4 := nc_; have GE4 := nd_; clear nb_ nc_ nd_ n0_ m0_; have hz4_0 := (blk_cell BK4.out 0); have hf4_0 := (blk_frozen BK4.out 0); simp at hz4_0; skip) | ((with_reducible refine gate_dst (N := 5) rfl ?_); refine box_event ?hg (N := 5) ?hd (cs := #[.func (.func ne) #[] eb]) (t := 137) ?hr ?_; (case hd => rfl); (case hg => rfl); (case hr => go_simp <;> rfl); intro gb5 hg w5 hbox hb; have n0_ := ak_ (blk_below (pk BK3.out) hb); have m0_ := ak_ ((by rw [hg]; exact Nat.ne_of_lt (blk_lt (pk BK3.out)) : gb3 ≠ gb5)); have n1_ := ak_ (blk_below (pk BK4.out) hb); have m1_ := ak_ ((by rw [hg]; exact Nat.ne_of_lt (blk_lt (pk BK4.out)) : gb4 ≠ gb5)); have nb_ := ak_ (bs_ (by repeat (first | (with_reducible first | exact FR.out | apply ba_ | apply bN_ | apply b1_) | exact FR.out)) hb); have nc_ := ak_ hbox; have nd_ := ak_ ((by rw [hg]; exact (bz_ (by repeat (first | (with_reducible first | exact FR.out | apply ba_ | apply bN_ | apply b1_) | exact FR.out))) : W.heap.size ≤ gb5)); clear FR hb hbox hg; clear BK3 BK4; have BK3 := n0_; have NE3_5 := m0_; have BK4 := n1_; have NE4_5 := m1_; have FR := nb_; have BK5 := nc_; have GE5 := nd_; clear nb_ nc_ nd_ n0_ m0_ n1_ m1_; have hz5_0 := (blk_cell BK5.out 0); have hf5_0 := (blk_frozen BK5.out 0); simp at hz5_0; skip) | ((with_reducible refine gate_dst (N := 6) rfl ?_); refine bx_ 6 #[.nilFunc] 156 ?_; intro gb6 hg w6 hbox hb; have n0_ := ak_ (blk_below (pk BK3.out) hb); have m0_ := ak_ ((by rw [hg]; exact Nat.ne_of_lt (blk_lt (pk BK3.out)) : gb3 ≠ gb6)); have n1_ := ak_ (blk_below (pk BK4.out) hb); have m1_ := ak_ ((by rw [hg]; exact Nat.ne_of_lt (blk_lt (pk BK4.out)) : gb4 ≠ gb6)); have n2_ := ak_ (blk_below (pk BK5.out) hb); have m2_ := ak_ ((by rw [hg]; exact Nat.ne_of_lt (blk_lt (pk BK5.out)) : gb5 ≠ gb6)); have nb_ := ak_ (bs_ (by repeat (first | (with_reducible first | exact FR.out | apply ba_ | apply bN_ | apply b1_) | exact FR.out)) hb); have nc_ := ak_ hbox; have nd_ := ak_ ((by rw [hg]; exact (bz_ (by repeat (first | (with_reducible first | exact FR.out | apply ba_ | apply bN_ | apply b1_) | exact FR.out))) : W.heap.size ≤ gb6)); clear FR hb hbox hg; clear BK3 BK4 BK5; have BK3 := n0_; have NE3_6 := m0_; have BK4 := n1_; have NE4_6 := m1_; have BK5 := n2_; have NE5_6 := m2_; have FR := nb_; have BK6 := nc_; have GE6 := nd_; clear nb_ nc_ nd_ n0_ m0_ n1_ m1_ n2_ m2_; have hz6_0 := (blk_cell BK6.out 0); have hf6_0 := (blk_frozen BK6.out 0); simp at hz6_0; skip))
 have N1 := ak_ (blk_far (p := ⟨gb6, 0, none⟩) BK3.out NE3_6.out (.func (.func 148) #[] #[.pointer (some ⟨gb3, 0, none⟩), .pointer (some ⟨gb4, 0, none⟩), .pointer (some ⟨gb5, 0, none⟩), .pointer (some ⟨gb6, 0, none⟩)]))
 have N2 := ak_ (blk_far (p := ⟨gb6, 0, none⟩) BK4.out NE4_6.out (.func (.func 148) #[] #[.pointer (some ⟨gb3, 0, none⟩), .pointer (some ⟨gb4, 0, none⟩), .pointer (some ⟨gb5, 0, none⟩), .pointer (some ⟨gb6, 0, none⟩)]))
 have N3 := ak_ (blk_far (p := ⟨gb6, 0, none⟩) BK5.out NE5_6.out (.func (.func 148) #[] #[.pointer (some ⟨gb3, 0, none⟩), .pointer (some ⟨gb4, 0, none⟩), .pointer (some ⟨gb5, 0, none⟩), .pointer (some ⟨gb6, 0, none⟩)]))
 have N4 := ak_ (blk_put (cs' := #[.func (.func 148) #[] #[.pointer (some ⟨gb3, 0, none⟩), .pointer (some ⟨gb4, 0, none⟩), .pointer (some ⟨gb5, 0, none⟩), .pointer (some ⟨gb6, 0, none⟩)]]) BK6.out 0 (.func (.func 148) #[] #[.pointer (some ⟨gb3, 0, none⟩), .pointer (some ⟨gb4, 0, none⟩), .pointer (some ⟨gb5, 0, none⟩), .pointer (some ⟨gb6, 0, none⟩)]) rfl)
 have N5 := ak_ (below_set (v := .func (.func 148) #[] #[.pointer (some ⟨gb3, 0, none⟩), .pointer (some ⟨gb4, 0, none⟩), .pointer (some ⟨gb5, 0, none⟩), .pointer (some ⟨gb6, 0, none⟩)]) (j := 0) FR.out GE6.out)
 generalize hW5 : w6.setCell ⟨gb6, 0, none⟩ _ = W5 at N1 N2 N3 N4 N5 ⊢
 have hc0 := (blk_cell N4.out 0)
 simp at hc0
 have hx := HO.out W5 N5.out gb3 gb4 gb5 gb6 ⟨N1.out, N2.out, N3.out, N4.out, by
  have hlt_ := blk_lt ST.out.out
  rintro k (rfl | rfl | rfl | rfl)
  ·exact ⟨by have := GE3.out; omega, fun e => by have := VB.out _ e.symm; have := GE3.out; omega⟩
  ·exact ⟨by have := GE4.out; omega, fun e => by have := VB.out _ e.symm; have := GE4.out; omega⟩
  ·exact ⟨by have := GE5.out; omega, fun e => by have := VB.out _ e.symm; have := GE5.out; omega⟩
  ·exact ⟨by have := GE6.out; omega, fun e => by have := VB.out _ e.symm; have := GE6.out; omega⟩⟩
 simp only [List.append_toArray, List.cons_append, List.nil_append] at hx
 have HX := ak_ hx
 clear hx hW5 HO BK3 BK4 BK5 BK6 N1 N2 N3 N4
 go_wp2_with (refine HX.out.mono ?_; rintro e w8 ⟨rfl, v', h1, h2⟩; have H1 := ak_ h1; have H2 := ak_ h2; clear h1 h2)
 go_end0
 exact ⟨rfl, v', H1.out, (GpFr.below N5.out).trans H2.out⟩
def impl_State_side.l0 : Nat → Bool → List Int → List Bool → Int → Int → Option (List Int)
 | 0, _, _, _, _, _ => none
 | k + 1, x1, x5, x10, x11, x12 => if x12 < x11 then (if 0 ≤ x12 then (if x12 < (x10.length : Int) then (if ((rdOf false x10 x12) == x1) = true then (if x5.length < 17592186044416 then (impl_State_side.l0 k x1 (x5 ++ [x12]) x10 x11 (wrap64 (x12 + 1))) else (none)) else (impl_State_side.l0 k x1 x5 x10 x11 (wrap64 (x12 + 1)))) else (none)) else (none)) else (some x5)
def impl_State_side.f (k : Nat) (l0_0 : List Bool) (a0_1 : Bool) (a1 : Bool) : Option (List Int) := impl_State_side.l0 k a1 (([] : List Int)) l0_0 (l0_0.length : Int) 0
theorem impl_State_side.calls (k : Nat) (A0_0 : Option Addr) (c0_0 : Nat) (l0_0 : List Bool) (a0_1 : Bool) (a1 : Bool) (r : List Int) (w : World) (hr0_0 : Kd.C Kd.bool w A0_0 l0_0.length l0_0) (hc0_0 : l0_0.length ≤ c0_0) (h : impl_State_side.f k l0_0 a0_1 a1 = some r) :
  Calls Try.prog 115 #[.agg #[.slice A0_0 l0_0.length c0_0, .bool a0_1], .bool a1] w fun e w' => ∃ v0_ : Value, e = .returned (v0_) ∧ Kd.R (Kd.int .i64) 3 w' w.heap.size (fun _ => True) v0_ r ∧ Below w.heap.size w w' := by
 have hu115 := Try.underlying115
 have HR0_0 := ak_ hr0_0
 have HC0_0 := ak_ hc0_0
 clear hr0_0 hc0_0
 have HB := ak_ (Below.refl w.heap.size w)
 have H : (impl_State_side.l0 k a1 (([] : List Int)) l0_0 (l0_0.length : Int) 0) = some r := h
 clear h
 obtain ⟨y499, hy499⟩ : ∃ y_ : List Int, y_ = (([] : List Int)) := ⟨_, rfl⟩
 replace H : (impl_State_side.l0 k a1 y499 l0_0 (l0_0.length : Int) 0) = some r := by first | (rw [hy499]; exact H) | exact H
 have Ny499 := ak_ hy499
 clear hy499
 have H' := ak_ H
 clear H
 go_enter Try.func115, Try.ntmps115
 go_wp2_with (first | ((with_reducible refine gate_dst (N := 2) rfl ?_); refine bx_ 2 #[.slice A0_0 l0_0.length c0_0, .bool a0_1] 115 ?_; intro gb498 hg w3 hbox hb; have n0_ := ak_ (bs_ (bb_ HB.out) hb); have n1_ := ak_ (hbox); have n2_ := ak_ ((by rw [hg]; exact (bz_ (bb_ HB.out)) : w.heap.size ≤ gb498)); have n3_ := n2_; clear HB; have HB := n0_; have BK498 := n1_; have GW498 := n2_; have GE498 := n3_; clear n0_ n1_ n2_ n3_; clear hb hbox hg) | ((with_reducible refine gate_dst (N := 8) rfl ?_); refine Kd.R_lit (Kd.int .i64) _ 3 ?hg (N := 8) ?hd (xs := ([] : List Int)) (inner := []) (ok := fun _ => True) (okp := fun _ => True) ?hr ?hp (fun _ hk => hk) trivial (Below.refl _ _) (Nat.le_refl _) (by simp) ?_; (case hd => rfl); (case hg => rfl); (case hr => go_simp <;> rfl); (case hp => exact (Reps.none _ _)); intro v500 w4 ho5 hb hg_ hnew_; clear hg_ hnew_; (first | rw [← Ny499.out] at ho5 | (simp only [Int.reduceToNat] at ho5; rw [← Ny499.out] at ho5)); have n0_ := ak_ (Kd.R_lower ho5 (bz_ bl_)); have n1_ := ak_ (blk_below (pk BK498.out) hb); have n2_ := ak_ (bs_ bl_ hb); clear BK498; clear HB; have HO501 := n0_; have BK498 := n1_; have HB := n2_; clear n0_ n1_ n2_; clear hb ho5; obtain ⟨hcz6_0, hcz6_1, hfz6_0, hfz6_1⟩ := c2_ BK498.out))
 go_loopg [5, 12] k (fun kq v5 v12 w' => ∃ (x5_1 : List Int) (x12_1 : Int), v12 = .int .i64 x12_1 ∧ Aside0 (impl_State_side.l0 kq a1 x5_1 l0_0 (l0_0.length : Int) x12_1 = some r) ∧ Aside0 (kq ≤ k) ∧ Aside0 (Kd.R (Kd.int .i64) 3 w' w.heap.size (fun _ => True) v5 x5_1) ∧ Aside0 (w'.heap[gb498]? = some (.cells #[(.slice A0_0 l0_0.length c0_0), .bool a0_1] 115 (0, 0))) ∧ Aside0 (Below w.heap.size w w'))
 case atStart => exact ⟨(y499), (0), (ry_), H', ⟨Nat.le_refl _⟩, ⟨Kd.pR HO501.out⟩, ⟨pk BK498.out⟩, ⟨by repeat (first | exact HB.out | apply ba_ | apply bN_ | apply b1_ | refine below_set ?_ GE498.out)⟩⟩
 case round =>
  clear H'
  try clear c1
  try clear p2
  try clear hcz6_0
  try clear hcz6_1
  try clear hfz6_0
  try clear hfz6_1
  obtain ⟨x5_1, x12_1, rfl, HA, HK1, HO_5, BK498, HB⟩ := hrel
  cases gk with
  | zero => exact absurd HA.out (by simp [impl_State_side.l0])
  | succ k1 =>
   have H := HA.out
   clear HA
   simp only [impl_State_side.l0] at H
   by_cases c7 : x12_1 < (l0_0.length : Int)
   ·
    rw [if_pos c7] at H
    have c7b0 : decide (x12_1 < (l0_0.length : Int)) = true := decide_eq_true c7
    clear c7
    by_cases c8 : 0 ≤ x12_1
    ·
     rw [if_pos c8] at H
     have c8b0 : decide (0 ≤ x12_1) = true := decide_eq_true c8
     clear c8
     by_cases c9 : x12_1 < (l0_0.length : Int)
     ·
      rw [if_pos c9] at H
      have c9b0 : decide (x12_1 < (l0_0.length : Int)) = true := decide_eq_true c9
      clear c9
      by_cases c10 : ((rdOf false l0_0 x12_1) == a1) = true
      ·
       rw [if_pos c10] at H
       have c10b0 : ((rdOf false l0_0 x12_1) == a1) = true := c10
       (try (have c10b1 : decide ((rdOf false l0_0 x12_1) = a1) = true := by simpa using c10))
       (try (have c10b2 : ((rdOf false l0_0 x12_1) == a1) = true := by simpa using c10))
       clear c10
       by_cases c11 : x5_1.length < 17592186044416
       ·
        rw [if_pos c11] at H
        have LMc11 := ak_ c11
        clear c11
        obtain ⟨y503, hy503⟩ : ∃ y_ : List Int, y_ = (x5_1 ++ [x12_1]) := ⟨_, rfl⟩
        replace H : (impl_State_side.l0 k1 a1 y503 l0_0 (l0_0.length : Int) (wrap64 (x12_1 + 1))) = some r := by first | (rw [hy503]; exact H) | exact H
        have Ny503 := ak_ hy503
        clear hy503
        have H' := ak_ H
        clear H
        have p502 : 0 ≤ (x12_1 : Int) := odt_ (by assumption)
        have q502 : x12_1 < (l0_0.length : Int) := odt_ (by assumption)
        obtain ⟨ad502, e502, hx502_0⟩ := Kd.at_bool HR0_0.out x12_1 p502 q502
        cases e502
        try replace hx502_0 := (HB.out.cell (World.block_lt_of_cell? w _ hx502_0)).trans hx502_0
        replace p502 := eq_true p502
        replace q502 := eq_true q502
        go_wp2_with (first | ((with_reducible refine gate_builtin (b := .append) (xs := #[.tmp 20, .tmp 22]) rfl ?_); at_builtin; refine Kd.R_append (Kd.int .i64) (w0 := w) w.heap.size rfl (.tmp 20) (.tmp 22) 29 3 (.int .i64 0) 8 rfl Try.underlying29 info3 rfl (by decide) (by omega) u5 x5_1 x12_1 [.int .i64 x12_1] (fun _ => True) (fun _ => False) rfl rfl ?aP (fun _ hk => hk.elim) ?aF ?aO ?aB ?aS ?aL ?_; (case aP => exact rfl); (case aB => exact bl_); (case aF => exact (fun _ _ => trivial)); (case aO => exact (Kd.pR HO_5.out)); (case aS => exact (bz_ bl_)); (case aL => have := LMc11.out; omega); intro v504 w12 ho hb hg hat; rw [← Ny503.out] at ho; have n0_ := ak_ (blk_grown (pk BK498.out) hg (Kd.R_ne HO_5.out BK498.out (by decide))); have n1_ := ak_ (hb); have n2_ := ak_ (ho); clear BK498; clear HB; clear HO_5; have BK498 := n0_; have HB := n1_; have HO505 := n2_; clear n0_ n1_ n2_; clear ho hb hg hat))
        go_roundg k1
        case measure => have := HK1.out; omega
        case rel => exact ⟨(y503), (wrap64 (x12_1 + 1)), (ry_), H', ⟨by have := HK1.out; omega⟩, ⟨Kd.pR HO505.out⟩, ⟨pk BK498.out⟩, ⟨by repeat (first | exact HB.out | apply ba_ | apply bN_ | apply b1_ | refine below_set ?_ GE498.out)⟩⟩
       ·
        rw [if_neg c11] at H
        exact absurd H (by simp)
      ·
       rw [if_neg c10] at H
       have c10b0 : ((rdOf false l0_0 x12_1) == a1) = false := by simpa using c10
       (try (have c10b1 : decide ((rdOf false l0_0 x12_1) = a1) = false := by simpa using c10))
       (try (have c10b2 : ((rdOf false l0_0 x12_1) == a1) = false := by simpa using c10))
       (try (have c10b3 : ¬ ((rdOf false l0_0 x12_1) = a1) := by simpa using c10))
       clear c10
       have H' := ak_ H
       clear H
       have p502 : 0 ≤ (x12_1 : Int) := odt_ (by assumption)
       have q502 : x12_1 < (l0_0.length : Int) := odt_ (by assumption)
       obtain ⟨ad502, e502, hx502_0⟩ := Kd.at_bool HR0_0.out x12_1 p502 q502
       cases e502
       try replace hx502_0 := (HB.out.cell (World.block_lt_of_cell? w _ hx502_0)).trans hx502_0
       replace p502 := eq_true p502
       replace q502 := eq_true q502
       go_wp2
       go_roundg k1
       case measure => have := HK1.out; omega
       case rel => exact ⟨(x5_1), (wrap64 (x12_1 + 1)), (ry_), H', ⟨by have := HK1.out; omega⟩, ⟨Kd.pR HO_5.out⟩, ⟨pk BK498.out⟩, ⟨by repeat (first | exact HB.out | apply ba_ | apply bN_ | apply b1_ | refine below_set ?_ GE498.out)⟩⟩
     ·
      rw [if_neg c9] at H
      exact absurd H (by simp)
    ·
     rw [if_neg c8] at H
     exact absurd H (by simp)
   ·
    rw [if_neg c7] at H
    have c7b0 : decide (x12_1 < (l0_0.length : Int)) = false := decide_eq_false c7
    clear c7
    obtain rfl := Option.some.inj H
    go_wp2
    go_ret
    exact ⟨_, rx_, by (with_reducible repeat (first | apply Kd.R_alloc | apply Kd.R_drewN | apply Kd.R_drew)); exact HO_5.out, by repeat (first | exact HB.out | apply ba_ | apply bN_ | apply b1_ | refine below_set ?_ GE498.out)⟩
def impl_Bank_state.f (l0_0 : List Bool) (a0_1 : Bool) : Option (List Bool × Bool) := some (l0_0, a0_1)
theorem impl_Bank_state.calls (P0_0_ : Nat → Prop) (A0_0 : Option Addr) (c0_0 : Nat) (l0_0 : List Bool) (a0_1 : Bool) (r1 : List Bool) (r2 : Bool) (w : World) (hs0_0 : Kd.V Kd.bool 4 w w.heap.size (fun k_ => P0_0_ k_) (.slice A0_0 l0_0.length c0_0) l0_0) (h : impl_Bank_state.f l0_0 a0_1 = some (r1, r2)) :
  Calls Try.prog 144 #[.agg #[.slice A0_0 l0_0.length c0_0, .bool a0_1]] w fun e w' => ∃ v0_ : Value, e = .returned (.agg #[v0_, .bool r2]) ∧ Kd.V Kd.bool 4 w' w.heap.size (fun k_ => (P0_0_ k_ ∨ w.heap.size ≤ k_)) v0_ r1 ∧ Below w.heap.size w w' := by
 have hu90 := Try.underlying90
 have hu115 := Try.underlying115
 have HO0_0 := ak_ (show Kd.V Kd.bool 4 w w.heap.size (fun k_ => (P0_0_ k_ ∨ w.heap.size ≤ k_)) (.slice A0_0 l0_0.length c0_0) l0_0 from Kd.V_mono hs0_0 (fun k_ hk => .inl hk))
 have HB := ak_ (Below.refl w.heap.size w)
 have H : (some (l0_0, a0_1)) = some (r1, r2) := h
 clear h
 simp only [Option.some.injEq, Prod.mk.injEq] at H
 obtain ⟨rfl, rfl⟩ := H
 go_enter Try.func144, Try.ntmps144
 go_wp2_with (first | ((with_reducible refine gate_dst (N := 1) rfl ?_); refine bx_ 1 #[.slice A0_0 l0_0.length c0_0, .bool a0_1] 90 ?_; intro gb506 hg w2 hbox hb; have n0_ := ak_ (Kd.V_below (Kd.V_elderB (Kd.pV HO0_0.out) gb506 (Nat.le_of_eq hg.symm)) hb); have n1_ := ak_ (bs_ (bb_ HB.out) hb); have n2_ := ak_ (hbox); have n3_ := ak_ ((by rw [hg]; exact (bz_ (bb_ HB.out)) : w.heap.size ≤ gb506)); have n4_ := n3_; clear HO0_0; clear HB; have HO0_0 := n0_; have HB := n1_; have BK506 := n2_; have GW506 := n3_; have GE506 := n4_; clear n0_ n1_ n2_ n3_ n4_; clear hb hbox hg) | ((with_reducible refine gate_dst (N := 2) rfl ?_); refine bx_ 2 #[.slice none 0 0, .bool false] 115 ?_; intro gb507 hg w3 hbox hb; have n0_ := ak_ (Kd.V_below (Kd.V_elderB (Kd.pV HO0_0.out) gb507 (Nat.le_of_eq hg.symm)) hb); have n1_ := ak_ (blk_below (pk BK506.out) hb); have n2_ := ak_ (bs_ bl_ hb); have n3_ := ak_ (hbox); have n4_ := ak_ ((by rw [hg]; exact (bz_ bl_) : w.heap.size ≤ gb507)); have n5_ := n4_; have n6_ := ak_ ((by rw [hg]; exact Nat.ne_of_lt (blk_lt (pk BK506.out)) : gb506 ≠ gb507)); have n7_ := ak_ n6_.out.symm; clear HO0_0; clear BK506; clear HB; have HO0_0 := n0_; have BK506 := n1_; have HB := n2_; have BK507 := n3_; have GW507 := n4_; have GE507 := n5_; have NB506_507 := n6_; have NB507_506 := n7_; clear n0_ n1_ n2_ n3_ n4_ n5_ n6_ n7_; clear hb hbox hg; have hnb4 := NB506_507.out; have hnc4 := NB507_506.out; obtain ⟨hcz5_0, hcz5_1, hfz5_0, hfz5_1⟩ := c2_ BK506.out; obtain ⟨hcz6_0, hcz6_1, hfz6_0, hfz6_1⟩ := c2_ BK507.out))
 refine bodyPost_ret (results_cell_row rfl _ _ gb507 115 #[.slice A0_0 l0_0.length c0_0, .bool a0_1] (0, 0) _ rfl (by (with_reducible repeat (first | refine kN_ ?_ _ | refine k1_ ?_ | refine ka_ ?_ _)); refine blk_put (cs := #[.slice A0_0 l0_0.length c0_0, .bool false]) ?_ 1 _ rfl; (with_reducible repeat (first | refine kN_ ?_ _ | refine k1_ ?_ | refine ka_ ?_ _)); refine blk_put (cs := #[.slice none 0 0, .bool false]) ?_ 0 _ rfl; exact pk BK507.out) Try.underlying115 rfl (by kernel_rfl)) rfl ?_
 exact ⟨_, rx_, by (with_reducible repeat (first | apply Kd.V_alloc | apply Kd.V_drewN | apply Kd.V_drew)); exact Kd.V_mono (Kd.V_far (p := ⟨gb507, 1, none⟩) (Kd.V_far (p := ⟨gb507, 0, none⟩) (Kd.V_mono HO0_0.out (fun k_ hk => (⟨hk, hk.2⟩ : _ ∧ k_ ≠ gb507))) (fun _ hk => hk.2) (.slice A0_0 l0_0.length c0_0)) (fun _ hk => hk.2) (.bool a0_1)) (fun _ hk => hk.1.1.1), by repeat (first | exact HB.out | apply ba_ | apply bN_ | apply b1_ | refine below_set ?_ (Aside0.out (by assumption)))⟩
def slices_Clone_bool_bool_s.f (l0 : List Bool) : Option (List Bool) := (some (([] : List Bool) : List Bool)).bind fun y508 => (if y508.length + l0.length < 140737488355328 then (some (y508 ++ l0)) else (none))
theorem slices_Clone_bool_bool_s.calls (ad0 : Addr) (c0 : Nat) (l0 : List Bool) (r : List Bool) (w : World) (hr0 : Kd.C Kd.bool w (some ad0) l0.length l0) (hc0 : l0.length ≤ c0) (h : slices_Clone_bool_bool_s.f l0 = some r) :
  Calls Try.prog 159 #[.slice (some ad0) l0.length c0] w fun e w' => ∃ v0_ : Value, e = .returned (v0_) ∧ Kd.R Kd.bool 4 w' w.heap.size (fun _ => True) v0_ r ∧ Below w.heap.size w w' := by
 have HR0 := ak_ hr0
 have HC0 := ak_ hc0
 clear hr0 hc0
 have HB := ak_ (Below.refl w.heap.size w)
 have H : ((some (([] : List Bool) : List Bool)).bind fun y508 => (if y508.length + l0.length < 140737488355328 then (some (y508 ++ l0)) else (none))) = some r := h
 clear h
 obtain ⟨y508, hy508⟩ : ∃ y_ : List Bool, y_ = (([] : List Bool)) := ⟨_, rfl⟩
 replace H : (if y508.length + l0.length < 140737488355328 then (some (y508 ++ l0)) else (none)) = some r := by first | (rw [hy508]; exact H) | exact H
 have Ny508 := ak_ hy508
 clear hy508
 by_cases c2 : y508.length + l0.length < 140737488355328
 ·rw [if_pos c2] at H
  have LMc2 := ak_ c2
  clear c2
  obtain ⟨y511, hy511⟩ : ∃ y_ : List Bool, y_ = (y508 ++ l0) := ⟨_, rfl⟩
  replace H : (some y511) = some r := by first | (rw [hy511]; exact H) | exact H
  have Ny511 := ak_ hy511
  clear hy511
  obtain rfl := Option.some.inj H
  have hnil := fun (W : World) (a : Option Addr) (n c : Nat) => Go.Lib.run_eql_slice_nil (P := Try.prog) W 38 4 a n c 0 0 Try.underlying38
  go_enter Try.func159, Try.ntmps159
  go_wp2_with (first | ((with_reducible refine gate_dst (N := 5) rfl ?_); refine Kd.R_lit Kd.bool _ 4 ?hg (N := 5) ?hd (xs := ([] : List Bool)) (inner := []) (ok := fun _ => True) (okp := fun _ => True) ?hr ?hp (fun _ hk => hk) trivial (Below.refl _ _) (Nat.le_refl _) (by simp) ?_; (case hd => rfl); (case hg => rfl); (case hr => go_simp <;> rfl); (case hp => exact (Reps.none _ _)); intro v509 w3 ho4 hb hg_ hnew_; clear hg_ hnew_; (first | rw [← Ny508.out] at ho4 | (simp only [Int.reduceToNat] at ho4; rw [← Ny508.out] at ho4)); have n0_ := ak_ (Kd.R_lower ho4 (bz_ (bb_ HB.out))); have n1_ := ak_ (bs_ (bb_ HB.out) hb); clear HB; have HO510 := n0_; have HB := n1_; clear n0_ n1_; clear hb ho4) | ((with_reducible refine gate_builtin (b := .append) (xs := #[.tmp 5, .tmp 6]) rfl ?_); at_builtin; refine Kd.R_append_rows Kd.bool (w0 := w) w.heap.size rfl (.tmp 5) (.tmp 6) 38 4 (.bool false) 1 rfl Try.underlying38 info4 rfl (by decide) (by omega) v509 y508 l0 _ _ _ (fun _ => True) (fun _ => False) rfl rfl ?aO ?aR (fun _ _ h => h) (fun _ h => h.elim) ?aF ?aB ?aS ?aL ?_; (case aR => repeat (first | exact (Kd.C_below HR0.out HB.out) | (with_reducible refine Kd.C_alloc ?_ _) | (with_reducible refine Kd.C_drewN ?_ _) | (with_reducible refine Kd.C_drew ?_))); (case aB => exact (bb_ HB.out)); (case aF => exact (fun _ _ => trivial)); (case aO => exact (Kd.pR HO510.out)); (case aS => exact (bz_ (bb_ HB.out))); (case aL => have := LMc2.out; omega); intro v512 w5 ho hb hg hat; rw [← Ny511.out] at ho; have n0_ := ak_ (hb); have n1_ := ak_ (ho); clear HB; clear HO510; have HB := n0_; have HO513 := n1_; clear n0_ n1_; clear ho hb hg hat))
  go_ret
  exact ⟨_, rx_, by (with_reducible repeat (first | apply Kd.R_alloc | apply Kd.R_drewN | apply Kd.R_drew)); exact HO513.out, bb_ HB.out⟩
 ·rw [if_neg c2] at H
  exact absurd H (by simp)
theorem slices_Clone_bool_bool_s.f_eq (l0 : List Bool) : slices_Clone_bool_bool_s.f l0 = if l0.length < 140737488355328 then some l0 else none := by
 unfold slices_Clone_bool_bool_s.f
 simp
def slices_Clone_bool_bool.f (l0 : List Bool) : Option (List Bool) := if l0.length < 140737488355328 then some l0 else none
theorem slices_Clone_bool_bool.calls (A0 : Option Addr) (c0 : Nat) (l0 : List Bool) (r : List Bool) (w : World) (hr0 : Kd.C Kd.bool w A0 l0.length l0) (hc0 : l0.length ≤ c0) (h : slices_Clone_bool_bool.f l0 = some r) :
  Calls Try.prog 159 #[.slice A0 l0.length c0] w fun e w' => ∃ v0_ : Value, e = .returned (v0_) ∧ Kd.R Kd.bool 4 w' w.heap.size (fun _ => True) v0_ r ∧ Below w.heap.size w w' := by
 cases A0 with
 | some ad => exact slices_Clone_bool_bool_s.calls ad c0 l0 r w hr0 hc0 (by rw [slices_Clone_bool_bool_s.f_eq]; exact h)
 | none =>
  obtain rfl : l0 = [] := by
   cases l0 with
   | nil => rfl
   | cons x xs =>
    obtain ⟨ad, he, _⟩ := hr0.2.2 (by simp)
    exact absurd he (by simp)
  obtain rfl : [] = r := by
   unfold slices_Clone_bool_bool.f at h
   simpa using h
  clear hr0 h
  have hnil := fun (W : World) (a : Option Addr) (n c : Nat) => Go.Lib.run_eql_slice_nil (P := Try.prog) W 38 4 a n c 0 0 Try.underlying38
  go_enter Try.func159, Try.ntmps159
  go_wp2
  go_ret
  exact ⟨_, rfl, Kd.R_nil Kd.bool 4 w w.heap.size _, Below.refl _ _⟩
end Go.Proofs.Ythkchdfkeieabaa.QGr
