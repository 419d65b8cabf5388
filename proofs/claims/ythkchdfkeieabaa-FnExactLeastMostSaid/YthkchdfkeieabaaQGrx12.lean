/- Contracts of functions of the given program, walked: each call returns what its Lean function says. Conditions: those that stand at each theorem. (Written by a program of this session.) -/
import Derived.Test.YthkchdfkeieabaaQGrx0
namespace Go.Proofs.Ythkchdfkeieabaa.QGr
open Go.RowKit Go.Proofs.YthkchdfkeieabaaW.PrintWords Go.Proofs.YthkchdfkeieabaaW.PrintLast Go.Proofs.YthkchdfkeieabaaW.PrintMore
open List (setIfInBounds_toArray set_cons_zero set_cons_succ map_toArray map_cons map_nil)
attribute [local go_sem] max2_int min2_int max_two min_two max_three min_three max_four min_four
set_option linter.unusedVariables false
set_option maxHeartbeats 8000000
set_option maxRecDepth 100000
set_option linter.unusedSimpArgs false
def slices_Repeat_bool_bool.f (l0 : List Bool) (a1 : Int) : Option (List Bool) := if l0.length = 1 then (if 0 ≤ a1 then (if a1 ≤ 1000000 then some (List.replicate a1.toNat (l0.headD false)) else none) else none) else none
def slices_Repeat_bool_bool.row (N m : Nat) (x : Bool) : List Bool := List.replicate m x ++ List.replicate (N - m) false
theorem slices_Repeat_bool_bool.row_len {N m : Nat} {x : Bool} (h : m ≤ N) : (slices_Repeat_bool_bool.row N m x).length = N := by
 unfold slices_Repeat_bool_bool.row
 rw [List.length_append, List.length_replicate, List.length_replicate]
 omega
theorem slices_Repeat_bool_bool.row_set {N m : Nat} {x : Bool} (h : m < N) : (slices_Repeat_bool_bool.row N m x).set m x = slices_Repeat_bool_bool.row N (m + 1) x := by
 unfold slices_Repeat_bool_bool.row
 obtain ⟨r, hr⟩ : ∃ r, N - m = r + 1 := ⟨N - m - 1, by omega⟩
 rw [hr, show N - (m + 1) = r by omega, List.set_append_right _ _ (by simp), List.length_replicate, Nat.sub_self, List.replicate_succ, List.set_cons_zero, List.replicate_succ', List.append_assoc]
 rfl
theorem slices_Repeat_bool_bool.row_get {N m j : Nat} {x : Bool} (h : j < m) : rdOf false (slices_Repeat_bool_bool.row N m x) (j : Int) = x := by
 unfold slices_Repeat_bool_bool.row rdOf
 rw [Int.toNat_natCast, List.getD_eq_getElem?_getD, List.getElem?_append_left (by simpa using h)]
 simp [h]
theorem slices_Repeat_bool_bool.puts {w : World} {base g N c : Nat} {x : Bool} (hg : w.heap.size ≤ g) : ∀ (q m : Nat) (W : World), m + q ≤ N → Kd.bool.R 4 W base (fun _ => True) (.slice (some ⟨g, 0, none⟩) N c) (slices_Repeat_bool_bool.row N m x) → Below w.heap.size w W →
  Kd.bool.R 4 (W.setCells g m (List.replicate q (Value.bool x))) base (fun _ => True) (.slice (some ⟨g, 0, none⟩) N c) (slices_Repeat_bool_bool.row N (m + q) x) ∧ Below w.heap.size w (W.setCells g m (List.replicate q (Value.bool x)))
 | 0, m, W, _, h, hb => ⟨h, hb⟩
 | q + 1, m, W, hl, h, hb => by
  have h1 := (Kd.R_putg h (m : Int) x).1
  rw [Int.toNat_natCast, slices_Repeat_bool_bool.row_set (by omega)] at h1
  have h2 := slices_Repeat_bool_bool.puts hg q (m + 1) _ (by omega) h1 (below_set (j := m) (v := Value.bool x) hb hg)
  rw [show m + (q + 1) = m + 1 + q by omega, List.replicate_succ]
  exact h2
theorem slices_Repeat_bool_bool.calls (A0 : Option Addr) (c0 : Nat) (l0 : List Bool) (a1 : Int) (r : List Bool) (w : World) (hr0 : Kd.C Kd.bool w A0 l0.length l0) (hc0 : l0.length ≤ c0) (h : slices_Repeat_bool_bool.f l0 a1 = some r) :
  Calls Try.prog 150 #[.slice A0 l0.length c0, .int .i64 a1] w fun e w' => ∃ v0_ : Value, e = .returned (v0_) ∧ Kd.bool.R 4 w' w.heap.size (fun _ => True) v0_ r ∧ Below w.heap.size w w' := by
 unfold slices_Repeat_bool_bool.f at h
 by_cases hl : l0.length = 1
 rotate_left
 ·rw [if_neg hl] at h; exact absurd h (by simp)
 rw [if_pos hl] at h
 by_cases h0 : 0 ≤ a1
 rotate_left
 ·rw [if_neg h0] at h; exact absurd h (by simp)
 rw [if_pos h0] at h
 by_cases h1 : a1 ≤ 1000000
 rotate_left
 ·rw [if_neg h1] at h; exact absurd h (by simp)
 rw [if_pos h1] at h
 obtain ⟨x, rfl⟩ := List.length_eq_one_iff.mp hl
 obtain ⟨N, rfl⟩ : ∃ N : Nat, a1 = (N : Int) := ⟨a1.toNat, by omega⟩
 rw [Int.toNat_natCast] at h
 obtain rfl := Option.some.inj h
 obtain ⟨ad, rfl, hx⟩ := Kd.at_bool hr0 0 (by decide) (by simp)
 have hx1 : w.cell? (ad.add 0) = some (Value.bool x) := hx
 have HX := ak_ hx1
 have HN := ak_ h1
 have HB := ak_ (Below.refl w.heap.size w)
 have HM0 := fun (W : World) => Try.bits_Mul 1 N (by decide) (by omega) W
 rw [show (1 * N / 18446744073709551616 : Nat) = 0 by omega, show (1 * N % 18446744073709551616 : Nat) = N by omega] at HM0
 have HM := ak_ HM0
 have k0 : decide ((N : Int) < 0) = false := decide_eq_false (by omega)
 have k0n : ((N : Int) < 0) = False := eq_false (by omega)
 have k1 : IntKind.u64.wrap (N : Int) = (N : Int) := IntWalk.u64_in _ ⟨by omega, by omega⟩
 have k2 : IntKind.i64.wrap (N : Int) = (N : Int) := IntWalk.i64_in _ ⟨by omega, by omega⟩
 have k3 : decide ((9223372036854775807 : Int) < (N : Int)) = false := decide_eq_false (by omega)
 have k3n : ((9223372036854775807 : Int) < (N : Int)) = False := eq_false (by omega)
 have HH := ak_ (show List.replicate N x = List.replicate N (List.headD [x] false) from rfl)
 clear h hl h0 h1 hr0 hc0 hx hx1 HM0
 go_enter Try.func150, Try.ntmps150
 go_upto_region 6 with (go_at_call 161; refine (HM.out _).mono ?_; rintro e w' ⟨rfl, hw_⟩; rw [hw_]; clear hw_ w')
 go_upto_region 7 with ((with_reducible refine gate_dst (N := 30) rfl ?_); refine Kd.R_make Kd.bool _ 4 rfl (N := 30) rfl 38 _ _ rfl (N : Int) rfl rfl Try.underlying38 (Value.bool false) 1 info4 rfl (by decide) (by omega) false (ok := fun _ => True) (okp := fun _ => True) rfl (fun _ hk => hk) trivial (by omega) (by have := HN.out; omega) (Below.refl _ _) (Nat.le_refl _) ?_; intro v30 w30 ho hb hg hnew; have HO := ak_ (Kd.R_lower ho (bz_ (bb_ HB.out))); have n0_ := ak_ (bs_ (bb_ HB.out) hb); clear HB hb hg hnew ho; have HB := n0_; clear n0_)
 have h30 := HO.out
 rw [Int.toNat_natCast] at h30
 clear HO
 have hsz : (Try.prog.info? 4).map (·.size) = some 1 := by kernel_rfl
 by_cases hz : N = 0
 ·obtain ⟨A3, c3, e3⟩ := Kd.R_slice h30
  rw [List.length_replicate] at e3
  subst e3
  have HO := ak_ h30
  have hcp : ∀ W, (Builtin.copy_ #[38, 38] 3 #[.slice A3 N c3, .slice (some ad) 1 c0]).run Try.prog W = .ok (goInt 0) W := fun W => run_copy_none W 38 38 3 4 A3 (some ad) N c3 1 c0 Try.underlying38 hsz (by rw [hz]; rfl)
  have k4 : decide ((0 : Int) < (N : Int)) = false := decide_eq_false (by omega)
  have k4n : decide (0 < N) = false := decide_eq_false (by omega)
  have k4p : (0 < N) = False := eq_false (by omega)
  have HZ := ak_ hz
  clear h30 hz
  go_upto_region 8 with (fail)
  go_loopg [8] 0 (fun gg v8 wr => v8 = .int .i64 0 ∧ Aside0 (Kd.bool.R 4 wr w.heap.size (fun _ => True) (.slice A3 N c3) (List.replicate N false)) ∧ Aside0 (Below w.heap.size w wr))
  case atStart => exact ⟨rfl, ⟨Kd.R_below HO.out be_⟩, ⟨(bb_ HB.out)⟩⟩
  case round =>
   clear HO HB
   obtain ⟨rfl, HO, HB⟩ := hrel
   go_wp2
   go_ret
   exact ⟨_, rfl, by have h_ := HO.out; rw [HZ.out] at h_ ⊢; exact Kd.R_below h_ be_, (bb_ HB.out)⟩
 obtain ⟨g, cap, e3, hge, -, -⟩ := Kd.R_form h30 (by rw [List.length_replicate]; omega)
 rw [List.length_replicate] at e3
 subst e3
 have HO := ak_ (show Kd.bool.R 4 w30 w.heap.size (fun _ => True) (.slice (some ⟨g, 0, none⟩) N cap) (slices_Repeat_bool_bool.row N 0 x) from h30)
 have HG := ak_ hge
 have HZ := ak_ hz
 have hc00 := Kd.R_celln false h30 (0 : Int) (by decide) (by omega)
 have hcp : (Builtin.copy_ #[38, 38] 3 #[.slice (some ⟨g, 0, none⟩) N cap, .slice (some ad) 1 c0]).run Try.prog w30 = .ok (goInt 1) (w30.setCells g 0 [Value.bool x]) :=
  run_copy_cells w30 38 38 3 4 g 0 N cap ad 1 c0 [Value.bool x] Try.underlying38 hsz (by simp [Nat.min_def]; omega)
   (fun j v hj => by
    rcases j with _ | j
    ·obtain rfl := Option.some.inj hj
     exact (HB.out.cell (World.block_lt_of_cell? w _ HX.out)).trans HX.out
    ·simp at hj)
   (fun j hj => by
    obtain rfl : j = 0 := by simpa using hj
    have := hc00.1
    simp at this ⊢
    rw [this]; rfl)
   (fun j hj => by
    obtain rfl : j = 0 := by simpa using hj
    have := hc00.2
    simpa using this) (by intro v hv; obtain rfl := List.mem_singleton.mp hv; rfl)
 clear h30 hge hz hc00
 go_upto_region 8 with (fail)
 have hp1 := slices_Repeat_bool_bool.puts (w := w) HG.out 1 0 w30 (by have := HZ.out; omega) HO.out HB.out
 have n0_ := ak_ hp1.1
 have n1_ := ak_ hp1.2
 clear HO HB hp1 hcp
 have HO := n0_; have HB := n1_
 clear n0_ n1_
 change Aside0 (Kd.bool.R 4 (w30.setCells g 0 [Value.bool x]) w.heap.size (fun _ => True) (.slice (some ⟨g, 0, none⟩) N cap) (slices_Repeat_bool_bool.row N 1 x)) at HO
 change Aside0 (Below w.heap.size w (w30.setCells g 0 [Value.bool x])) at HB
 generalize hW8 : w30.setCells g 0 [Value.bool x] = W8 at HO HB ⊢
 clear hW8
 go_loopg [8] N (fun gg v8 wr => ∃ m : Nat, v8 = .int .i64 (m : Int) ∧ 1 ≤ m ∧ m ≤ N ∧ N - m ≤ gg ∧ Aside0 (Kd.bool.R 4 wr w.heap.size (fun _ => True) (.slice (some ⟨g, 0, none⟩) N cap) (slices_Repeat_bool_bool.row N m x)) ∧ Aside0 (Below w.heap.size w wr))
 case atStart => exact ⟨1, rfl, Nat.le_refl _, by have := HZ.out; omega, by omega, ⟨Kd.R_below HO.out be_⟩, ⟨(bb_ HB.out)⟩⟩
 case round =>
  clear HO HB
  obtain ⟨m, rfl, hm1, hmN, hg, HO, HB⟩ := hrel
  by_cases hlt : m < N
  ·have q1 : decide ((m : Int) < (N : Int)) = true := decide_eq_true (by omega)
   have q1n : decide (m < N) = true := decide_eq_true hlt
   have q1p : (m < N) = True := eq_true hlt
   have hcap := (Kd.R_reads' HO.out).2.1
   have h00 := fun j (hj : j < N) => Kd.R_celln false HO.out (j : Int) (by omega) (by omega)
   have b0 : (0 : Int) ≤ (m : Int) := by omega
   have b1 : (m : Int) ≤ (N : Int) := by omega
   have b2 : (m : Int) ≤ (cap : Int) := by omega
   have b3 : (N : Int) ≤ (cap : Int) := by omega
   have b1n : m ≤ N := by omega
   have b2n : m ≤ cap := by omega
   have b3n : N ≤ cap := by omega
   have b4 : (cap = m) = False := eq_false (by omega)
   have b5 : ((cap : Int) = (m : Int)) = False := eq_false (by omega)
   obtain ⟨q, hq⟩ : ∃ q, q = Nat.min m (N - m) := ⟨_, rfl⟩
   have hq1 : q ≤ m := by rw [hq]; exact Nat.min_le_left _ _
   have hq2' : q ≤ N - m := by rw [hq]; exact Nat.min_le_right _ _
   have hq2 : m + q ≤ N := by omega
   clear hq2'
   have hq3 : 1 ≤ q := by rw [hq]; exact Nat.le_min.2 ⟨hm1, by omega⟩
   have hw : IntKind.i64.wrap ((m : Int) + (q : Int)) = ((m + q : Nat) : Int) := by rw [IntWalk.i64_in _ ⟨by omega, by have := HN.out; omega⟩]; omega
   have hp1 := slices_Repeat_bool_bool.puts (w := w) HG.out q m wr.drew hq2 (Kd.R_drew HO.out) (b1_ HB.out)
   have hcp : (Builtin.copy_ #[38, 38] 3 #[.slice (some ⟨g, m, none⟩) (N - m) (cap - m), .slice (some ⟨g, 0, none⟩) m cap]).run Try.prog wr.drew = .ok (goInt (q : Int)) (wr.drew.setCells g m (List.replicate q (Value.bool x))) := by
    have h_ := run_copy_cells (P := Try.prog) wr.drew 38 38 3 4 g m (N - m) (cap - m) ⟨g, 0, none⟩ m cap (List.replicate q (Value.bool x)) Try.underlying38 hsz (by rw [List.length_replicate]; exact hq)
     (fun j v hj => by
      rw [List.getElem?_replicate] at hj
      by_cases hjq : j < q
      ·rw [if_pos hjq] at hj
       obtain rfl := Option.some.inj hj
       have e := (h00 j (by omega)).1
       rw [slices_Repeat_bool_bool.row_get (by omega), Int.toNat_natCast] at e
       rw [add_plain]
       simpa using e
      ·rw [if_neg hjq] at hj; exact absurd hj (by simp))
     (fun j hj => by
      rw [List.length_replicate] at hj
      have e := (h00 (m + j) (by omega)).1
      rw [Int.toNat_natCast] at e
      simp only [World.cell?_drew]
      rw [e]; rfl)
     (fun j hj => by
      rw [List.length_replicate] at hj
      have e := (h00 (m + j) (by omega)).2
      rw [Int.toNat_natCast] at e
      simpa using e) (by intro v hv; obtain rfl := List.eq_of_mem_replicate hv; rfl)
    rw [List.length_replicate] at h_
    exact h_
   have HQ := ak_ (And.intro hq3 (And.intro hg hlt))
   have HP1 := ak_ hp1
   clear hq hq1 hq3 h00 hp1 hcap hm1 hmN hg hlt
   try go_wp2
   refine start_ (n := 10) (S := fun _ => True) (ds := [9]) (mb_ 10 0) (by kernel_rfl) rfl rfl trivial (fun hHeld => ?_)
   refine pure_ (i := 0) (N := some 38) (v := ?_) (a' := ?_) (mb_ 10 1) rfl rfl (by kernel_rfl) (fun _ _ _ h => h) (Or.inl ⟨by rfl, ?_⟩) ?_ ?_
   rotate_left
   ·intro w'
    go_simp
    with_reducible rfl
   rotate_left
   ·simp only [Act.put, setIfInBounds_toArray, set_cons_zero, set_cons_succ, i64_w, i32_w]
    rfl
   refine pure_ (i := 1) (N := some 39) (v := ?_) (a' := ?_) (mb_ 10 3) rfl rfl (by kernel_rfl) (fun _ _ _ h => h) (Or.inl ⟨by rfl, ?_⟩) ?_ ?_
   rotate_left
   ·intro w'
    go_simp
    with_reducible rfl
   rotate_left
   ·simp only [Act.put, setIfInBounds_toArray, set_cons_zero, set_cons_succ, i64_w, i32_w]
    rfl
   refine pure_ (i := 2) (N := some 40) (v := ?_) (a' := ?_) (mb_ 10 7) rfl rfl (by kernel_rfl) (fun _ _ _ h => h) (Or.inl ⟨by rfl, ?_⟩) ?_ ?_
   rotate_left
   ·intro w'
    go_simp
    with_reducible rfl
   rotate_left
   ·simp only [Act.put, setIfInBounds_toArray, set_cons_zero, set_cons_succ, i64_w, i32_w]
    rfl
   refine pure_ (i := 3) (N := some 41) (v := ?_) (a' := ?_) (mb_ 10 15) rfl rfl (by kernel_rfl) (fun _ _ _ h => h) (Or.inl ⟨by rfl, ?_⟩) ?_ ?_
   rotate_left
   ·intro w'
    go_simp
    with_reducible rfl
   rotate_left
   ·simp only [Act.put, setIfInBounds_toArray, set_cons_zero, set_cons_succ, i64_w, i32_w]
    rfl
   refine pure_ (i := 4) (N := some 42) (v := ?_) (a' := ?_) (mb_ 10 31) rfl rfl (by kernel_rfl) (fun _ _ _ h => h) (Or.inl ⟨by rfl, ?_⟩) ?_ ?_
   rotate_left
   ·intro w'
    go_simp
    with_reducible rfl
   rotate_left
   ·simp only [Act.put, setIfInBounds_toArray, set_cons_zero, set_cons_succ, i64_w, i32_w]
    rfl
   refine pure_ (i := 5) (N := some 43) (v := ?_) (a' := ?_) (mb_ 10 63) rfl rfl (by kernel_rfl) (fun _ _ _ h => h) (Or.inl ⟨by rfl, ?_⟩) ?_ ?_
   rotate_left
   ·intro w'
    go_simp
    with_reducible rfl
   rotate_left
   ·simp only [Act.put, setIfInBounds_toArray, set_cons_zero, set_cons_succ, i64_w, i32_w]
    rfl
   refine pure_ (i := 6) (N := some 44) (v := ?_) (a' := ?_) (mb_ 10 127) rfl rfl (by kernel_rfl) (fun _ _ _ h => h) (Or.inl ⟨by rfl, ?_⟩) ?_ ?_
   rotate_left
   ·intro w'
    go_simp
    with_reducible rfl
   rotate_left
   ·simp only [Act.put, setIfInBounds_toArray, set_cons_zero, set_cons_succ, i64_w, i32_w]
    rfl
   refine one_ (i := 7) (N := some 45) (mb_ 10 255) rfl rfl (by kernel_rfl) (by decide) (fun K hK => ?_)
   refine value_ (w1 := ?_) (v := ?_) (by rfl) rfl ?_ ?_
   rotate_left 2
   ·go_simp
    constructor
    ·rfl
    ·rfl
   refine hK.out _ _ trivial (fun hHeld => ?_)
   clear hK K
   refine nm_ ?_
   refine pure_ (i := 8) (N := some 46) (v := ?_) (a' := ?_) (mb_ 10 511) rfl rfl (by kernel_rfl) (fun _ _ _ h => h) (Or.inl ⟨by rfl, ?_⟩) ?_ ?_
   rotate_left
   ·intro w'
    go_simp
    with_reducible rfl
   rotate_left
   ·simp only [Act.put, setIfInBounds_toArray, set_cons_zero, set_cons_succ, i64_w, i32_w]
    rfl
   refine pure_ (i := 9) (N := some 8) (v := ?_) (a' := ?_) (mb_ 10 1023) rfl rfl (by kernel_rfl) (fun _ _ _ h => h) (Or.inl ⟨by rfl, ?_⟩) ?_ ?_
   rotate_left
   ·intro w'
    go_simp
    with_reducible rfl
   rotate_left
   ·simp only [Act.put, setIfInBounds_toArray, set_cons_zero, set_cons_succ, i64_w, i32_w]
    rfl
   refine done_ (by kernel_rfl) ?_
   clear HO HB hcp
   have HO := ak_ HP1.out.1
   have HB := ak_ HP1.out.2
   clear HP1
   generalize wr.drew.setCells g m (List.replicate q (Value.bool x)) = W9 at HO HB ⊢
   try go_wp2
   go_roundg (N - (m + q))
   case measure => have := HQ.out; omega
   case rel => exact ⟨m + q, (ry_), by have := HQ.out; omega, hq2, Nat.le_refl _, ⟨Kd.R_below HO.out be_⟩, ⟨(bb_ HB.out)⟩⟩
  ·have q1 : decide ((m : Int) < (N : Int)) = false := decide_eq_false (by omega)
   have q1n : decide (m < N) = false := decide_eq_false hlt
   have q1p : (m < N) = False := eq_false hlt
   obtain rfl : m = N := by omega
   clear hlt hg hmN hm1
   go_wp2
   go_ret
   have e : slices_Repeat_bool_bool.row m m x = List.replicate m (List.headD [x] false) := by unfold slices_Repeat_bool_bool.row; rw [Nat.sub_self]; simp
   exact ⟨_, rfl, by have h_ := HO.out; rw [e] at h_; exact Kd.R_below h_ be_, (bb_ HB.out)⟩
def impl_allAt.f (a0 : Int) (a1 : Bool) : Option (List Bool × Bool) := (slices_Repeat_bool_bool.f (([a1] : List Bool)) a0).bind fun t398 => (some (t398, a1))
theorem impl_allAt.calls (a0 : Int) (a1 : Bool) (r1 : List Bool) (r2 : Bool) (w : World) (h : impl_allAt.f a0 a1 = some (r1, r2)) :
  Calls Try.prog 114 #[.int .i64 a0, .bool a1] w fun e w' => ∃ v0_ : Value, e = .returned (.agg #[v0_, .bool r2]) ∧ Kd.R Kd.bool 4 w' w.heap.size (fun _ => True) v0_ r1 ∧ Below w.heap.size w w' := by
 have hu115 := Try.underlying115
 have HB := ak_ (Below.refl w.heap.size w)
 have H : ((slices_Repeat_bool_bool.f (([a1] : List Bool)) a0).bind fun t398 => (some (t398, a1))) = some (r1, r2) := h
 clear h
 obtain ⟨y395, hy395⟩ : ∃ y_ : List Bool, y_ = (([a1] : List Bool)) := ⟨_, rfl⟩
 replace H : ((slices_Repeat_bool_bool.f y395 a0).bind fun t398 => (some (t398, a1))) = some (r1, r2) := by first | (rw [hy395]; exact H) | exact H
 have Ny395 := ak_ hy395
 clear hy395
 replace H := Option.bind_eq_some_iff.mp H
 obtain ⟨t398, A30, H⟩ := H
 replace H : (some (t398, a1)) = some (r1, r2) := H
 have A3 := ak_ A30
 clear A30
 simp only [Option.some.injEq, Prod.mk.injEq] at H
 obtain ⟨rfl, rfl⟩ := H
 go_enter Try.func114, Try.ntmps114
 go_wp2_with (first | ((with_reducible refine gate_dst (N := 4) rfl ?_); refine bx_ 4 #[.slice none 0 0, .bool false] 115 ?_; intro gb394 hg w4 hbox hb; have n0_ := ak_ (bs_ (bb_ HB.out) hb); have n1_ := ak_ (hbox); have n2_ := ak_ ((by rw [hg]; exact (bz_ (bb_ HB.out)) : w.heap.size ≤ gb394)); have n3_ := n2_; clear HB; have HB := n0_; have BK394 := n1_; have GW394 := n2_; have GE394 := n3_; clear n0_ n1_ n2_ n3_; clear hb hbox hg) | ((with_reducible refine gate_dst (N := 6) rfl ?_); refine Kd.R_lit Kd.bool _ 4 ?hg (N := 6) ?hd (xs := ([a1] : List Bool)) (inner := [.bool a1]) (ok := fun _ => True) (okp := fun _ => True) ?hr ?hp (fun _ hk => hk) trivial (Below.refl _ _) (Nat.le_refl _) (by simp) ?_; (case hd => rfl); (case hg => rfl); (case hr => go_simp <;> rfl); (case hp => exact (Reps.one (show Kd.M Kd.bool _ _ _ a1 [.bool a1] from rfl) (Reps.none _ _))); intro v396 w5 ho6 hb hg_ hnew_; clear hg_ hnew_; (first | rw [← Ny395.out] at ho6 | (simp only [Int.reduceToNat] at ho6; rw [← Ny395.out] at ho6)); have n0_ := ak_ (Kd.R_lower ho6 (bz_ bl_)); have n1_ := ak_ (blk_below (pk BK394.out) hb); have n2_ := ak_ (bs_ bl_ hb); clear BK394; clear HB; have HO397 := n0_; have BK394 := n1_; have HB := n2_; clear n0_ n1_ n2_; clear hb ho6; obtain ⟨Ao7, co7, eo7⟩ := Kd.R_slice HO397.out; subst eo7) | ((with_reducible refine gate_callee (f := 150) rfl ?_); refine goesL_ (some 8) rfl rfl Try.func150 (by kernel_rfl) rfl #[.slice Ao7 y395.length co7, .int .i64 a0] rfl (by first | rfl | (simp only [map_toArray, map_cons, map_nil]; try rfl)) ?_; (with_reducible refine (slices_Repeat_bool_bool.calls _ _ y395 a0 t398 _ ?side1 ?side2 A3.out).mono ?_); (case side1 => repeat (first | exact (Kd.R_reads' HO397.out).2.2 | (with_reducible refine Kd.C_alloc ?_ _) | (with_reducible refine Kd.C_drewN ?_ _) | (with_reducible refine Kd.C_drew ?_))); (case side2 => exact (Kd.R_reads' HO397.out).2.1); rintro e w8 ⟨v399, rfl, ho0, hb⟩; refine ⟨_, rfl, ?_⟩; have n0_ := ak_ (Kd.R_elder' (Kd.pR HO397.out) (Kd.R_base ho0) hb); have n1_ := ak_ (Kd.R_lower (Kd.R_new' ho0 (Kd.R_lt (Kd.pR HO397.out))) (bz_ bl_)); have n2_ := ak_ (blk_below (pk BK394.out) hb); have n3_ := ak_ (bs_ bl_ hb); clear HO397; clear BK394; clear HB; have HO397 := n0_; have HO400 := n1_; have BK394 := n2_; have HB := n3_; clear n0_ n1_ n2_ n3_; (try clear hb); (try clear hb2); (try clear hk); (try clear hi); (try clear ho0); obtain ⟨Ao9, co9, eo9⟩ := Kd.R_slice HO400.out; subst eo9; have hcz10_0 : w8.cell? ⟨gb394, 0, none⟩ = some (.slice none 0 0) := (blk_cell BK394.out 0).trans rfl; have hcz10_1 : w8.cell? ⟨gb394, 1, none⟩ = some (.bool false) := (blk_cell BK394.out 1).trans rfl; have hfz10_0 := blk_frozen BK394.out 0; have hfz10_1 := blk_frozen BK394.out 1))
 refine bodyPost_ret (results_cell_row rfl _ _ gb394 115 #[.slice Ao9 t398.length co9, .bool a1] (0, 0) _ rfl (by (with_reducible repeat (first | refine kN_ ?_ _ | refine k1_ ?_ | refine ka_ ?_ _)); refine blk_put (cs := #[.slice Ao9 t398.length co9, .bool false]) ?_ 1 _ rfl; (with_reducible repeat (first | refine kN_ ?_ _ | refine k1_ ?_ | refine ka_ ?_ _)); refine blk_put (cs := #[.slice none 0 0, .bool false]) ?_ 0 _ rfl; exact pk BK394.out) Try.underlying115 rfl (by kernel_rfl)) rfl ?_
 exact ⟨_, rx_, by (with_reducible repeat (first | apply Kd.R_alloc | apply Kd.R_drewN | apply Kd.R_drew)); exact Kd.R_mono (Kd.R_far (p := ⟨gb394, 1, none⟩) (Kd.R_far (p := ⟨gb394, 0, none⟩) (Kd.R_types HO400.out BK394.out (by decide)) (fun _ hk => hk.2) (.slice Ao9 t398.length co9)) (fun _ hk => hk.2) (.bool a1)) (fun _ hk => trivial), by repeat (first | exact HB.out | apply ba_ | apply bN_ | apply b1_ | refine below_set ?_ GE394.out)⟩
def impl_State_side.l0 : Nat → Bool → List Int → List Bool → Int → Int → Option (List Int)
 | 0, _, _, _, _, _ => none
 | k + 1, x1, x5, x10, x11, x12 => if x12 < x11 then (if 0 ≤ x12 then (if x12 < (x10.length : Int) then (if ((rdOf false x10 x12) == x1) = true then (if x5.length < 17592186044416 then (impl_State_side.l0 k x1 (x5 ++ [x12]) x10 x11 (wrap64 (x12 + 1))) else (none)) else (impl_State_side.l0 k x1 x5 x10 x11 (wrap64 (x12 + 1)))) else (none)) else (none)) else (some x5)
def impl_State_side.f (k : Nat) (l0_0 : List Bool) (a0_1 : Bool) (a1 : Bool) : Option (List Int) := impl_State_side.l0 k a1 (([] : List Int)) l0_0 (l0_0.length : Int) 0
theorem impl_State_side.calls (k : Nat) (A0_0 : Option Addr) (c0_0 : Nat) (l0_0 : List Bool) (a0_1 : Bool) (a1 : Bool) (r : List Int) (w : World) (hr0_0 : Kd.C Kd.bool w A0_0 l0_0.length l0_0) (hc0_0 : l0_0.length ≤ c0_0) (h : impl_State_side.f k l0_0 a0_1 a1 = some r) :
  Calls Try.prog 115 #[.agg #[.slice A0_0 l0_0.length c0_0, .bool a0_1], .bool a1] w fun e w' => ∃ v0_ : Value, e = .returned (v0_) ∧ Kd.R (Kd.int .i64) 3 w' w.heap.size (fun _ => True) v0_ r ∧ Below w.heap.size w w' := by
 have hu115 := Try.underlying115
 have HR0_0 := ak_ hr0_0
 have HC0_0 := ak_ hc0_0
 clear hr0_0 hc0_0
 have HB := ak_ (Below.refl w.heap.size w)
 have H : (impl_State_side.l0 k a1 (([] : List Int)) l0_0 (l0_0.length : Int) 0) = some r := h
 clear h
 obtain ⟨y402, hy402⟩ : ∃ y_ : List Int, y_ = (([] : List Int)) := ⟨_, rfl⟩
 replace H : (impl_State_side.l0 k a1 y402 l0_0 (l0_0.length : Int) 0) = some r := by first | (rw [hy402]; exact H) | exact H
 have Ny402 := ak_ hy402
 clear hy402
 have H' := ak_ H
 clear H
 go_enter Try.func115, Try.ntmps115
 go_wp2_with (first | ((with_reducible refine gate_dst (N := 2) rfl ?_); refine bx_ 2 #[.slice A0_0 l0_0.length c0_0, .bool a0_1] 115 ?_; intro gb401 hg w3 hbox hb; have n0_ := ak_ (bs_ (bb_ HB.out) hb); have n1_ := ak_ (hbox); have n2_ := ak_ ((by rw [hg]; exact (bz_ (bb_ HB.out)) : w.heap.size ≤ gb401)); have n3_ := n2_; clear HB; have HB := n0_; have BK401 := n1_; have GW401 := n2_; have GE401 := n3_; clear n0_ n1_ n2_ n3_; clear hb hbox hg) | ((with_reducible refine gate_dst (N := 8) rfl ?_); refine Kd.R_lit (Kd.int .i64) _ 3 ?hg (N := 8) ?hd (xs := ([] : List Int)) (inner := []) (ok := fun _ => True) (okp := fun _ => True) ?hr ?hp (fun _ hk => hk) trivial (Below.refl _ _) (Nat.le_refl _) (by simp) ?_; (case hd => rfl); (case hg => rfl); (case hr => go_simp <;> rfl); (case hp => exact (Reps.none _ _)); intro v403 w4 ho5 hb hg_ hnew_; clear hg_ hnew_; (first | rw [← Ny402.out] at ho5 | (simp only [Int.reduceToNat] at ho5; rw [← Ny402.out] at ho5)); have n0_ := ak_ (Kd.R_lower ho5 (bz_ bl_)); have n1_ := ak_ (blk_below (pk BK401.out) hb); have n2_ := ak_ (bs_ bl_ hb); clear BK401; clear HB; have HO404 := n0_; have BK401 := n1_; have HB := n2_; clear n0_ n1_ n2_; clear hb ho5; have hcz6_0 : w4.cell? ⟨gb401, 0, none⟩ = some (.slice A0_0 l0_0.length c0_0) := (blk_cell BK401.out 0).trans rfl; have hcz6_1 : w4.cell? ⟨gb401, 1, none⟩ = some (.bool a0_1) := (blk_cell BK401.out 1).trans rfl; have hfz6_0 := blk_frozen BK401.out 0; have hfz6_1 := blk_frozen BK401.out 1))
 go_loopg [5, 12] k (fun kq v5 v12 w' => ∃ (x5_1 : List Int) (x12_1 : Int), v12 = .int .i64 x12_1 ∧ Aside0 (impl_State_side.l0 kq a1 x5_1 l0_0 (l0_0.length : Int) x12_1 = some r) ∧ Aside0 (kq ≤ k) ∧ Aside0 (Kd.R (Kd.int .i64) 3 w' w.heap.size (fun _ => True) v5 x5_1) ∧ Aside0 (w'.heap[gb401]? = some (.cells #[(.slice A0_0 l0_0.length c0_0), .bool a0_1] 115 (0, 0))) ∧ Aside0 (Below w.heap.size w w'))
 case atStart => exact ⟨(y402), (0), (ry_), H', ⟨Nat.le_refl _⟩, ⟨Kd.pR HO404.out⟩, ⟨pk BK401.out⟩, ⟨by repeat (first | exact HB.out | apply ba_ | apply bN_ | apply b1_ | refine below_set ?_ GE401.out)⟩⟩
 case round =>
  clear H'
  try clear c1
  try clear p2
  try clear hcz6_0
  try clear hcz6_1
  try clear hfz6_0
  try clear hfz6_1
  obtain ⟨x5_1, x12_1, rfl, HA, HK1, HO_5, BK401, HB⟩ := hrel
  cases gk with
  | zero => exact absurd HA.out (by simp [impl_State_side.l0])
  | succ k1 =>
   have H := HA.out
   clear HA
   simp only [impl_State_side.l0] at H
   by_cases c7 : x12_1 < (l0_0.length : Int)
   ·
    rw [if_pos c7] at H
    have c7b0 : decide (x12_1 < (l0_0.length : Int)) = true := decide_eq_true c7
    clear c7
    by_cases c8 : 0 ≤ x12_1
    ·
     rw [if_pos c8] at H
     have c8b0 : decide (0 ≤ x12_1) = true := decide_eq_true c8
     clear c8
     by_cases c9 : x12_1 < (l0_0.length : Int)
     ·
      rw [if_pos c9] at H
      have c9b0 : decide (x12_1 < (l0_0.length : Int)) = true := decide_eq_true c9
      clear c9
      by_cases c10 : ((rdOf false l0_0 x12_1) == a1) = true
      ·
       rw [if_pos c10] at H
       have c10b0 : ((rdOf false l0_0 x12_1) == a1) = true := c10
       (try (have c10b1 : decide ((rdOf false l0_0 x12_1) = a1) = true := by simpa using c10))
       (try (have c10b2 : ((rdOf false l0_0 x12_1) == a1) = true := by simpa using c10))
       clear c10
       by_cases c11 : x5_1.length < 17592186044416
       ·
        rw [if_pos c11] at H
        have LMc11 := ak_ c11
        clear c11
        obtain ⟨y406, hy406⟩ : ∃ y_ : List Int, y_ = (x5_1 ++ [x12_1]) := ⟨_, rfl⟩
        replace H : (impl_State_side.l0 k1 a1 y406 l0_0 (l0_0.length : Int) (wrap64 (x12_1 + 1))) = some r := by first | (rw [hy406]; exact H) | exact H
        have Ny406 := ak_ hy406
        clear hy406
        have H' := ak_ H
        clear H
        have p405 : 0 ≤ (x12_1 : Int) := odt_ (by assumption)
        have q405 : x12_1 < (l0_0.length : Int) := odt_ (by assumption)
        obtain ⟨ad405, e405, hx405_0⟩ := Kd.at_bool HR0_0.out x12_1 p405 q405
        cases e405
        try replace hx405_0 := (HB.out.cell (World.block_lt_of_cell? w _ hx405_0)).trans hx405_0
        replace p405 := eq_true p405
        replace q405 := eq_true q405
        go_wp2_with (first | ((with_reducible refine gate_builtin (b := .append) (xs := #[.tmp 20, .tmp 22]) rfl ?_); at_builtin; refine Kd.R_append (Kd.int .i64) (w0 := w) w.heap.size rfl (.tmp 20) (.tmp 22) 29 3 (.int .i64 0) 8 rfl Try.underlying29 info3 rfl (by decide) (by omega) u5 x5_1 x12_1 [.int .i64 x12_1] (fun _ => True) (fun _ => False) rfl rfl ?aP (fun _ hk => hk.elim) ?aF ?aO ?aB ?aS ?aL ?_; (case aP => exact rfl); (case aB => exact bl_); (case aF => exact (fun _ _ => trivial)); (case aO => exact (Kd.pR HO_5.out)); (case aS => exact (bz_ bl_)); (case aL => have := LMc11.out; omega); intro v407 w12 ho hb hg hat; rw [← Ny406.out] at ho; have n0_ := ak_ (blk_grown (pk BK401.out) hg (Kd.R_ne HO_5.out BK401.out (by decide))); have n1_ := ak_ (hb); have n2_ := ak_ (ho); clear BK401; clear HB; clear HO_5; have BK401 := n0_; have HB := n1_; have HO408 := n2_; clear n0_ n1_ n2_; clear ho hb hg hat))
        go_roundg k1
        case measure => have := HK1.out; omega
        case rel => exact ⟨(y406), (wrap64 (x12_1 + 1)), (ry_), H', ⟨by have := HK1.out; omega⟩, ⟨Kd.pR HO408.out⟩, ⟨pk BK401.out⟩, ⟨by repeat (first | exact HB.out | apply ba_ | apply bN_ | apply b1_ | refine below_set ?_ GE401.out)⟩⟩
       ·
        rw [if_neg c11] at H
        exact absurd H (by simp)
      ·
       rw [if_neg c10] at H
       have c10b0 : ((rdOf false l0_0 x12_1) == a1) = false := by simpa using c10
       (try (have c10b1 : decide ((rdOf false l0_0 x12_1) = a1) = false := by simpa using c10))
       (try (have c10b2 : ((rdOf false l0_0 x12_1) == a1) = false := by simpa using c10))
       (try (have c10b3 : ¬ ((rdOf false l0_0 x12_1) = a1) := by simpa using c10))
       clear c10
       have H' := ak_ H
       clear H
       have p405 : 0 ≤ (x12_1 : Int) := odt_ (by assumption)
       have q405 : x12_1 < (l0_0.length : Int) := odt_ (by assumption)
       obtain ⟨ad405, e405, hx405_0⟩ := Kd.at_bool HR0_0.out x12_1 p405 q405
       cases e405
       try replace hx405_0 := (HB.out.cell (World.block_lt_of_cell? w _ hx405_0)).trans hx405_0
       replace p405 := eq_true p405
       replace q405 := eq_true q405
       go_wp2
       go_roundg k1
       case measure => have := HK1.out; omega
       case rel => exact ⟨(x5_1), (wrap64 (x12_1 + 1)), (ry_), H', ⟨by have := HK1.out; omega⟩, ⟨Kd.pR HO_5.out⟩, ⟨pk BK401.out⟩, ⟨by repeat (first | exact HB.out | apply ba_ | apply bN_ | apply b1_ | refine below_set ?_ GE401.out)⟩⟩
     ·
      rw [if_neg c9] at H
      exact absurd H (by simp)
    ·
     rw [if_neg c8] at H
     exact absurd H (by simp)
   ·
    rw [if_neg c7] at H
    have c7b0 : decide (x12_1 < (l0_0.length : Int)) = false := decide_eq_false c7
    clear c7
    obtain rfl := Option.some.inj H
    go_wp2
    go_ret
    exact ⟨_, rx_, by (with_reducible repeat (first | apply Kd.R_alloc | apply Kd.R_drewN | apply Kd.R_drew)); exact HO_5.out, by repeat (first | exact HB.out | apply ba_ | apply bN_ | apply b1_ | refine below_set ?_ GE401.out)⟩
def impl_Crew_load.l0 : Nat → Int → List Int → Int → Int → List Int → List Bool → Int → Option (Int)
 | 0, _, _, _, _, _, _, _ => none
 | k + 1, x5, x8, x9, x10, x410000, x410001, x410002 => if x10 < x9 then (if 0 ≤ x10 then (if x10 < (x8.length : Int) then (if 0 ≤ (rd x8 x10) then (if (rd x8 x10) < (x410000.length : Int) then (impl_Crew_load.l0 k (wrap64 (x5 + (rd x410000 (rd x8 x10)))) x8 x9 (wrap64 (x10 + 1)) x410000 x410001 x410002) else (none)) else (none)) else (none)) else (none)) else (some x5)
def impl_Crew_load.f (k : Nat) (l0_0 : List Int) (l0_1 : List Bool) (a0_2 : Int) (l1 : List Int) : Option (Int) := impl_Crew_load.l0 k 0 l1 (l1.length : Int) 0 l0_0 l0_1 a0_2
theorem impl_Crew_load.calls (k : Nat) (A0_0 : Option Addr) (c0_0 : Nat) (l0_0 : List Int) (A0_1 : Option Addr) (c0_1 : Nat) (l0_1 : List Bool) (a0_2 : Int) (A1 : Option Addr) (c1 : Nat) (l1 : List Int) (r : Int) (w : World) (hr0_0 : Kd.C (Kd.int .i64) w A0_0 l0_0.length l0_0) (hc0_0 : l0_0.length ≤ c0_0) (hr0_1 : Kd.C Kd.bool w A0_1 l0_1.length l0_1) (hc0_1 : l0_1.length ≤ c0_1) (hr1 : Kd.C (Kd.int .i64) w A1 l1.length l1) (hc1 : l1.length ≤ c1) (h : impl_Crew_load.f k l0_0 l0_1 a0_2 l1 = some r) :
  Calls Try.prog 117 #[.agg #[.slice A0_0 l0_0.length c0_0, .slice A0_1 l0_1.length c0_1, .int .i64 a0_2], .slice A1 l1.length c1] w fun e w' => e = .returned (.int .i64 r) ∧ Below w.heap.size w w' := by
 have hu43 := Try.underlying43
 have HR0_0 := ak_ hr0_0
 have HC0_0 := ak_ hc0_0
 clear hr0_0 hc0_0
 have HR0_1 := ak_ hr0_1
 have HC0_1 := ak_ hc0_1
 clear hr0_1 hc0_1
 have HR1 := ak_ hr1
 have HC1 := ak_ hc1
 clear hr1 hc1
 have HB := ak_ (Below.refl w.heap.size w)
 have H : (impl_Crew_load.l0 k 0 l1 (l1.length : Int) 0 l0_0 l0_1 a0_2) = some r := h
 clear h
 have H' := ak_ H
 clear H
 go_enter Try.func117, Try.ntmps117
 go_wp2_with (first | ((with_reducible refine gate_dst (N := 2) rfl ?_); refine bx_ 2 #[.slice A0_0 l0_0.length c0_0, .slice A0_1 l0_1.length c0_1, .int .i64 a0_2] 43 ?_; intro gb409 hg w3 hbox hb; have n0_ := ak_ (bs_ (bb_ HB.out) hb); have n1_ := ak_ (hbox); have n2_ := ak_ ((by rw [hg]; exact (bz_ (bb_ HB.out)) : w.heap.size ≤ gb409)); have n3_ := n2_; clear HB; have HB := n0_; have BK409 := n1_; have GW409 := n2_; have GE409 := n3_; clear n0_ n1_ n2_ n3_; clear hb hbox hg))
 go_loopg [5, 10] k (fun kq v5 v10 w' => ∃ (x5_1 : Int) (x10_1 : Int), v5 = .int .i64 x5_1 ∧ v10 = .int .i64 x10_1 ∧ Aside0 (impl_Crew_load.l0 kq x5_1 l1 (l1.length : Int) x10_1 l0_0 l0_1 a0_2 = some r) ∧ Aside0 (kq ≤ k) ∧ Aside0 (w'.heap[gb409]? = some (.cells #[(.slice A0_0 l0_0.length c0_0), (.slice A0_1 l0_1.length c0_1), .int .i64 a0_2] 43 (0, 0))) ∧ Aside0 (Below w.heap.size w w'))
 case atStart => exact ⟨(0), (0), (ry_), (ry_), H', ⟨Nat.le_refl _⟩, ⟨pk BK409.out⟩, ⟨by repeat (first | exact HB.out | apply ba_ | apply bN_ | apply b1_ | refine below_set ?_ GE409.out)⟩⟩
 case round =>
  clear H'
  try clear c1
  try clear p2
  obtain ⟨x5_1, x10_1, rfl, rfl, HA, HK1, BK409, HB⟩ := hrel
  cases gk with
  | zero => exact absurd HA.out (by simp [impl_Crew_load.l0])
  | succ k1 =>
   have H := HA.out
   clear HA
   simp only [impl_Crew_load.l0] at H
   by_cases c4 : x10_1 < (l1.length : Int)
   ·
    rw [if_pos c4] at H
    have c4b0 : decide (x10_1 < (l1.length : Int)) = true := decide_eq_true c4
    clear c4
    by_cases c5 : 0 ≤ x10_1
    ·
     rw [if_pos c5] at H
     have c5b0 : decide (0 ≤ x10_1) = true := decide_eq_true c5
     clear c5
     by_cases c6 : x10_1 < (l1.length : Int)
     ·
      rw [if_pos c6] at H
      have c6b0 : decide (x10_1 < (l1.length : Int)) = true := decide_eq_true c6
      clear c6
      by_cases c7 : 0 ≤ (rd l1 x10_1)
      ·
       rw [if_pos c7] at H
       have c7b0 : decide (0 ≤ (rd l1 x10_1)) = true := decide_eq_true c7
       clear c7
       by_cases c8 : (rd l1 x10_1) < (l0_0.length : Int)
       ·
        rw [if_pos c8] at H
        have c8b0 : decide ((rd l1 x10_1) < (l0_0.length : Int)) = true := decide_eq_true c8
        clear c8
        have H' := ak_ H
        clear H
        have p410 : 0 ≤ (x10_1 : Int) := odt_ (by assumption)
        have q410 : x10_1 < (l1.length : Int) := odt_ (by assumption)
        obtain ⟨ad410, e410, hx410_0⟩ := Kd.at_int HR1.out x10_1 p410 q410
        cases e410
        try replace hx410_0 := (HB.out.cell (World.block_lt_of_cell? w _ hx410_0)).trans hx410_0
        replace p410 := eq_true p410
        replace q410 := eq_true q410
        have hcz9_0 : wr.cell? ⟨gb409, 0, none⟩ = some (.slice A0_0 l0_0.length c0_0) := (blk_cell BK409.out 0).trans rfl
        have hcz9_1 : wr.cell? ⟨gb409, 1, none⟩ = some (.slice A0_1 l0_1.length c0_1) := (blk_cell BK409.out 1).trans rfl
        have hcz9_2 : wr.cell? ⟨gb409, 2, none⟩ = some (.int .i64 a0_2) := (blk_cell BK409.out 2).trans rfl
        have hfz9_0 := blk_frozen BK409.out 0
        have hfz9_1 := blk_frozen BK409.out 1
        have hfz9_2 := blk_frozen BK409.out 2
        have p411 : 0 ≤ ((rd l1 x10_1) : Int) := odt_ (by assumption)
        have q411 : (rd l1 x10_1) < (l0_0.length : Int) := odt_ (by assumption)
        obtain ⟨ad411, e411, hx411_0⟩ := Kd.at_int HR0_0.out (rd l1 x10_1) p411 q411
        cases e411
        try replace hx411_0 := (HB.out.cell (World.block_lt_of_cell? w _ hx411_0)).trans hx411_0
        replace p411 := eq_true p411
        replace q411 := eq_true q411
        go_wp2
        go_roundg k1
        case measure => have := HK1.out; omega
        case rel => exact ⟨(wrap64 (x5_1 + (rd l0_0 (rd l1 x10_1)))), (wrap64 (x10_1 + 1)), (ry_), (ry_), H', ⟨by have := HK1.out; omega⟩, ⟨pk BK409.out⟩, ⟨by repeat (first | exact HB.out | apply ba_ | apply bN_ | apply b1_ | refine below_set ?_ GE409.out)⟩⟩
       ·
        rw [if_neg c8] at H
        exact absurd H (by simp)
      ·
       rw [if_neg c7] at H
       exact absurd H (by simp)
     ·
      rw [if_neg c6] at H
      exact absurd H (by simp)
    ·
     rw [if_neg c5] at H
     exact absurd H (by simp)
   ·
    rw [if_neg c4] at H
    have c4b0 : decide (x10_1 < (l1.length : Int)) = false := decide_eq_false c4
    clear c4
    obtain rfl := Option.some.inj H
    go_wp2
    go_ret
    exact ⟨rx_, by repeat (first | exact HB.out | apply ba_ | apply bN_ | apply b1_ | refine below_set ?_ GE409.out)⟩
end Go.Proofs.Ythkchdfkeieabaa.QGr
