/- Contracts of functions of the given program, walked: each call returns what its Lean function says. Conditions: those that stand at each theorem. (Written by a program of this session.) -/
import Derived.Test.YthkchdfkeieabaaQGrx0
import Derived.Test.YthkchdfkeieabaaQGrx1
import Derived.Test.YthkchdfkeieabaaQGrx12
import Derived.Test.YthkchdfkeieabaaQGrx18
import Derived.Test.YthkchdfkeieabaaQGrx19
namespace Go.Proofs.Ythkchdfkeieabaa.QGr
open Go.RowKit Go.Proofs.YthkchdfkeieabaaW.PrintWords Go.Proofs.YthkchdfkeieabaaW.PrintLast Go.Proofs.YthkchdfkeieabaaW.PrintMore
open List (setIfInBounds_toArray set_cons_zero set_cons_succ map_toArray map_cons map_nil)
attribute [local go_sem] max2_int min2_int max_two min_two max_three min_three max_four min_four
set_option linter.unusedVariables false
set_option maxHeartbeats 8000000
set_option maxRecDepth 100000
set_option linter.unusedSimpArgs false
def laws_FnExactFirstOfCrew.f (k : Nat) (ws : List Int) (rs : List Bool) (most : Int) : Option Bool := (laws_szCrew.f ws rs most 1048576).bind fun t => if t < 0 then some true else
 ((laws_toCrew.f k ws rs most).bind fun x => (spec_FirstOfCrew.f k x.1 x.2.1 x.2.2).bind fun s => (impl_FirstOfCrew.f k x.1 x.2.1 x.2.2).bind fun g => if g = s then ((laws_eqIntSS.f k s.1 s.1).bind fun t1 => if t1 = true then ((laws_eqCrew.f k x.1 x.2.1 x.2.2 x.1 x.2.1 x.2.2).bind fun t2 => if t2 = true then
  ((laws_markCrew.f k x.1 x.2.1 x.2.2 1).bind fun mx => if mx.1 < 0 then none else ((laws_markIntSS.f k s.1 1).bind fun m => (laws_heldIntSS.f k m.2 1).bind fun q => if q < 0 then none else if q = m.1 then some true else none)) else none) else none) else none)
def laws_FnExactFirstOfCrew.T10 : Bool × List (List Nat × List Nat) := (true, [([], []), ([], []), ([1], [1]), ([0, 2, 2], [0, 2]), ([3], [3])])
def laws_FnExactFirstOfCrew.B10 : List Nat := [0, 0, 2, 7, 15]
theorem laws_FnExactFirstOfCrew.T10_ : rtab .any (opsOf Try.f7 10) = laws_FnExactFirstOfCrew.T10 := by kernel_rfl
theorem laws_FnExactFirstOfCrew.B10_ : waitsOk laws_FnExactFirstOfCrew.T10.2 laws_FnExactFirstOfCrew.B10 = true := by kernel_rfl
theorem laws_FnExactFirstOfCrew.calls (k : Nat) (Aw : Option Addr) (cw : Nat) (ws : List Int) (Ar : Option Addr) (cr : Nat) (rs : List Bool) (most : Int) (r : Bool) (w : World) (hw : Kd.C (Kd.int .i64) w Aw ws.length ws) (hcw : ws.length ≤ cw) (hr : Kd.C Kd.bool w Ar rs.length rs) (hcr : rs.length ≤ cr) (h : laws_FnExactFirstOfCrew.f k ws rs most = some r) :
  Calls Try.prog 7 #[.agg #[.slice Aw ws.length cw, .slice Ar rs.length cr, .int .i64 most]] w fun e w' => e = .returned (.bool r) ∧ Below w.heap.size w w' := by
 have hu1 := Try.underlying40
 have hu2 := Try.underlying43
 unfold laws_FnExactFirstOfCrew.f at h
 obtain ⟨t, A20, h⟩ := Option.bind_eq_some_iff.mp h
 have A2 := ak_ fun (W : World) (hb : Below w.heap.size w W) => laws_szCrew.calls Aw cw ws Ar cr rs most 1048576 t W (Kd.C_below hw hb) hcw (Kd.C_below hr hb) hcr A20
 have HB := ak_ (Below.refl w.heap.size w)
 by_cases c3 : t < 0
 ·rw [if_pos c3] at h
  have c3b0 : decide (t < 0) = true := decide_eq_true c3
  obtain rfl := Option.some.inj h
  clear c3 h hw hcw hr hcr A20
  go_enter Try.func7, Try.ntmps7
  go_wp2_with (first | ((with_reducible refine gate_dst (N := 1) rfl ?_); refine bx_ 1 #[.slice Aw ws.length cw, .slice Ar rs.length cr, .int .i64 most] 40 ?_; intro gb1 hg w1 hbox hb; have nb_ := ak_ (bs_ (bb_ HB.out) hb); have nc_ := ak_ hbox; have nd_ := ak_ ((by rw [hg]; exact (bz_ (bb_ HB.out)) : w.heap.size ≤ gb1)); clear HB hb hbox hg; have HB := nb_; have BK1 := nc_; have GE1 := nd_; clear nb_ nc_ nd_; have hz1_0 := (blk_cell BK1.out 0); have hf1_0 := (blk_frozen BK1.out 0); simp at hz1_0; have hz1_1 := (blk_cell BK1.out 1); have hf1_1 := (blk_frozen BK1.out 1); simp at hz1_1; have hz1_2 := (blk_cell BK1.out 2); have hf1_2 := (blk_frozen BK1.out 2); simp at hz1_2; skip) | (go_at_call 18; (refine (A2.out _ (bb_ HB.out)).mono ?_); rintro e w20 ⟨rfl, hb⟩; have n0_ := ak_ (blk_below (pk BK1.out) hb); have nb_ := ak_ (bs_ (bb_ HB.out) hb); clear BK1 HB hb; have BK1 := n0_; have HB := nb_; clear nb_ n0_; have hq1_0 := (blk_cell BK1.out 0); simp at hq1_0; have hq1_1 := (blk_cell BK1.out 1); simp at hq1_1; have hq1_2 := (blk_cell BK1.out 2); simp at hq1_2))
  go_ret
  exact ⟨rfl, (bb_ HB.out)⟩
 rw [if_neg c3] at h
 have c3b0 : decide (t < 0) = false := decide_eq_false c3
 clear c3
 obtain ⟨⟨x0, x1, x2⟩, A70, h⟩ := Option.bind_eq_some_iff.mp h
 obtain ⟨⟨s1, s2⟩, A80, h⟩ := Option.bind_eq_some_iff.mp h
 obtain ⟨g, A100, h⟩ := Option.bind_eq_some_iff.mp h
 dsimp only at A80 A100 h
 by_cases hg : g = (s1, s2)
 rotate_left
 ·rw [if_neg hg] at h; exact absurd h (by simp)
 rw [if_pos hg] at h
 subst hg
 obtain ⟨t1, A260, h⟩ := Option.bind_eq_some_iff.mp h
 by_cases ht : t1 = true
 rotate_left
 ·rw [if_neg ht] at h; exact absurd h (by simp)
 rw [if_pos ht] at h
 subst ht
 obtain ⟨t2, A340, h⟩ := Option.bind_eq_some_iff.mp h
 by_cases ht : t2 = true
 rotate_left
 ·rw [if_neg ht] at h; exact absurd h (by simp)
 rw [if_pos ht] at h
 subst ht
 obtain ⟨⟨m1, m2, m3⟩, A360, h⟩ := Option.bind_eq_some_iff.mp h
 dsimp only at h
 by_cases c5 : m1 < 0
 ·rw [if_pos c5] at h; exact absurd h (by simp)
 rw [if_neg c5] at h
 have c5b0 : decide (m1 < 0) = false := decide_eq_false c5
 clear c5
 obtain ⟨⟨m, l'⟩, A60, h⟩ := Option.bind_eq_some_iff.mp h
 obtain ⟨q, A90, h⟩ := Option.bind_eq_some_iff.mp h
 dsimp only at A90 h
 by_cases c6 : q < 0
 ·rw [if_pos c6] at h; exact absurd h (by simp)
 rw [if_neg c6] at h
 have c6b0 : decide (q < 0) = false := decide_eq_false c6
 clear c6
 by_cases hm : q = m
 rotate_left
 ·rw [if_neg hm] at h; exact absurd h (by simp)
 rw [if_pos hm] at h
 obtain rfl := Option.some.inj h
 have hm0 : (q == m) = true := beq_iff_eq.mpr hm
 have hm1 : (q != m) = false := bne_eq_false_iff_eq.mpr hm
 clear hm h
 have hok1 : (s2 != s2) = false := by simp
 have hok0 : (s2 == s2) = true := by simp
 have A7 := ak_ fun (W : World) (hb : Below w.heap.size w W) => laws_toCrew.calls k Aw cw ws Ar cr rs most x0 x1 x2 W (Kd.C_below hw hb) hcw (Kd.C_below hr hb) hcr A70
 have A8 := ak_ fun (W : World) A0 c0 A1 c1 h1 h2 h3 => spec_FirstOfCrew.calls k (fun _ => True) A0 c0 x0 A1 c1 x1 x2 s1 s2 W h1 h2 h3 A80
 have A10 := ak_ fun (W : World) A0 c0 A1 c1 h1 h2 h3 h4 => impl_FirstOfCrew.calls k A0 c0 x0 A1 c1 x1 x2 s1 s2 W h1 h2 h3 h4 A100
 have A26 := ak_ fun W A c A' c' h1 h2 h3 h4 => laws_eqIntSS.calls k A c s1 A' c' s1 true W h1 h2 h3 h4 A260
 have A34 := ak_ fun W A0 c0 A1 c1 A'0 c'0 A'1 c'1 h1 h2 h3 h4 h5 h6 h7 h8 => laws_eqCrew.calls k A0 c0 x0 A1 c1 x1 x2 A'0 c'0 x0 A'1 c'1 x1 x2 true W h1 h2 h3 h4 h5 h6 h7 h8 A340
 have A36 := ak_ fun P0 u0 P1 u1 w0 W h1 h2 h3 => laws_markCrew.calls k P0 u0 x0 P1 u1 x1 x2 1 m1 m2 m3 w0 W h1 h2 h3 A360
 have A6 := ak_ fun P_ u w0 W h1 h2 => laws_markIntSS.calls k P_ u s1 1 m l' w0 W h1 h2 A60
 have A9 := ak_ fun W A c h1 h2 => laws_heldIntSS.calls k A c l' 1 q W h1 h2 A90
 clear A20 A70 A80 A100 A260 A340 A360 A60 A90 hw hcw hr hcr
 go_enter Try.func7, Try.ntmps7
 go_upto_region 5 with (first | ((with_reducible refine gate_dst (N := 1) rfl ?_); refine bx_ 1 #[.slice Aw ws.length cw, .slice Ar rs.length cr, .int .i64 most] 40 ?_; intro gb1 hg w1 hbox hb; have nb_ := ak_ (bs_ (bb_ HB.out) hb); have nc_ := ak_ hbox; have nd_ := ak_ ((by rw [hg]; exact (bz_ (bb_ HB.out)) : w.heap.size ≤ gb1)); clear HB hb hbox hg; have HB := nb_; have BK1 := nc_; have GE1 := nd_; clear nb_ nc_ nd_; have hz1_0 := (blk_cell BK1.out 0); have hf1_0 := (blk_frozen BK1.out 0); simp at hz1_0; have hz1_1 := (blk_cell BK1.out 1); have hf1_1 := (blk_frozen BK1.out 1); simp at hz1_1; have hz1_2 := (blk_cell BK1.out 2); have hf1_2 := (blk_frozen BK1.out 2); simp at hz1_2; skip) | (go_at_call 18; (refine (A2.out _ (bb_ HB.out)).mono ?_); rintro e w20 ⟨rfl, hb⟩; have n0_ := ak_ (blk_below (pk BK1.out) hb); have nb_ := ak_ (bs_ (bb_ HB.out) hb); clear BK1 HB hb; have BK1 := n0_; have HB := nb_; clear nb_ n0_; have hq1_0 := (blk_cell BK1.out 0); simp at hq1_0; have hq1_1 := (blk_cell BK1.out 1); simp at hq1_1; have hq1_2 := (blk_cell BK1.out 2); simp at hq1_2))
 go_upto_region 6 with (first | (go_at_call 20; (refine (A7.out _ (bb_ HB.out)).mono ?_); rintro e w23 ⟨v0_, v1_, rfl, ho0, ho1, hb⟩; obtain ⟨AT0, cT0, rfl⟩ := Kd.R_slice ho0; obtain ⟨AT1, cT1, rfl⟩ := Kd.R_slice ho1; have HT0 := ak_ ho0; clear ho0; have HT1 := ak_ ho1; clear ho1; have n0_ := ak_ (blk_below (pk BK1.out) hb); have nb_ := ak_ (bs_ (bb_ HB.out) hb); clear BK1 HB hb; have BK1 := n0_; have HB := nb_; clear nb_ n0_; have hq1_0 := (blk_cell BK1.out 0); simp at hq1_0; have hq1_1 := (blk_cell BK1.out 1); simp at hq1_1; have hq1_2 := (blk_cell BK1.out 2); simp at hq1_2) | (go_at_call 28; (refine ((A8.out _ AT0 cT0 AT1 cT1 (Kd.R_V (Kd.pR HT0.out)) (Kd.R_reads' (Kd.pR HT1.out)).2.2 (Kd.R_reads' HT1.out).2.1)).mono ?_); rintro e w22 ⟨v2, rfl, ho, hb⟩; have hv_ : Kd.V (Kd.slice 3 (Kd.int .i64)) 29 w22 w.heap.size _ v2 s1 := Kd.N_V ho; obtain ⟨As, cs, rfl⟩ := Kd.V_slice hv_; have HS := ak_ (Kd.V_mono (ok' := fun k => k < w22.heap.size) (Kd.V_bound hv_) (fun k hk => hk.2)); clear ho hv_ HT0 HT1; have n0_ := ak_ (blk_below (pk BK1.out) hb); have nb_ := ak_ (bs_ (bb_ HB.out) hb); clear BK1 HB hb; have BK1 := n0_; have HB := nb_; clear nb_ n0_; have hq1_0 := (blk_cell BK1.out 0); simp at hq1_0; have hq1_1 := (blk_cell BK1.out 1); simp at hq1_1; have hq1_2 := (blk_cell BK1.out 2); simp at hq1_2))
 have LT1 := ak_ (blk_lt BK1.out)
 go_upto_region 7 with ((go_at_call 20; (refine (A7.out _ (bb_ HB.out)).mono ?_); rintro e w24 ⟨v0_, v1_, rfl, ho0, ho1, hb⟩; obtain ⟨Ax0, cx0, rfl⟩ := Kd.R_slice ho0; obtain ⟨Ax1, cx1, rfl⟩ := Kd.R_slice ho1; have HX0 := ak_ (Kd.R_mono (ok' := fun k => w22.heap.size ≤ k ∧ k < w24.heap.size) (Kd.R_lower (Kd.R_bound ho0) (bz_ (bb_ HB.out))) (fun k hk => ⟨Nat.le_trans (bz_ be_) hk.2.1, hk.2.2.1⟩)); have HX1 := ak_ (Kd.R_mono (ok' := fun k => w22.heap.size ≤ k ∧ k < w24.heap.size) (Kd.R_lower (Kd.R_bound ho1) (bz_ (bb_ HB.out))) (fun k hk => ⟨Nat.le_trans (bz_ be_) hk.2.1, hk.2.2.1⟩)); have SZ := ak_ (Nat.le_trans (bz_ be_) hb.size : w22.heap.size ≤ w24.heap.size); clear ho0 ho1; have n0_ := ak_ (blk_below (pk BK1.out) hb); have n1_ := ak_ (Kd.V_below (Kd.pV HS.out) hb); have nb_ := ak_ (bs_ (bb_ HB.out) hb); clear BK1 HS HB hb; have BK1 := n0_; have HS := n1_; have HB := nb_; clear nb_ n0_ n1_; have hq1_0 := (blk_cell BK1.out 0); simp at hq1_0; have hq1_1 := (blk_cell BK1.out 1); simp at hq1_1; have hq1_2 := (blk_cell BK1.out 2); simp at hq1_2))
 obtain ⟨w25, hw25⟩ : ∃ W, W = w24.alloc (.cells #[.slice Ax0 x0.length cx0, .slice Ax1 x1.length cx1, .int .i64 x2] 43) := ⟨_, rfl⟩
 have hb : Below w24.heap.size w24 w25 := (by rw [hw25]; exact ba_ (Below.refl _ _) _)
 have hbk : w25.heap[w24.heap.size]? = some (.cells #[.slice Ax0 x0.length cx0, .slice Ax1 x1.length cx1, .int .i64 x2] 43 (0, 0)) := (by rw [hw25]; exact blk_new w24 _)
 rw [← hw25]
 clear hw25
 have SZ3 := ak_ (blk_lt hbk : w24.heap.size < w25.heap.size)
 have n0_ := ak_ (blk_below (pk BK1.out) hb); have n1_ := ak_ (Kd.V_below (Kd.pV HS.out) hb); have n2_ := ak_ (Kd.R_below (Kd.pR HX0.out) hb); have n3_ := ak_ (Kd.R_below (Kd.pR HX1.out) hb); have nb_ := ak_ (bs_ (bb_ HB.out) hb); clear BK1 HS HX0 HX1 HB hb; have BK1 := n0_; have HS := n1_; have HX0 := n2_; have HX1 := n3_; have HB := nb_; clear nb_ n0_ n1_ n2_ n3_; have hq1_0 := (blk_cell BK1.out 0); simp at hq1_0; have hq1_1 := (blk_cell BK1.out 1); simp at hq1_1; have hq1_2 := (blk_cell BK1.out 2); simp at hq1_2
 obtain ⟨gb6, hg6⟩ : ∃ g, g = w24.heap.size := ⟨_, rfl⟩
 have G6 := ak_ hg6
 rw [← hg6] at hbk ⊢
 have BK6 := ak_ hbk
 clear hbk hg6
 have hq6_0 := (blk_cell BK6.out 0)
 simp at hq6_0
 have hq6_1 := (blk_cell BK6.out 1)
 simp at hq6_1
 have hq6_2 := (blk_cell BK6.out 2)
 simp at hq6_2
 go_upto_region 8 with ((go_at_call 29; (refine (A10.out _ Ax0 cx0 Ax1 cx1 (Kd.R_reads' (Kd.pR HX0.out)).2.2 (Kd.R_reads' HX0.out).2.1 (Kd.R_reads' (Kd.pR HX1.out)).2.2 (Kd.R_reads' HX1.out).2.1).mono ?_); rintro e w26 ⟨v5, rfl, ho, hb⟩; obtain ⟨Ag, cg, rfl⟩ := Kd.S_slice ho; have HG := ak_ (Kd.S_mono (ok' := fun k => w25.heap.size ≤ k ∧ k < w26.heap.size) (Kd.S_lower (Kd.S_bound ho) (bz_ (bb_ HB.out))) (fun k hk => ⟨Nat.le_trans (bz_ be_) hk.2.1, hk.2.2.1⟩)); clear ho; have n0_ := ak_ (blk_below (pk BK1.out) hb); have n1_ := ak_ (blk_below (pk BK6.out) hb); have n2_ := ak_ (Kd.V_below (Kd.pV HS.out) hb); have n3_ := ak_ (Kd.R_below (Kd.pR HX0.out) hb); have n4_ := ak_ (Kd.R_below (Kd.pR HX1.out) hb); have nb_ := ak_ (bs_ (bb_ HB.out) hb); clear BK1 BK6 HS HX0 HX1 HB hb; have BK1 := n0_; have BK6 := n1_; have HS := n2_; have HX0 := n3_; have HX1 := n4_; have HB := nb_; clear nb_ n0_ n1_ n2_ n3_ n4_; have hq1_0 := (blk_cell BK1.out 0); simp at hq1_0; have hq1_1 := (blk_cell BK1.out 1); simp at hq1_1; have hq1_2 := (blk_cell BK1.out 2); simp at hq1_2; have hq6_0 := (blk_cell BK6.out 0); simp at hq6_0; have hq6_1 := (blk_cell BK6.out 1); simp at hq6_1; have hq6_2 := (blk_cell BK6.out 2); simp at hq6_2))
 go_upto_region 10 with ((go_at_call 30; (refine (A26.out _ Ag cg As cs (Kd.S_reads' (Kd.pS HG.out)).2.2 (Kd.S_reads' HG.out).2.1 (Kd.V_reads' (Kd.pV HS.out)).2.2 (Kd.V_reads' HS.out).2.1).mono ?_); rintro e w27 ⟨rfl, hd⟩; have hb := hd.below; clear hd; have n0_ := ak_ (blk_below (pk BK1.out) hb); have n1_ := ak_ (blk_below (pk BK6.out) hb); have n2_ := ak_ (Kd.V_below (Kd.pV HS.out) hb); have n3_ := ak_ (Kd.R_below (Kd.pR HX0.out) hb); have n4_ := ak_ (Kd.R_below (Kd.pR HX1.out) hb); have n5_ := ak_ (Kd.S_below (Kd.pS HG.out) hb); have nb_ := ak_ (bs_ (bb_ HB.out) hb); clear BK1 BK6 HS HX0 HX1 HG HB hb; have BK1 := n0_; have BK6 := n1_; have HS := n2_; have HX0 := n3_; have HX1 := n4_; have HG := n5_; have HB := nb_; clear nb_ n0_ n1_ n2_ n3_ n4_ n5_; have hq1_0 := (blk_cell BK1.out 0); simp at hq1_0; have hq1_1 := (blk_cell BK1.out 1); simp at hq1_1; have hq1_2 := (blk_cell BK1.out 2); simp at hq1_2; have hq6_0 := (blk_cell BK6.out 0); simp at hq6_0; have hq6_1 := (blk_cell BK6.out 1); simp at hq6_1; have hq6_2 := (blk_cell BK6.out 2); simp at hq6_2))
 try go_wp2
 have n0_ := ak_ (k1_ BK1.out); have n1_ := ak_ (k1_ BK6.out); have n2_ := ak_ (Kd.V_drew HS.out); have n3_ := ak_ (Kd.R_drew HX0.out); have n4_ := ak_ (Kd.R_drew HX1.out); have n5_ := ak_ (Kd.S_drew HG.out); have n6_ := ak_ (b1_ HB.out); clear BK1 BK6 HS HX0 HX1 HG HB hq1_0 hq1_1 hq1_2 hq6_0 hq6_1 hq6_2; have BK1 := n0_; have BK6 := n1_; have HS := n2_; have HX0 := n3_; have HX1 := n4_; have HG := n5_; have HB := n6_; clear n0_ n1_ n2_ n3_ n4_ n5_ n6_
 refine start_ (n := 5) (S := fun w' => w'.cell? ⟨gb6, 0, none⟩ = some (.slice Ax0 x0.length cx0) ∧ w'.cell? ⟨gb6, 1, none⟩ = some (.slice Ax1 x1.length cx1) ∧ w'.cell? ⟨gb6, 2, none⟩ = some (.int .i64 x2) ∧ w'.cell? ⟨gb1, 0, none⟩ = some (.slice Aw ws.length cw) ∧ w'.cell? ⟨gb1, 1, none⟩ = some (.slice Ar rs.length cr) ∧ w'.cell? ⟨gb1, 2, none⟩ = some (.int .i64 most)) (ds := []) #[false, false, false, false, false] (by kernel_rfl) rfl rfl ⟨(blk_cell BK6.out 0).trans rfl, (blk_cell BK6.out 1).trans rfl, (blk_cell BK6.out 2).trans rfl, (blk_cell BK1.out 0).trans rfl, (blk_cell BK1.out 1).trans rfl, (blk_cell BK1.out 2).trans rfl⟩ (fun hHeld => ?_); refine with_tabW laws_FnExactFirstOfCrew.T10_ laws_FnExactFirstOfCrew.B10_ (fun HT_ HW_ => ?_)
 generalize w27.drew = w28 at BK1 BK6 HS HX0 HX1 HG HB hHeld ⊢
 refine tk_ 0 41 5 1 ?_ (hy := by rintro w' ⟨s0, s1, s2, s3, s4, s5⟩; go_simp; with_reducible rfl)
 refine tk_ 1 42 5 3 ?_ (hy := by rintro w' ⟨s0, s1, s2, s3, s4, s5⟩; go_simp; with_reducible rfl)
 refine on_ 2 43 5 7 (fun K hK => ?_)
 refine goes_ Try.func20 (by kernel_rfl) rfl #[.agg #[.slice Aw ws.length cw, .slice Ar rs.length cr, .int .i64 most]] (by rfl) rfl rfl (by (try simp only [List.map_toArray, List.map_cons, List.map_nil]); first | done | rfl) ?_
 refine (A7.out _ (bb_ HB.out)).mono ?_
 rintro e_ w29 ⟨v0_, v1_, rfl, ho0, ho1, hb⟩
 obtain ⟨AY0, cY0, rfl⟩ := Kd.R_slice ho0
 obtain ⟨AY1, cY1, rfl⟩ := Kd.R_slice ho1
 have HY0 := ak_ ho0; clear ho0; have HY1 := ak_ ho1; clear ho1
 refine ⟨_, rfl, ?_⟩
 have n0_ := ak_ (blk_below (pk BK1.out) hb); have n1_ := ak_ (blk_below (pk BK6.out) hb); have n2_ := ak_ (Kd.V_below (Kd.pV HS.out) hb); have n3_ := ak_ (Kd.R_below (Kd.pR HX0.out) hb); have n4_ := ak_ (Kd.R_below (Kd.pR HX1.out) hb); have n5_ := ak_ (Kd.S_below (Kd.pS HG.out) hb); have nb_ := ak_ (bs_ (bb_ HB.out) hb); clear BK1 BK6 HS HX0 HX1 HG HB hb; have BK1 := n0_; have BK6 := n1_; have HS := n2_; have HX0 := n3_; have HX1 := n4_; have HG := n5_; have HB := nb_; clear nb_ n0_ n1_ n2_ n3_ n4_ n5_
 refine hK.out _ _ ⟨(blk_cell BK6.out 0).trans rfl, (blk_cell BK6.out 1).trans rfl, (blk_cell BK6.out 2).trans rfl, (blk_cell BK1.out 0).trans rfl, (blk_cell BK1.out 1).trans rfl, (blk_cell BK1.out 2).trans rfl⟩ (fun hHeld => ?_)
 clear hK K
 refine nm_ ?_
 refine on_ 3 44 5 15 (fun K hK => ?_)
 refine goes_ Try.func22 (by kernel_rfl) rfl #[.agg #[.slice Ax0 x0.length cx0, .slice Ax1 x1.length cx1, .int .i64 x2], .agg #[.slice AY0 x0.length cY0, .slice AY1 x1.length cY1, .int .i64 x2]] (by rfl) rfl rfl (by (try simp only [List.map_toArray, List.map_cons, List.map_nil]); first | done | rfl) ?_
 refine (A34.out _ Ax0 cx0 Ax1 cx1 AY0 cY0 AY1 cY1 (Kd.R_reads' (Kd.pR HX0.out)).2.2 (Kd.R_reads' HX0.out).2.1 (Kd.R_reads' (Kd.pR HX1.out)).2.2 (Kd.R_reads' HX1.out).2.1 (Kd.R_reads' (Kd.pR HY0.out)).2.2 (Kd.R_reads' HY0.out).2.1 (Kd.R_reads' (Kd.pR HY1.out)).2.2 (Kd.R_reads' HY1.out).2.1).mono ?_
 rintro e_ w30 ⟨rfl, hb⟩
 refine ⟨_, rfl, ?_⟩
 have n0_ := ak_ (blk_below (pk BK1.out) hb); have n1_ := ak_ (blk_below (pk BK6.out) hb); have n2_ := ak_ (Kd.V_below (Kd.pV HS.out) hb); have n3_ := ak_ (Kd.R_below (Kd.pR HX0.out) hb); have n4_ := ak_ (Kd.R_below (Kd.pR HX1.out) hb); have n5_ := ak_ (Kd.S_below (Kd.pS HG.out) hb); have nb_ := ak_ (bs_ (bb_ HB.out) hb); clear BK1 BK6 HS HX0 HX1 HG HB hb; have BK1 := n0_; have BK6 := n1_; have HS := n2_; have HX0 := n3_; have HX1 := n4_; have HG := n5_; have HB := nb_; clear nb_ n0_ n1_ n2_ n3_ n4_ n5_
 clear HY0 HY1
 refine hK.out _ _ ⟨(blk_cell BK6.out 0).trans rfl, (blk_cell BK6.out 1).trans rfl, (blk_cell BK6.out 2).trans rfl, (blk_cell BK1.out 0).trans rfl, (blk_cell BK1.out 1).trans rfl, (blk_cell BK1.out 2).trans rfl⟩ (fun hHeld => ?_)
 clear hK K
 refine nm_ ?_
 refine pu_ 4 45 5 31 ?_
 refine done_ (done_of HT_.out (by kernel_rfl)) ?_
 have hq1_0 := (blk_cell BK1.out 0)
 simp at hq1_0
 have hq1_1 := (blk_cell BK1.out 1)
 simp at hq1_1
 have hq1_2 := (blk_cell BK1.out 2)
 simp at hq1_2
 have hq6_0 := (blk_cell BK6.out 0)
 simp at hq6_0
 have hq6_1 := (blk_cell BK6.out 1)
 simp at hq6_1
 have hq6_2 := (blk_cell BK6.out 2)
 simp at hq6_2
 go_upto_region 14 with (go_at_call 31; (with_reducible refine (A36.out (fun k => w22.heap.size ≤ k ∧ k < w24.heap.size) (.slice Ax0 x0.length cx0) (fun k => w22.heap.size ≤ k ∧ k < w24.heap.size) (.slice Ax1 x1.length cx1) w _ (bb_ HB.out) (Kd.pR HX0.out) (Kd.pR HX1.out)).mono ?_); rintro e w31 ⟨rfl, hS, hS2, hb, hkp⟩; have n0_ := ak_ ((hkp.2 gb1 (blk_lt (pk BK1.out)) (fun h => by have := LT1.out; have := SZ.out; have := SZ3.out; omega)).trans (pk BK1.out)); have n1_ := ak_ (Kd.V_kept (Kd.pV HS.out) hkp (fun k (hk : k < w22.heap.size) h => by have := LT1.out; have := SZ.out; have := SZ3.out; omega)); have n2_ := ak_ (Kd.S_kept (Kd.pS HG.out) hkp (fun k (hk : w25.heap.size ≤ k ∧ k < w26.heap.size) h => by have := LT1.out; have := SZ.out; have := SZ3.out; omega)); have nb_ := ak_ hb; clear BK1 HS HG HX0 HX1 BK6 hS hS2 HB hb hkp; have BK1 := n0_; have HS := n1_; have HG := n2_; have HB := nb_; clear nb_ n0_ n1_ n2_; have hq1_0 := (blk_cell BK1.out 0); simp at hq1_0; have hq1_1 := (blk_cell BK1.out 1); simp at hq1_1; have hq1_2 := (blk_cell BK1.out 2); simp at hq1_2)
 go_upto_region 16 with ((go_at_call 30; (refine (A26.out _ Ag cg As cs (Kd.S_reads' (Kd.pS HG.out)).2.2 (Kd.S_reads' HG.out).2.1 (Kd.V_reads' (Kd.pV HS.out)).2.2 (Kd.V_reads' HS.out).2.1).mono ?_); rintro e w32 ⟨rfl, hd⟩; have hb := hd.below; clear hd; have n0_ := ak_ (blk_below (pk BK1.out) hb); have n1_ := ak_ (Kd.V_below (Kd.pV HS.out) hb); have n2_ := ak_ (Kd.S_below (Kd.pS HG.out) hb); have nb_ := ak_ (bs_ (bb_ HB.out) hb); clear BK1 HS HG HB hb; have BK1 := n0_; have HS := n1_; have HG := n2_; have HB := nb_; clear nb_ n0_ n1_ n2_; have hq1_0 := (blk_cell BK1.out 0); simp at hq1_0; have hq1_1 := (blk_cell BK1.out 1); simp at hq1_1; have hq1_2 := (blk_cell BK1.out 2); simp at hq1_2))
 go_upto_region 18 with (go_at_call 32; (with_reducible refine (A6.out (fun k => w25.heap.size ≤ k ∧ k < w26.heap.size) (.slice Ag s1.length cg) w _ (bb_ HB.out) (Kd.pS HG.out)).mono ?_); rintro e w33 ⟨rfl, hS, hb, hkp⟩; have n0_ := ak_ ((hkp.2 gb1 (blk_lt (pk BK1.out)) (fun h => by have := LT1.out; have := SZ.out; have := SZ3.out; omega)).trans (pk BK1.out)); have n1_ := ak_ (Kd.V_kept (Kd.pV HS.out) hkp (fun k (hk : k < w22.heap.size) h => by have := LT1.out; have := SZ.out; have := SZ3.out; omega)); clear HG; have HG := ak_ hS; have nb_ := ak_ hb; clear BK1 HS hS HB hb hkp; have BK1 := n0_; have HS := n1_; have HB := nb_; clear nb_ n0_ n1_; have hq1_0 := (blk_cell BK1.out 0); simp at hq1_0; have hq1_1 := (blk_cell BK1.out 1); simp at hq1_1; have hq1_2 := (blk_cell BK1.out 2); simp at hq1_2)
 have hlen := (Kd.S_reads' HG.out).1
 have HH := ak_ fun (W : World) (hS : Kd.S (Kd.slice 3 (Kd.int .i64)) 29 W w.heap.size (fun k => w25.heap.size ≤ k ∧ k < w26.heap.size) (.slice Ag s1.length cg) l') => (show Calls Try.prog 33 #[.slice Ag s1.length cg, .int .i64 1] W fun e w' => e = .returned (.int .i64 q) ∧ Drawn0 W w' by rw [hlen]; exact A9.out W Ag cg (Kd.S_reads' hS).2.2 (by rw [← hlen]; exact (Kd.S_reads' hS).2.1))
 clear hlen
 go_upto_region 24 with ((go_at_call 33; (refine (HH.out _ (Kd.pS HG.out)).mono ?_); rintro e w34 ⟨rfl, hd⟩; have hb := hd.below; clear hd; have n0_ := ak_ (blk_below (pk BK1.out) hb); have n1_ := ak_ (Kd.V_below (Kd.pV HS.out) hb); have n2_ := ak_ (Kd.S_below (Kd.pS HG.out) hb); have nb_ := ak_ (bs_ (bb_ HB.out) hb); clear BK1 HS HG HB hb; have BK1 := n0_; have HS := n1_; have HG := n2_; have HB := nb_; clear nb_ n0_ n1_ n2_; have hq1_0 := (blk_cell BK1.out 0); simp at hq1_0; have hq1_1 := (blk_cell BK1.out 1); simp at hq1_1; have hq1_2 := (blk_cell BK1.out 2); simp at hq1_2))
 go_upto_region 25 with (first | (go_at_call 20; (refine (A7.out _ (bb_ HB.out)).mono ?_); rintro e w35 ⟨v0_, v1_, rfl, ho0, ho1, hb⟩; obtain ⟨AZ0, cZ0, rfl⟩ := Kd.R_slice ho0; obtain ⟨AZ1, cZ1, rfl⟩ := Kd.R_slice ho1; have HZ0 := ak_ ho0; clear ho0; have HZ1 := ak_ ho1; clear ho1; have n0_ := ak_ (blk_below (pk BK1.out) hb); have n1_ := ak_ (Kd.V_below (Kd.pV HS.out) hb); have n2_ := ak_ (Kd.S_below (Kd.pS HG.out) hb); have nb_ := ak_ (bs_ (bb_ HB.out) hb); clear BK1 HS HG HB hb; have BK1 := n0_; have HS := n1_; have HG := n2_; have HB := nb_; clear nb_ n0_ n1_ n2_; have hq1_0 := (blk_cell BK1.out 0); simp at hq1_0; have hq1_1 := (blk_cell BK1.out 1); simp at hq1_1; have hq1_2 := (blk_cell BK1.out 2); simp at hq1_2) | (go_at_call 29; (refine (A10.out _ AZ0 cZ0 AZ1 cZ1 (Kd.R_reads' (Kd.pR HZ0.out)).2.2 (Kd.R_reads' HZ0.out).2.1 (Kd.R_reads' (Kd.pR HZ1.out)).2.2 (Kd.R_reads' HZ1.out).2.1).mono ?_); rintro e w36 ⟨v8, rfl, ho, hb⟩; obtain ⟨Ah, ch, rfl⟩ := Kd.S_slice ho; have HI := ak_ ho; clear ho HZ0 HZ1; have n0_ := ak_ (Kd.V_below (Kd.pV HS.out) hb); have n1_ := ak_ (Kd.S_below (Kd.pS HG.out) hb); have nb_ := ak_ (bs_ (bb_ HB.out) hb); clear HS HG HB hb; have HS := n0_; have HG := n1_; have HB := nb_; clear nb_ n0_ n1_))
 go_upto_region 27 with ((go_at_call 30; (refine (A26.out _ Ah ch As cs (Kd.S_reads' (Kd.pS HI.out)).2.2 (Kd.S_reads' HI.out).2.1 (Kd.V_reads' (Kd.pV HS.out)).2.2 (Kd.V_reads' HS.out).2.1).mono ?_); rintro e w37 ⟨rfl, hd⟩; have hb := hd.below; clear hd; have n0_ := ak_ (Kd.V_below (Kd.pV HS.out) hb); have n1_ := ak_ (Kd.S_below (Kd.pS HG.out) hb); have nb_ := ak_ (bs_ (bb_ HB.out) hb); clear HS HG HB hb; have HS := n0_; have HG := n1_; have HB := nb_; clear nb_ n0_ n1_))
 go_wp2_with ((go_at_call 33; (refine (HH.out _ (Kd.pS HG.out)).mono ?_); rintro e w38 ⟨rfl, hd⟩; have hb := hd.below; clear hd; have n0_ := ak_ (Kd.S_below (Kd.pS HG.out) hb); have nb_ := ak_ (bs_ (bb_ HB.out) hb); clear HG HB hb; have HG := n0_; have HB := nb_; clear nb_ n0_))
 go_ret
 exact ⟨rfl, (bb_ HB.out)⟩
end Go.Proofs.Ythkchdfkeieabaa.QGr
