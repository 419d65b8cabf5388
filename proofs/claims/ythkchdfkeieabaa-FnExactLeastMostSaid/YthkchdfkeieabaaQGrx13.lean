/- Contracts of functions of the given program, walked: each call returns what its Lean function says. Conditions: those that stand at each theorem. (Written by a program of this session.) -/
import Derived.Test.YthkchdfkeieabaaQGrx0
import Derived.Test.YthkchdfkeieabaaQGrx11
import Derived.Test.YthkchdfkeieabaaQGrx12
namespace Go.Proofs.Ythkchdfkeieabaa.QGr
open Go.RowKit Go.Proofs.YthkchdfkeieabaaW.PrintWords Go.Proofs.YthkchdfkeieabaaW.PrintLast Go.Proofs.YthkchdfkeieabaaW.PrintMore
open List (setIfInBounds_toArray set_cons_zero set_cons_succ map_toArray map_cons map_nil)
attribute [local go_sem] max2_int min2_int max_two min_two max_three min_three max_four min_four
set_option linter.unusedVariables false
set_option maxHeartbeats 8000000
set_option maxRecDepth 100000
set_option linter.unusedSimpArgs false
def loadSt (k : Nat) (ws : List Int) (rs : List Bool) (most : Int) (l : List Int) (acc : List Int) : Option (List Int) :=
 (impl_Crew_load.f k ws rs most l).bind fun b => if acc.length < 1000000 then some (acc ++ [b]) else none
theorem gp_lit0 {α : Type} (d : Kd α) (e : Nat) (W : World) {base : Nat} (hb : base ≤ W.heap.size) : Kd.S d e (W.alloc (.cells #[] e)) base (fun _ => True) (.slice (some ⟨W.heap.size, 0, none⟩) 0 0) [] := by
 refine ⟨fun _ => 0, fun _ _ => trivial, [], ?_, Reps.none _ _⟩
 have h2 := World.ownsRow_lit (base := base) (e := e) (size := d.sz) W #[] 0 hb (by simp [maxLen]) (by simp)
 have h3 : (W.alloc (.cells #[] e)).ownsRow base e d.sz (.slice (some ⟨W.heap.size, 0, none⟩) 0 0) 0 [] := by simpa using h2
 exact h3
theorem gp_new2 (W : World) (o o2 : Obj) : ((W.alloc o).alloc o2).heap[W.heap.size + 1]? = some o2 := by
 have h := blk_new (W.alloc o) o2
 have e : (W.alloc o).heap.size = W.heap.size + 1 := Array.size_push ..
 rw [e] at h
 exact h
def load_each.T0 : Bool × List (List Nat × List Nat) := (true, [([], []), ([], []), ([], []), ([1, 2], [1, 2]), ([3], [3]), ([0, 4, 3], [0, 4]), ([5, 5, 0, 1, 2, 3, 4, 5], [5])])
def load_each.B0 : List Nat := [0, 0, 0, 6, 14, 31, 63]
theorem load_each.T0_ : rtab .any (opsOf Try.f116 0) = load_each.T0 := by kernel_rfl
theorem load_each.B0_ : waitsOk load_each.T0.2 load_each.B0 = true := by kernel_rfl
theorem load_each (k : Nat) (B g : Nat) (w0 : World) (Aw : Option Addr) (cw : Nat) (ws : List Int) (Ar : Option Addr) (cr : Nat) (rs : List Bool) (most : Int) (hB : w0.heap[B]? = some (.cells #[.slice Aw ws.length cw, .slice Ar rs.length cr, .int .i64 most] 43 (0, 0)))
  (hw : Kd.C (Kd.int .i64) w0 Aw ws.length ws) (hcw : ws.length ≤ cw) (hr : Kd.C Kd.bool w0 Ar rs.length rs) (hcr : rs.length ≤ cr) : GpEach (Kd.int .i64) 3 29 (loadSt k ws rs most) g 116 #[.pointer (some ⟨g, 0, none⟩), .pointer (some ⟨B, 0, none⟩)] w0 := by
 intro W v vL l acc a1 hst hl hs
 have hu := Try.underlying43
 unfold loadSt at hs
 obtain ⟨q, h1, hs⟩ := Option.bind_eq_some_iff.mp hs
 by_cases hlen : acc.length < 1000000
 rotate_left
 ·rw [if_neg hlen] at hs; exact absurd hs (by simp)
 rw [if_pos hlen] at hs
 obtain rfl := Option.some.inj hs
 obtain ⟨A1, c1, rfl, hle, hl1⟩ := gp_row hl
 obtain ⟨A, c, rfl⟩ := Kd.S_slice hst.row
 have A2 := ak_ fun (W2 : World) (hb : Below W.heap.size W W2) => impl_Crew_load.calls k Aw cw ws Ar cr rs most A1 c1 l q W2 (Kd.C_below (Kd.C_below hw hst.bel) hb) hcw (Kd.C_below (Kd.C_below hr hst.bel) hb) hcr (Kd.C_below hl1 hb) hle h1
 have BB := ak_ (blk_below hB hst.bel)
 have ST := ak_ (hst.any)
 have HBW := ak_ (Below.refl W.heap.size W)
 have FR := ak_ (GpFr.below (g := g) (v := .slice A acc.length c) (Below.refl W.heap.size W))
 have HLEN := ak_ hlen
 clear hs h1 hst hl hl1 hle hw hcw hr hcr hB hlen
 go_enter Try.func116, Try.ntmps116
 try go_wp2
 have n0_ := ak_ (ST.out.up (below_drew (Below.refl _ _))); have n1_ := ak_ (FR.out.trans (GpFr.below (below_drew (Below.refl _ _)))); have n2_ := ak_ (blk_below BB.out (below_drew (Below.refl _ _))); have n3_ := ak_ (bs_ HBW.out (below_drew (Below.refl _ _))); clear ST FR BB HBW; have ST := n0_; have FR := n1_; have BB := n2_; have HBW := n3_; clear n0_ n1_ n2_ n3_
 refine start_ (n := 7) (S := fun w' => w'.cell? ⟨g, 0, none⟩ = some (.slice A acc.length c) ∧ w'.cell? ⟨B, 0, none⟩ = some (.slice Aw ws.length cw) ∧ w'.cell? ⟨B, 1, none⟩ = some (.slice Ar rs.length cr) ∧ w'.cell? ⟨B, 2, none⟩ = some (.int .i64 most)) (ds := [6]) (mb_ 7 0) (by kernel_rfl) rfl rfl ⟨(blk_cell ST.out.out 0).trans rfl, (blk_cell BB.out 0).trans rfl, (blk_cell BB.out 1).trans rfl, (blk_cell BB.out 2).trans rfl⟩ (fun hHeld => ?_); refine with_tabW load_each.T0_ load_each.B0_ (fun HT_ HW_ => ?_)
 generalize W.drew = w9 at ST FR BB HBW hHeld ⊢
 refine tk_ 0 4 7 1 ?_ (hy := by rintro w' ⟨s0, s1, s2, s3⟩; go_simp; with_reducible rfl)
 refine tk_ 1 5 7 3 ?_ (hy := by rintro w' ⟨s0, s1, s2, s3⟩; go_simp; with_reducible rfl)
 refine pu_ 2 6 7 7 ?_
 refine on_ 3 7 7 15 (fun K hK => ?_)
 refine goes_ Try.func117 (by kernel_rfl) rfl #[.agg #[.slice Aw ws.length cw, .slice Ar rs.length cr, .int .i64 most], .slice A1 l.length c1] (by rfl) rfl rfl (by first | rfl | (simp only [map_toArray, map_cons, map_nil]; try rfl)) ?_
 refine (A2.out _ HBW.out).mono ?_
 rintro e_ w10 ⟨rfl, hb⟩
 refine ⟨_, rfl, ?_⟩
 have n0_ := ak_ (ST.out.up hb); have n1_ := ak_ (FR.out.trans (GpFr.below hb)); have n2_ := ak_ (blk_below BB.out hb); have n3_ := ak_ (bs_ HBW.out hb); clear ST FR BB HBW hb A2; have ST := n0_; have FR := n1_; have BB := n2_; have HBW := n3_; clear n0_ n1_ n2_ n3_
 refine hK.out _ _ ⟨(blk_cell ST.out.out 0).trans rfl, (blk_cell BB.out 0).trans rfl, (blk_cell BB.out 1).trans rfl, (blk_cell BB.out 2).trans rfl⟩ (fun hHeld => ?_)
 clear hK K
 refine nm_ ?_
 refine on_ 4 8 7 31 (fun K hK => ?_)
 refine value_ (w1 := ?_) (v := ?_) (by rfl) rfl ?_ ?_
 rotate_left 2
 ·go_simp
  constructor
  ·rfl
  ·rfl
 refine hK.out _ _ ⟨(blk_cell (ka_ ST.out.out _) 0).trans rfl, (blk_cell (ka_ BB.out _) 0).trans rfl, (blk_cell (ka_ BB.out _) 1).trans rfl, (blk_cell (ka_ BB.out _) 2).trans rfl⟩ (fun hHeld => ?_)
 clear hK K
 refine nm_ ?_
 refine on_ 5 9 7 63 (fun K hK => ?_)
 refine Kd.S_append_step (Kd.int .i64) (w0 := w0) w0.heap.size (by rfl) (.tmp 4) (.tmp 8) 29 3 (.int .i64 0) 8 rfl Try.underlying29 info3 rfl (by decide) (by omega) (.slice A acc.length c) acc q [.int .i64 q] (fun _ => True) (fun _ => False) rfl rfl ?aP (fun _ hk => hk.elim) (fun _ _ => trivial) ?aO ?aB ?aS ?aL ?_
 (case aP => exact rfl)
 (case aO => exact Kd.S_mono (Kd.pS ST.out.row) (fun _ _ => ⟨trivial, id⟩))
 (case aB => exact ST.out.bel)
 (case aS => exact bz_ ST.out.bel)
 (case aL => have := HLEN.out; omega)
 intro v9 w19 ho hb hg hat
 obtain ⟨Ax, cx, rfl⟩ := Kd.S_slice ho
 have HO := ak_ ho; have HB9 := ak_ hb; have HG := ak_ hg; have HAT := ak_ hat; have n0_ := ak_ (blk_grown (pk ST.out.out) hg (Kd.S_ne ST.out.row ST.out.out (by decide))); have BX := ak_ (blk_grown (pk BB.out) hg (Kd.S_ne ST.out.row BB.out (by decide))); clear ho hb hg hat
 refine hK.out _ _ ⟨(blk_cell n0_.out 0).trans rfl, (blk_cell BX.out 0).trans rfl, (blk_cell BX.out 1).trans rfl, (blk_cell BX.out 2).trans rfl⟩ (fun hHeld => ?_)
 clear hK K
 refine nm_ ?_
 refine last_ (i := 6) (N := none) (mb_ 7 127) rfl rfl (one_of HT_.out (by kernel_rfl)) (by decide) (fun K hK => ?_)
 have hf9 := (blk_frozen n0_.out 0); have hy9 : w19.cell? ⟨g, 0, none⟩ = some (.slice A acc.length c) := (blk_cell n0_.out 0).trans rfl
 refine skip_ (w1 := ?_) (by rfl) rfl ?_ ?_
 rotate_left
 ·go_simp
  rfl
 refine hK.out _ _ ?_
 clear hK K
 refine done_ (done_of HT_.out (by kernel_rfl)) ?_
 try go_wp2
 go_end0
 refine ⟨rfl, .slice Ax (acc.length + 1) cx, ⟨?_, ?_, ?_, ST.out.ge⟩, ?_⟩
 rotate_left
 ·exact (by (with_reducible repeat (first | apply Kd.S_alloc | apply Kd.S_drewN | apply Kd.S_drew)); have h_ := Kd.S_set HO.out n0_.out (by decide) 0 (.slice Ax (acc.length + 1) cx); rw [List.length_append, List.length_singleton] at h_; exact h_)
 ·exact (by repeat (first | (with_reducible first | exact HB9.out | apply ba_ | apply bN_ | apply b1_ | refine below_set ?_ ST.out.ge) | exact HB9.out))
 ·refine FR.out.trans ⟨?_, fun k_ hk_ hg_ ht_ => ?_, ?_⟩
  ·have h2_ := HG.out.size
   first | (simp; omega) | (simp at h2_ ⊢; omega)
  ·have e2_ : w19.heap[k_]? = w10.heap[k_]? := HG.out.block k_ hk_ ht_
   exact (Below.heap_setCell w19 ⟨g, 0, none⟩ _ k_ hg_).trans e2_
  ·rcases HAT.out with e_ | ⟨b_, e_, h_⟩
   ·left
    rw [List.length_append, List.length_singleton] at e_
    exact e_
   ·right
    intro b2_ h2_
    rw [List.length_append, List.length_singleton] at e_
    rw [e_] at h2_
    injection h2_ with h2_
    omega
 ·exact (by (with_reducible repeat (first | refine kN_ ?_ _ | refine k1_ ?_ | refine ka_ ?_ _)); exact blk_put n0_.out 0 _ rfl)
theorem lo_sort (b cap base : Nat) (ok : Nat → Prop) (p : List Int) (W : World) (HP : Kd.R (Kd.int .i64) 3 W base ok (.slice (some ⟨b, 0, none⟩) p.length cap) p) (h0 : 0 < p.length) (hl : p.length ≤ 1000) :
  Calls Try.prog 118 #[.slice (some ⟨b, 0, none⟩) p.length cap] W fun e w' => e = .returned (.tuple #[]) ∧ Kd.R (Kd.int .i64) 3 w' base ok (.slice (some ⟨b, 0, none⟩) p.length cap) (p.mergeSort fun x y => decide (x ≤ y)) ∧ W.grownBy w' (some b) := by
 have ho := Kd.own_of_R HP
 obtain ⟨hx, ⟨hv, hn0⟩ | ⟨g', cap', cur, hv, hg, hb, hn, hcap, hsz, ht⟩⟩ := ho
 ·cases hv
 cases hv
 rw [Nat.mul_one] at ht
 have hH := holds_of_blockI (ss := p) hb ht
 refine (Try.slices_Sort_int b 0 cap p W hH (blk_lt hb) (by omega)).mono ?_
 rintro e w' ⟨rfl, n, os, rfl⟩
 refine ⟨rfl, ?_, grownBy_sortedI _⟩
 have h3 := ownsRow_sortedI (n := n) (os := os) (ss := p) (ts := p.mergeSort fun x y => decide (x ≤ y)) (List.length_mergeSort ..) hg hb hn hcap hsz
 rw [← List.length_mergeSort (le := fun x y : Int => decide (x ≤ y)) p] at h3 ⊢
 exact Kd.R_of_own h3 (fun k hk => HP.1 k (by rw [List.length_mergeSort] at hk; exact hk))
theorem compact_le : ∀ p : List Int, (Lib.compact p).length ≤ p.length := fun p => by
 unfold Lib.compact Lib.compactUpTo
 rw [List.length_map]
 exact Nat.le_trans (List.length_filter_le _ _) (by rw [List.length_range]; exact Nat.le_refl _)
theorem lo_below {w W w' : World} {b : Nat} (hB : Below w.heap.size w W) (hg : W.grownBy w' (some b)) (hb : w.heap.size ≤ b) : Below w.heap.size w w' :=
 ⟨hg.os.trans hB.os, hg.tape.trans hB.tape, hg.output.trans hB.output, Nat.le_trans hB.size hg.size, fun k hk => (hg.block k (Nat.lt_of_lt_of_le hk hB.size) (fun e => by injection e with e; omega)).trans (hB.block k hk)⟩
theorem lo_compact (b cap base B0 : Nat) (ok : Nat → Prop) (p : List Int) (w0 W : World) (HP : Kd.R (Kd.int .i64) 3 W base ok (.slice (some ⟨b, 0, none⟩) p.length cap) p) (hl : p.length ≤ 1000) (hB : Below B0 w0 W) (hb0 : B0 ≤ base) :
  Calls Try.prog 119 #[.slice (some ⟨b, 0, none⟩) p.length cap] W fun e w' => e = .returned (.slice (some ⟨b, 0, none⟩) (Lib.compact p).length cap) ∧ Kd.R (Kd.int .i64) 3 w' base ok (.slice (some ⟨b, 0, none⟩) (Lib.compact p).length cap) (Lib.compact p) ∧ Below B0 w0 w' := by
 have ho := Kd.own_of_R HP
 have hle := compact_le p
 obtain ⟨hx, ⟨hv, hn0⟩ | ⟨g', cap', cur, hv, hg, hb, hn, hcap, hsz, ht⟩⟩ := ho
 ·cases hv
 cases hv
 rw [Nat.mul_one] at ht
 have hH := holds_of_blockI (ss := p) hb ht
 refine (Try.slices_Compact_int b 0 cap p W hH (by omega) (by omega)).mono ?_
 rintro e w' ⟨rfl, q, rfl⟩
 have h3 := Lib.ownsRow_putRow (q := q) (k := (Lib.compact p).length) (ys := Lib.compact p ++ List.replicate (p.length - (Lib.compact p).length) 0) (Kd.own_of_R HP) (by rw [List.length_append, List.length_replicate]; omega) hle
 rw [List.take_left] at h3
 exact ⟨rfl, Kd.R_of_own h3 (fun k hk => HP.1 k hk), Lib.below_putRow hB (Nat.le_trans hb0 hg)⟩
def impl_Crew_loads.T2 : Bool × List (List Nat × List Nat) := (true, [([], []), ([0], [0]), ([1], [1]), ([2], [2]), ([3, 3], [3]), ([], []), ([5], [5]), ([6], [6]), ([], []), ([4, 7, 8, 4], [4, 7, 8])])
def impl_Crew_loads.B2 : List Nat := [0, 1, 3, 7, 15, 0, 32, 96, 0, 511]
theorem impl_Crew_loads.T2_ : rtab .any (opsOf Try.f78 2) = impl_Crew_loads.T2 := by kernel_rfl
theorem impl_Crew_loads.B2_ : waitsOk impl_Crew_loads.T2.2 impl_Crew_loads.B2 = true := by kernel_rfl
def impl_Crew_loads.f (k : Nat) (ws : List Int) (rs : List Bool) (most : Int) : Option (List Int) := (impl_allAt.f (ws.length : Int) false).bind fun s => (impl_State_side.f k s.1 s.2 false).bind fun P => if P.length ≤ 100 then (gOn (loadSt k ws rs most) (ws.length : Int) P [] []).bind fun L => if 0 < L.length ∧ L.length ≤ 1000 then some (Lib.compact (L.mergeSort fun x y => decide (x ≤ y))) else none else none
theorem impl_Crew_loads.calls (k : Nat) (Aw : Option Addr) (cw : Nat) (ws : List Int) (Ar : Option Addr) (cr : Nat) (rs : List Bool) (most : Int) (r : List Int) (w : World)
  (hw : Kd.C (Kd.int .i64) w Aw ws.length ws) (hcw : ws.length ≤ cw) (hr : Kd.C Kd.bool w Ar rs.length rs) (hcr : rs.length ≤ cr) (h : impl_Crew_loads.f k ws rs most = some r) :
  Calls Try.prog 78 #[.agg #[.slice Aw ws.length cw, .slice Ar rs.length cr, .int .i64 most]] w fun e w' => ∃ v0_ : Value, e = .returned v0_ ∧ Kd.R (Kd.int .i64) 3 w' w.heap.size (fun _ => True) v0_ r ∧ Below w.heap.size w w' := by
 have hu := Try.underlying43
 have hu2 := Try.underlying115
 unfold impl_Crew_loads.f at h
 obtain ⟨⟨over, torch⟩, h0, h⟩ := Option.bind_eq_some_iff.mp h
 obtain ⟨P, h1, h⟩ := Option.bind_eq_some_iff.mp h
 by_cases hP : P.length ≤ 100
 rotate_left
 ·rw [if_neg hP] at h; exact absurd h (by simp)
 rw [if_pos hP] at h
 obtain ⟨L, h2, h⟩ := Option.bind_eq_some_iff.mp h
 by_cases hL : 0 < L.length ∧ L.length ≤ 1000
 rotate_left
 ·rw [if_neg hL] at h; exact absurd h (by simp)
 rw [if_pos hL] at h
 obtain rfl := Option.some.inj h
 have A0 := ak_ fun (W : World) => impl_allAt.calls (ws.length : Int) false over torch W h0
 have A1 := ak_ fun (W : World) (Ao : Option Addr) (co : Nat) (ho : Kd.C Kd.bool W Ao over.length over) (hco : over.length ≤ co) => impl_State_side.calls k Ao co over torch false P W ho hco h1
 have A2 := ak_ fun (B g : Nat) (w0 W : World) (Ap : Option Addr) (cp : Nat) (v : Value) (h0 : Below w.heap.size w w0) (hB : w0.heap[B]? = some (.cells #[.slice Aw ws.length cw, .slice Ar rs.length cr, .int .i64 most] 43 (0, 0))) (hst : GpSt (Kd.int .i64) 3 29 g w0 W v (fun _ => True) []) (hp : (Kd.int .i64).R 3 W w0.heap.size (fun k => k ≠ g ∧ some k ≠ v.ownBlock) (.slice Ap P.length cp) P) =>
  groups_calls (Kd.int .i64) 3 29 (loadSt k ws rs most) g 116 #[.pointer (some ⟨g, 0, none⟩), .pointer (some ⟨B, 0, none⟩)] w0 Ap cp P (ws.length : Int) (enters_of Try.func116 (by kernel_rfl) rfl) (load_each k B g w0 Aw cw ws Ar cr rs most hB (Kd.C_below hw h0) hcw (Kd.C_below hr h0) hcr) hP v L W hst hp h2
 have HB := ak_ (Below.refl w.heap.size w)
 have HL := ak_ hL
 clear h h0 h1 h2 hP hL hw hcw hr hcr
 go_enter Try.func78, Try.ntmps78
 go_upto_region 2 with (first | ((with_reducible refine gate_dst (N := 1) rfl ?_); refine bx_ 1 #[.slice Aw ws.length cw, .slice Ar rs.length cr, .int .i64 most] 43 ?_; intro gb1 hg w1 hbox hb; have nb_ := ak_ (bs_ (bb_ HB.out) hb); have nc_ := ak_ hbox; have nd_ := ak_ ((by rw [hg]; exact (bz_ (bb_ HB.out)) : w.heap.size ≤ gb1)); clear HB hb hbox hg; have HB := nb_; have BK1 := nc_; have GE1 := nd_; clear nb_ nc_ nd_; have hz1_0 := (blk_cell BK1.out 0); have hf1_0 := (blk_frozen BK1.out 0); simp at hz1_0; have hz1_1 := (blk_cell BK1.out 1); have hf1_1 := (blk_frozen BK1.out 1); simp at hz1_1; have hz1_2 := (blk_cell BK1.out 2); have hf1_2 := (blk_frozen BK1.out 2); simp at hz1_2; skip))
 have HB3 := ak_ HB.out
 have hst := (show GpSt (Kd.int .i64) 3 29 (w1.heap.size + 1) w1 ((w1.alloc (.cells #[] 3)).alloc (.cells #[.slice (some ⟨w1.heap.size, 0, none⟩) 0 0] 29)) (.slice (some ⟨w1.heap.size, 0, none⟩) 0 0) (fun _ => True) [] from ⟨gp_new2 w1 _ _, Kd.S_alloc (gp_lit0 _ _ w1 (Nat.le_refl _)) _, ba_ (ba_ (Below.refl _ _) _) _, Nat.le_succ _⟩)
 have n0_ := ak_ (ka_ (ka_ BK1.out (.cells #[] 3)) (.cells #[.slice (some ⟨w1.heap.size, 0, none⟩) 0 0] 29))
 have B3 := ak_ BK1.out
 have ST := ak_ hst
 clear BK1 HB hst hz1_0 hz1_1 hz1_2 hf1_0 hf1_1 hf1_2
 have BK1 := n0_; clear n0_
 generalize (w1.alloc (.cells #[] 3)).alloc (.cells #[.slice (some ⟨w1.heap.size, 0, none⟩) 0 0] 29) = w5 at BK1 ST ⊢
 generalize Value.slice (some ⟨w1.heap.size, 0, none⟩) 0 0 = v5 at ST ⊢
 generalize w1.heap.size + 1 = gb5 at ST ⊢
 have n0_ := ak_ (k1_ BK1.out); have n1_ := ak_ (ST.out.up (below_drew (Below.refl _ _))); clear BK1 ST; have BK1 := n0_; have ST := n1_; clear n0_ n1_
 refine start_ (n := 10) (S := fun w' => w'.cell? ⟨gb1, 0, none⟩ = some (.slice Aw ws.length cw)) (ds := []) (mb_ 10 0) (by kernel_rfl) rfl rfl ((blk_cell BK1.out 0).trans rfl) (fun hHeld => ?_); refine with_tabW impl_Crew_loads.T2_ impl_Crew_loads.B2_ (fun HT_ HW_ => ?_)
 generalize w5.drew = w9 at BK1 ST hHeld ⊢
 refine pu_ 0 5 10 1 ?_
 refine tk_ 1 6 10 3 ?_ (hy := by rintro w' s0; go_simp; with_reducible rfl)
 refine pu_ 2 7 10 7 ?_
 refine pu_ 5 10 10 39 ?_
 refine tk_ 6 11 10 103 ?_ (hy := by rintro w' s0; go_simp; with_reducible rfl)
 refine pu_ 7 12 10 231 ?_
 refine pu_ 8 13 10 487 ?_
 refine on_ 3 8 10 495 (fun K hK => ?_)
 refine goes_ Try.func114 (by kernel_rfl) rfl #[.int .i64 (ws.length : Int), .bool false] (by rfl) rfl rfl (by first | rfl | (simp only [map_toArray, map_cons, map_nil]; try rfl)) ?_
 refine (A0.out _).mono ?_
 rintro e_ w10 ⟨v10, rfl, ho, hb⟩
 obtain ⟨Ao, co, rfl⟩ := Kd.R_slice ho
 have OV := ak_ ho
 refine ⟨_, rfl, ?_⟩
 have n0_ := ak_ (blk_below BK1.out hb); have n1_ := ak_ (ST.out.up hb); clear BK1 ST hb ho; have BK1 := n0_; have ST := n1_; clear n0_ n1_
 refine hK.out _ _ ((blk_cell BK1.out 0).trans rfl) (fun hHeld => ?_)
 clear hK K
 refine nm_ ?_
 refine on_ 4 9 10 511 (fun K hK => ?_)
 refine goes_ Try.func115 (by kernel_rfl) rfl #[.agg #[.slice Ao over.length co, .bool torch], .bool false] (by rfl) rfl rfl (by first | rfl | (simp only [map_toArray, map_cons, map_nil]; try rfl)) ?_
 refine (A1.out _ Ao co (Kd.R_reads' OV.out).2.2 (Kd.R_reads' OV.out).2.1).mono ?_
 rintro e_ w11 ⟨v12, rfl, hp, hb⟩
 obtain ⟨Ap, cp, rfl⟩ := Kd.R_slice hp
 refine ⟨_, rfl, ?_⟩
 have PL := ak_ (Kd.R_lower (ST.out.new (Nat.le_refl _) hp) (bz_ ST.out.bel))
 have n0_ := ak_ (blk_below BK1.out hb); have n1_ := ak_ (ST.out.up hb); clear BK1 ST hb hp OV; have BK1 := n0_; have ST := n1_; clear n0_ n1_
 refine hK.out _ _ ((blk_cell BK1.out 0).trans rfl) (fun hHeld => ?_)
 clear hK K
 refine nm_ ?_
 refine on_ 9 14 10 1023 (fun K hK => ?_)
 refine goes_ Try.func113 (by kernel_rfl) rfl #[.slice Ap P.length cp, .int .i64 (ws.length : Int), .func (.func 116) #[] #[.pointer (some ⟨gb5, 0, none⟩), .pointer (some ⟨gb1, 0, none⟩)]] (by rfl) rfl rfl (by first | rfl | (simp only [map_toArray, map_cons, map_nil]; try rfl)) ?_
 refine (A2.out gb1 gb5 w1 _ Ap cp v5 HB3.out B3.out ST.out PL.out).mono ?_
 rintro e_ w12 ⟨rfl, v11, hst, hfr⟩
 refine ⟨_, rfl, ?_⟩
 have n0_ := ak_ hst; have n1_ := ak_ ((hfr.at_ (blk_lt BK1.out) (fun e_ => by have := ST.out.ge; have := blk_lt B3.out; omega) (fun e_ => by have := Kd.S_base ST.out.row _ e_.symm; have := blk_lt B3.out; omega)).trans BK1.out); clear ST BK1 hst hfr; have ST := n0_; have BK1 := n1_; clear n0_ n1_
 refine hK.out _ _ ((blk_cell BK1.out 0).trans rfl) (fun hHeld => ?_)
 clear hK K
 refine nm_ ?_
 refine done_ (done_of HT_.out (by kernel_rfl)) ?_
 obtain ⟨bL, cL, ev, hbL, -⟩ := Kd.S_form ST.out.row HL.out.1
 subst ev
 have hLR := Kd.S_R ST.out.row
 have HR := ak_ hLR
 have hy5 := (blk_cell ST.out.out 0)
 simp at hy5
 have SL := ak_ fun (W : World) (ok : Nat → Prop) (HP : Kd.R (Kd.int .i64) 3 W w1.heap.size ok (.slice (some ⟨bL, 0, none⟩) L.length cL) L) => lo_sort bL cL w1.heap.size ok L W HP HL.out.1 HL.out.2
 have HBL := ak_ hbL
 have HNE := ak_ (Kd.S_ne ST.out.row ST.out.out (by decide))
 clear hLR hbL
 go_upto_region 4 with (go_at_call 118; refine (SL.out _ _ (Kd.pR HR.out)).mono ?_; rintro e w8 ⟨rfl, hs, hgr⟩; have n0_ := ak_ hs; have n1_ := ak_ (blk_grown (pk ST.out.out) hgr HNE.out); have n2_ := ak_ (lo_below (ST.out.up be_).bel hgr HBL.out); clear HR SL ST hy5 hs hgr; have HR := n0_; have BG := n1_; have HB := n2_; clear n0_ n1_ n2_; have hy5 := (blk_cell BG.out 0); simp at hy5)
 have CO := ak_ fun (W : World) (ok : Nat → Prop) (HP : Kd.R (Kd.int .i64) 3 W w1.heap.size ok (.slice (some ⟨bL, 0, none⟩) L.length cL) (L.mergeSort fun x y => decide (x ≤ y))) (hb : Below w1.heap.size w1 W) => (by
  have h := lo_compact bL cL w1.heap.size w1.heap.size ok (L.mergeSort fun x y => decide (x ≤ y)) w1 W (by rw [List.length_mergeSort]; exact HP) (by rw [List.length_mergeSort]; exact HL.out.2) hb (Nat.le_refl _)
  rw [List.length_mergeSort] at h
  exact h)
 go_wp2_with (go_at_call 119; refine (CO.out _ _ (Kd.pR HR.out) (bb_ HB.out)).mono ?_; rintro e w9 ⟨rfl, hs, hb⟩; have n0_ := ak_ hs; have n1_ := ak_ hb; clear HR CO HB hy5 hs hb BG; have HR := n0_; have HB := n1_; clear n0_ n1_)
 first | go_ret | go_ret2
 exact ⟨_, rfl, Kd.R_lower (Kd.R_mono (Kd.R_below HR.out be_) (fun _ _ => trivial)) (bz_ HB3.out), below_then HB3.out HB3.out.size (bb_ HB.out)⟩
def slices_Repeat_int_int.f (l0 : List Int) (a1 : Int) : Option (List Int) := if l0.length = 1 then (if 0 ≤ a1 then (if a1 ≤ 1000000 then some (List.replicate a1.toNat (l0.headD 0)) else none) else none) else none
def slices_Repeat_int_int.row (N m : Nat) (x : Int) : List Int := List.replicate m x ++ List.replicate (N - m) 0
theorem slices_Repeat_int_int.row_len {N m : Nat} {x : Int} (h : m ≤ N) : (slices_Repeat_int_int.row N m x).length = N := by
 unfold slices_Repeat_int_int.row
 rw [List.length_append, List.length_replicate, List.length_replicate]
 omega
theorem slices_Repeat_int_int.row_set {N m : Nat} {x : Int} (h : m < N) : (slices_Repeat_int_int.row N m x).set m x = slices_Repeat_int_int.row N (m + 1) x := by
 unfold slices_Repeat_int_int.row
 obtain ⟨r, hr⟩ : ∃ r, N - m = r + 1 := ⟨N - m - 1, by omega⟩
 rw [hr, show N - (m + 1) = r by omega, List.set_append_right _ _ (by simp), List.length_replicate, Nat.sub_self, List.replicate_succ, List.set_cons_zero, List.replicate_succ', List.append_assoc]
 rfl
theorem slices_Repeat_int_int.row_get {N m j : Nat} {x : Int} (h : j < m) : rdOf 0 (slices_Repeat_int_int.row N m x) (j : Int) = x := by
 unfold slices_Repeat_int_int.row rdOf
 rw [Int.toNat_natCast, List.getD_eq_getElem?_getD, List.getElem?_append_left (by simpa using h)]
 simp [h]
theorem slices_Repeat_int_int.puts {w : World} {base g N c : Nat} {x : Int} (hg : w.heap.size ≤ g) : ∀ (q m : Nat) (W : World), m + q ≤ N → (Kd.int .i64).R 3 W base (fun _ => True) (.slice (some ⟨g, 0, none⟩) N c) (slices_Repeat_int_int.row N m x) → Below w.heap.size w W →
  (Kd.int .i64).R 3 (W.setCells g m (List.replicate q (Value.int .i64 x))) base (fun _ => True) (.slice (some ⟨g, 0, none⟩) N c) (slices_Repeat_int_int.row N (m + q) x) ∧ Below w.heap.size w (W.setCells g m (List.replicate q (Value.int .i64 x)))
 | 0, m, W, _, h, hb => ⟨h, hb⟩
 | q + 1, m, W, hl, h, hb => by
  have h1 := (Kd.R_putg h (m : Int) x).1
  rw [Int.toNat_natCast, slices_Repeat_int_int.row_set (by omega)] at h1
  have h2 := slices_Repeat_int_int.puts hg q (m + 1) _ (by omega) h1 (below_set (j := m) (v := Value.int .i64 x) hb hg)
  rw [show m + (q + 1) = m + 1 + q by omega, List.replicate_succ]
  exact h2
theorem slices_Repeat_int_int.calls (A0 : Option Addr) (c0 : Nat) (l0 : List Int) (a1 : Int) (r : List Int) (w : World) (hr0 : Kd.C (Kd.int .i64) w A0 l0.length l0) (hc0 : l0.length ≤ c0) (h : slices_Repeat_int_int.f l0 a1 = some r) :
  Calls Try.prog 127 #[.slice A0 l0.length c0, .int .i64 a1] w fun e w' => ∃ v0_ : Value, e = .returned (v0_) ∧ (Kd.int .i64).R 3 w' w.heap.size (fun _ => True) v0_ r ∧ Below w.heap.size w w' := by
 unfold slices_Repeat_int_int.f at h
 by_cases hl : l0.length = 1
 rotate_left
 ·rw [if_neg hl] at h; exact absurd h (by simp)
 rw [if_pos hl] at h
 by_cases h0 : 0 ≤ a1
 rotate_left
 ·rw [if_neg h0] at h; exact absurd h (by simp)
 rw [if_pos h0] at h
 by_cases h1 : a1 ≤ 1000000
 rotate_left
 ·rw [if_neg h1] at h; exact absurd h (by simp)
 rw [if_pos h1] at h
 obtain ⟨x, rfl⟩ := List.length_eq_one_iff.mp hl
 obtain ⟨N, rfl⟩ : ∃ N : Nat, a1 = (N : Int) := ⟨a1.toNat, by omega⟩
 rw [Int.toNat_natCast] at h
 obtain rfl := Option.some.inj h
 obtain ⟨ad, rfl, hx⟩ := Kd.at_int hr0 0 (by decide) (by simp)
 have hx1 : w.cell? (ad.add 0) = some (Value.int .i64 x) := hx
 have HX := ak_ hx1
 have HN := ak_ h1
 have HB := ak_ (Below.refl w.heap.size w)
 have HM0 := fun (W : World) => Try.bits_Mul 1 N (by decide) (by omega) W
 rw [show (1 * N / 18446744073709551616 : Nat) = 0 by omega, show (1 * N % 18446744073709551616 : Nat) = N by omega] at HM0
 have HM := ak_ HM0
 have k0 : decide ((N : Int) < 0) = false := decide_eq_false (by omega)
 have k0n : ((N : Int) < 0) = False := eq_false (by omega)
 have k1 : IntKind.u64.wrap (N : Int) = (N : Int) := IntWalk.u64_in _ ⟨by omega, by omega⟩
 have k2 : IntKind.i64.wrap (N : Int) = (N : Int) := IntWalk.i64_in _ ⟨by omega, by omega⟩
 have k3 : decide ((9223372036854775807 : Int) < (N : Int)) = false := decide_eq_false (by omega)
 have k3n : ((9223372036854775807 : Int) < (N : Int)) = False := eq_false (by omega)
 have HH := ak_ (show List.replicate N x = List.replicate N (List.headD [x] 0) from rfl)
 clear h hl h0 h1 hr0 hc0 hx hx1 HM0
 go_enter Try.func127, Try.ntmps127
 go_upto_region 6 with (go_at_call 161; refine (HM.out _).mono ?_; rintro e w' ⟨rfl, hw_⟩; rw [hw_]; clear hw_ w')
 go_upto_region 7 with ((with_reducible refine gate_dst (N := 30) rfl ?_); refine Kd.R_make (Kd.int .i64) _ 3 rfl (N := 30) rfl 29 _ _ rfl (N : Int) rfl rfl Try.underlying29 (Value.int .i64 0) 8 info3 rfl (by decide) (by omega) 0 (ok := fun _ => True) (okp := fun _ => True) rfl (fun _ hk => hk) trivial (by omega) (by have := HN.out; omega) (Below.refl _ _) (Nat.le_refl _) ?_; intro v30 w30 ho hb hg hnew; have HO := ak_ (Kd.R_lower ho (bz_ (bb_ HB.out))); have n0_ := ak_ (bs_ (bb_ HB.out) hb); clear HB hb hg hnew ho; have HB := n0_; clear n0_)
 have h30 := HO.out
 rw [Int.toNat_natCast] at h30
 clear HO
 have hsz : (Try.prog.info? 3).map (·.size) = some 1 := by kernel_rfl
 by_cases hz : N = 0
 ·obtain ⟨A3, c3, e3⟩ := Kd.R_slice h30
  rw [List.length_replicate] at e3
  subst e3
  have HO := ak_ h30
  have hcp : ∀ W, (Builtin.copy_ #[29, 29] 3 #[.slice A3 N c3, .slice (some ad) 1 c0]).run Try.prog W = .ok (goInt 0) W := fun W => run_copy_none W 29 29 3 3 A3 (some ad) N c3 1 c0 Try.underlying29 hsz (by rw [hz]; rfl)
  have k4 : decide ((0 : Int) < (N : Int)) = false := decide_eq_false (by omega)
  have k4n : decide (0 < N) = false := decide_eq_false (by omega)
  have k4p : (0 < N) = False := eq_false (by omega)
  have HZ := ak_ hz
  clear h30 hz
  go_upto_region 8 with (fail)
  go_loopg [8] 0 (fun gg v8 wr => v8 = .int .i64 0 ∧ Aside0 ((Kd.int .i64).R 3 wr w.heap.size (fun _ => True) (.slice A3 N c3) (List.replicate N 0)) ∧ Aside0 (Below w.heap.size w wr))
  case atStart => exact ⟨rfl, ⟨Kd.R_below HO.out be_⟩, ⟨(bb_ HB.out)⟩⟩
  case round =>
   clear HO HB
   obtain ⟨rfl, HO, HB⟩ := hrel
   go_wp2
   go_ret
   exact ⟨_, rfl, by have h_ := HO.out; rw [HZ.out] at h_ ⊢; exact Kd.R_below h_ be_, (bb_ HB.out)⟩
 obtain ⟨g, cap, e3, hge, -, -⟩ := Kd.R_form h30 (by rw [List.length_replicate]; omega)
 rw [List.length_replicate] at e3
 subst e3
 have HO := ak_ (show (Kd.int .i64).R 3 w30 w.heap.size (fun _ => True) (.slice (some ⟨g, 0, none⟩) N cap) (slices_Repeat_int_int.row N 0 x) from h30)
 have HG := ak_ hge
 have HZ := ak_ hz
 have hc00 := Kd.R_celln 0 h30 (0 : Int) (by decide) (by omega)
 have hcp : (Builtin.copy_ #[29, 29] 3 #[.slice (some ⟨g, 0, none⟩) N cap, .slice (some ad) 1 c0]).run Try.prog w30 = .ok (goInt 1) (w30.setCells g 0 [Value.int .i64 x]) :=
  run_copy_cells w30 29 29 3 3 g 0 N cap ad 1 c0 [Value.int .i64 x] Try.underlying29 hsz (by simp [Nat.min_def]; omega)
   (fun j v hj => by
    rcases j with _ | j
    ·obtain rfl := Option.some.inj hj
     exact (HB.out.cell (World.block_lt_of_cell? w _ HX.out)).trans HX.out
    ·simp at hj)
   (fun j hj => by
    obtain rfl : j = 0 := by simpa using hj
    have := hc00.1
    simp at this ⊢
    rw [this]; rfl)
   (fun j hj => by
    obtain rfl : j = 0 := by simpa using hj
    have := hc00.2
    simpa using this) (by intro v hv; obtain rfl := List.mem_singleton.mp hv; rfl)
 clear h30 hge hz hc00
 go_upto_region 8 with (fail)
 have hp1 := slices_Repeat_int_int.puts (w := w) HG.out 1 0 w30 (by have := HZ.out; omega) HO.out HB.out
 have n0_ := ak_ hp1.1
 have n1_ := ak_ hp1.2
 clear HO HB hp1 hcp
 have HO := n0_; have HB := n1_
 clear n0_ n1_
 change Aside0 ((Kd.int .i64).R 3 (w30.setCells g 0 [Value.int .i64 x]) w.heap.size (fun _ => True) (.slice (some ⟨g, 0, none⟩) N cap) (slices_Repeat_int_int.row N 1 x)) at HO
 change Aside0 (Below w.heap.size w (w30.setCells g 0 [Value.int .i64 x])) at HB
 generalize hW8 : w30.setCells g 0 [Value.int .i64 x] = W8 at HO HB ⊢
 clear hW8
 go_loopg [8] N (fun gg v8 wr => ∃ m : Nat, v8 = .int .i64 (m : Int) ∧ 1 ≤ m ∧ m ≤ N ∧ N - m ≤ gg ∧ Aside0 ((Kd.int .i64).R 3 wr w.heap.size (fun _ => True) (.slice (some ⟨g, 0, none⟩) N cap) (slices_Repeat_int_int.row N m x)) ∧ Aside0 (Below w.heap.size w wr))
 case atStart => exact ⟨1, rfl, Nat.le_refl _, by have := HZ.out; omega, by omega, ⟨Kd.R_below HO.out be_⟩, ⟨(bb_ HB.out)⟩⟩
 case round =>
  clear HO HB
  obtain ⟨m, rfl, hm1, hmN, hg, HO, HB⟩ := hrel
  by_cases hlt : m < N
  ·have q1 : decide ((m : Int) < (N : Int)) = true := decide_eq_true (by omega)
   have q1n : decide (m < N) = true := decide_eq_true hlt
   have q1p : (m < N) = True := eq_true hlt
   have hcap := (Kd.R_reads' HO.out).2.1
   have h00 := fun j (hj : j < N) => Kd.R_celln 0 HO.out (j : Int) (by omega) (by omega)
   have b0 : (0 : Int) ≤ (m : Int) := by omega
   have b1 : (m : Int) ≤ (N : Int) := by omega
   have b2 : (m : Int) ≤ (cap : Int) := by omega
   have b3 : (N : Int) ≤ (cap : Int) := by omega
   have b1n : m ≤ N := by omega
   have b2n : m ≤ cap := by omega
   have b3n : N ≤ cap := by omega
   have b4 : (cap = m) = False := eq_false (by omega)
   have b5 : ((cap : Int) = (m : Int)) = False := eq_false (by omega)
   obtain ⟨q, hq⟩ : ∃ q, q = Nat.min m (N - m) := ⟨_, rfl⟩
   have hq1 : q ≤ m := by rw [hq]; exact Nat.min_le_left _ _
   have hq2' : q ≤ N - m := by rw [hq]; exact Nat.min_le_right _ _
   have hq2 : m + q ≤ N := by omega
   clear hq2'
   have hq3 : 1 ≤ q := by rw [hq]; exact Nat.le_min.2 ⟨hm1, by omega⟩
   have hw : IntKind.i64.wrap ((m : Int) + (q : Int)) = ((m + q : Nat) : Int) := by rw [IntWalk.i64_in _ ⟨by omega, by have := HN.out; omega⟩]; omega
   have hp1 := slices_Repeat_int_int.puts (w := w) HG.out q m wr.drew hq2 (Kd.R_drew HO.out) (b1_ HB.out)
   have hcp : (Builtin.copy_ #[29, 29] 3 #[.slice (some ⟨g, m, none⟩) (N - m) (cap - m), .slice (some ⟨g, 0, none⟩) m cap]).run Try.prog wr.drew = .ok (goInt (q : Int)) (wr.drew.setCells g m (List.replicate q (Value.int .i64 x))) := by
    have h_ := run_copy_cells (P := Try.prog) wr.drew 29 29 3 3 g m (N - m) (cap - m) ⟨g, 0, none⟩ m cap (List.replicate q (Value.int .i64 x)) Try.underlying29 hsz (by rw [List.length_replicate]; exact hq)
     (fun j v hj => by
      rw [List.getElem?_replicate] at hj
      by_cases hjq : j < q
      ·rw [if_pos hjq] at hj
       obtain rfl := Option.some.inj hj
       have e := (h00 j (by omega)).1
       rw [slices_Repeat_int_int.row_get (by omega), Int.toNat_natCast] at e
       rw [add_plain]
       simpa using e
      ·rw [if_neg hjq] at hj; exact absurd hj (by simp))
     (fun j hj => by
      rw [List.length_replicate] at hj
      have e := (h00 (m + j) (by omega)).1
      rw [Int.toNat_natCast] at e
      simp only [World.cell?_drew]
      rw [e]; rfl)
     (fun j hj => by
      rw [List.length_replicate] at hj
      have e := (h00 (m + j) (by omega)).2
      rw [Int.toNat_natCast] at e
      simpa using e) (by intro v hv; obtain rfl := List.eq_of_mem_replicate hv; rfl)
    rw [List.length_replicate] at h_
    exact h_
   have HQ := ak_ (And.intro hq3 (And.intro hg hlt))
   have HP1 := ak_ hp1
   clear hq hq1 hq3 h00 hp1 hcap hm1 hmN hg hlt
   try go_wp2
   refine start_ (n := 10) (S := fun _ => True) (ds := [9]) (mb_ 10 0) (by kernel_rfl) rfl rfl trivial (fun hHeld => ?_)
   refine pure_ (i := 0) (N := some 38) (v := ?_) (a' := ?_) (mb_ 10 1) rfl rfl (by kernel_rfl) (fun _ _ _ h => h) (Or.inl ⟨by rfl, ?_⟩) ?_ ?_
   rotate_left
   ·intro w'
    go_simp
    with_reducible rfl
   rotate_left
   ·simp only [Act.put, setIfInBounds_toArray, set_cons_zero, set_cons_succ, i64_w, i32_w]
    rfl
   refine pure_ (i := 1) (N := some 39) (v := ?_) (a' := ?_) (mb_ 10 3) rfl rfl (by kernel_rfl) (fun _ _ _ h => h) (Or.inl ⟨by rfl, ?_⟩) ?_ ?_
   rotate_left
   ·intro w'
    go_simp
    with_reducible rfl
   rotate_left
   ·simp only [Act.put, setIfInBounds_toArray, set_cons_zero, set_cons_succ, i64_w, i32_w]
    rfl
   refine pure_ (i := 2) (N := some 40) (v := ?_) (a' := ?_) (mb_ 10 7) rfl rfl (by kernel_rfl) (fun _ _ _ h => h) (Or.inl ⟨by rfl, ?_⟩) ?_ ?_
   rotate_left
   ·intro w'
    go_simp
    with_reducible rfl
   rotate_left
   ·simp only [Act.put, setIfInBounds_toArray, set_cons_zero, set_cons_succ, i64_w, i32_w]
    rfl
   refine pure_ (i := 3) (N := some 41) (v := ?_) (a' := ?_) (mb_ 10 15) rfl rfl (by kernel_rfl) (fun _ _ _ h => h) (Or.inl ⟨by rfl, ?_⟩) ?_ ?_
   rotate_left
   ·intro w'
    go_simp
    with_reducible rfl
   rotate_left
   ·simp only [Act.put, setIfInBounds_toArray, set_cons_zero, set_cons_succ, i64_w, i32_w]
    rfl
   refine pure_ (i := 4) (N := some 42) (v := ?_) (a' := ?_) (mb_ 10 31) rfl rfl (by kernel_rfl) (fun _ _ _ h => h) (Or.inl ⟨by rfl, ?_⟩) ?_ ?_
   rotate_left
   ·intro w'
    go_simp
    with_reducible rfl
   rotate_left
   ·simp only [Act.put, setIfInBounds_toArray, set_cons_zero, set_cons_succ, i64_w, i32_w]
    rfl
   refine pure_ (i := 5) (N := some 43) (v := ?_) (a' := ?_) (mb_ 10 63) rfl rfl (by kernel_rfl) (fun _ _ _ h => h) (Or.inl ⟨by rfl, ?_⟩) ?_ ?_
   rotate_left
   ·intro w'
    go_simp
    with_reducible rfl
   rotate_left
   ·simp only [Act.put, setIfInBounds_toArray, set_cons_zero, set_cons_succ, i64_w, i32_w]
    rfl
   refine pure_ (i := 6) (N := some 44) (v := ?_) (a' := ?_) (mb_ 10 127) rfl rfl (by kernel_rfl) (fun _ _ _ h => h) (Or.inl ⟨by rfl, ?_⟩) ?_ ?_
   rotate_left
   ·intro w'
    go_simp
    with_reducible rfl
   rotate_left
   ·simp only [Act.put, setIfInBounds_toArray, set_cons_zero, set_cons_succ, i64_w, i32_w]
    rfl
   refine one_ (i := 7) (N := some 45) (mb_ 10 255) rfl rfl (by kernel_rfl) (by decide) (fun K hK => ?_)
   refine value_ (w1 := ?_) (v := ?_) (by rfl) rfl ?_ ?_
   rotate_left 2
   ·go_simp
    constructor
    ·rfl
    ·rfl
   refine hK.out _ _ trivial (fun hHeld => ?_)
   clear hK K
   refine nm_ ?_
   refine pure_ (i := 8) (N := some 46) (v := ?_) (a' := ?_) (mb_ 10 511) rfl rfl (by kernel_rfl) (fun _ _ _ h => h) (Or.inl ⟨by rfl, ?_⟩) ?_ ?_
   rotate_left
   ·intro w'
    go_simp
    with_reducible rfl
   rotate_left
   ·simp only [Act.put, setIfInBounds_toArray, set_cons_zero, set_cons_succ, i64_w, i32_w]
    rfl
   refine pure_ (i := 9) (N := some 8) (v := ?_) (a' := ?_) (mb_ 10 1023) rfl rfl (by kernel_rfl) (fun _ _ _ h => h) (Or.inl ⟨by rfl, ?_⟩) ?_ ?_
   rotate_left
   ·intro w'
    go_simp
    with_reducible rfl
   rotate_left
   ·simp only [Act.put, setIfInBounds_toArray, set_cons_zero, set_cons_succ, i64_w, i32_w]
    rfl
   refine done_ (by kernel_rfl) ?_
   clear HO HB hcp
   have HO := ak_ HP1.out.1
   have HB := ak_ HP1.out.2
   clear HP1
   generalize wr.drew.setCells g m (List.replicate q (Value.int .i64 x)) = W9 at HO HB ⊢
   try go_wp2
   go_roundg (N - (m + q))
   case measure => have := HQ.out; omega
   case rel => exact ⟨m + q, (ry_), by have := HQ.out; omega, hq2, Nat.le_refl _, ⟨Kd.R_below HO.out be_⟩, ⟨(bb_ HB.out)⟩⟩
  ·have q1 : decide ((m : Int) < (N : Int)) = false := decide_eq_false (by omega)
   have q1n : decide (m < N) = false := decide_eq_false hlt
   have q1p : (m < N) = False := eq_false hlt
   obtain rfl : m = N := by omega
   clear hlt hg hmN hm1
   go_wp2
   go_ret
   have e : slices_Repeat_int_int.row m m x = List.replicate m (List.headD [x] 0) := by unfold slices_Repeat_int_int.row; rw [Nat.sub_self]; simp
   exact ⟨_, rfl, by have h_ := HO.out; rw [e] at h_; exact Kd.R_below h_ be_, (bb_ HB.out)⟩
end Go.Proofs.Ythkchdfkeieabaa.QGr
