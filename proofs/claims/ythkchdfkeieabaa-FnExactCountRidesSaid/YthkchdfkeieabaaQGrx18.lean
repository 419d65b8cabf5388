/- Contracts of functions of the given program, walked: each call returns what its Lean function says. Conditions: those that stand at each theorem. (Written by a program of this session.) -/
import Derived.Test.YthkchdfkeieabaaQGrx0
import Derived.Test.YthkchdfkeieabaaQGrx10
import Derived.Test.YthkchdfkeieabaaQGrx11
import Derived.Test.YthkchdfkeieabaaQGrx12
import Derived.Test.YthkchdfkeieabaaQGrx15
import Derived.Test.YthkchdfkeieabaaQGrx16
import Derived.Test.YthkchdfkeieabaaQGrx17
namespace Go.Proofs.Ythkchdfkeieabaa.QGr
open Go.RowKit Go.Proofs.YthkchdfkeieabaaW.PrintWords Go.Proofs.YthkchdfkeieabaaW.PrintLast Go.Proofs.YthkchdfkeieabaaW.PrintMore
open List (setIfInBounds_toArray set_cons_zero set_cons_succ map_toArray map_cons map_nil)
attribute [local go_sem] max2_int min2_int max_two min_two max_three min_three max_four min_four
set_option linter.unusedVariables false
set_option maxHeartbeats 8000000
set_option maxRecDepth 100000
set_option linter.unusedSimpArgs false
def kpSt (k : Nat) (th : Int) (ds : List (List Int)) (se : Int) (ov : List Bool) (tq : Bool) (l : List Int) (acc : List (List Int)) : Option (List (List Int)) :=
 (impl_Bank_ridden.f k ov tq l).bind fun m => (impl_Keep_dangers.f k th ds se m.1 m.2).bind fun L => if L.length = 0 then (if acc.length < 1000000 then some (acc ++ [l]) else none) else some acc
theorem gOn_mono {α : Type} {st st' : List Int → List α → Option (List α)} (h : ∀ l a, LeO (st l a) (st' l a)) (most : Int) : ∀ P l acc, LeO (gOn st most P l acc) (gOn st' most P l acc)
 | [], _, _ => LeO.refl _
 | x :: P, l, acc => LeO.ite (LeO.bind (h _ _) (fun _ => LeO.bind (gOn_mono h most P _ _) (fun _ => gOn_mono h most P _ _))) (LeO.refl _)
theorem gp_lit0 {α : Type} (d : Kd α) (e : Nat) (W : World) {base : Nat} (hb : base ≤ W.heap.size) : Kd.S d e (W.alloc (.cells #[] e)) base (fun _ => True) (.slice (some ⟨W.heap.size, 0, none⟩) 0 0) [] := by
 refine ⟨fun _ => 0, fun _ _ => trivial, [], ?_, Reps.none _ _⟩
 have h2 := World.ownsRow_lit (base := base) (e := e) (size := d.sz) W #[] 0 hb (by simp [maxLen]) (by simp)
 have h3 : (W.alloc (.cells #[] e)).ownsRow base e d.sz (.slice (some ⟨W.heap.size, 0, none⟩) 0 0) 0 [] := by simpa using h2
 exact h3
theorem gp_new2 (W : World) (o o2 : Obj) : ((W.alloc o).alloc o2).heap[W.heap.size + 1]? = some o2 := by
 have h := blk_new (W.alloc o) o2
 have e : (W.alloc o).heap.size = W.heap.size + 1 := Array.size_push ..
 rw [e] at h
 exact h
theorem kpSt_mono (k : Nat) (th : Int) (ds : List (List Int)) (se : Int) (ov : List Bool) (tq : Bool) (l : List Int) (acc : List (List Int)) : LeO (kpSt k th ds se ov tq l acc) (kpSt (k + 1) th ds se ov tq l acc) :=
 LeO.bind (impl_Bank_ridden.mono _ _ _ _) (fun _ => LeO.bind (impl_Keep_dangers.mono _ _ _ _ _ _) (fun _ => LeO.refl _))
def try_each.T0 : Bool × List (List Nat × List Nat) := (true, [([], []), ([], []), ([], []), ([1, 2], [1, 2]), ([0, 3, 3], [0, 3]), ([4], [4]), ([5], [5])])
def try_each.B0 : List Nat := [0, 0, 0, 6, 15, 31, 63]
theorem try_each.T0_ : rtab .any (opsOf Try.f167 0) = try_each.T0 := by kernel_rfl
theorem try_each.B0_ : waitsOk try_each.T0.2 try_each.B0 = true := by kernel_rfl
theorem try_each (k : Nat) (Bk Bb g : Nat) (w0 : World) (th : Int) (Ad : Option Addr) (cd0 : Nat) (ds : List (List Int)) (se : Int) (Ao : Option Addr) (co : Nat) (ov : List Bool) (tq : Bool) (hBk : w0.heap[Bk]? = some (.cells #[.int .i64 th, .slice Ad ds.length cd0, .int .i64 se] 52 (0, 0))) (hBb : w0.heap[Bb]? = some (.cells #[.slice Ao ov.length co, .bool tq] 90 (0, 0)))
  (hd : Kd.C (Kd.slice 3 (Kd.int .i64)) w0 Ad ds.length ds) (hdc : ds.length ≤ cd0) (ho : Kd.C Kd.bool w0 Ao ov.length ov) (hco : ov.length ≤ co) : GpEach (Kd.slice 3 (Kd.int .i64)) 29 47 (kpSt k th ds se ov tq) g 167 #[.pointer (some ⟨Bk, 0, none⟩), .pointer (some ⟨Bb, 0, none⟩), .pointer (some ⟨g, 0, none⟩)] w0 := by
 intro W v vL l acc a1 hst hl hs
 have hu := Try.underlying90
 have hu2 := Try.underlying52
 unfold kpSt at hs
 obtain ⟨⟨mo, mt⟩, h1, hs⟩ := Option.bind_eq_some_iff.mp hs
 obtain ⟨L, h2, hs⟩ := Option.bind_eq_some_iff.mp hs
 obtain ⟨A1, c1, rfl, hle, hl1⟩ := gp_row hl
 obtain ⟨A, c, rfl⟩ := Kd.S_slice hst.row
 have A2 := ak_ fun (W2 : World) (hb : Below W.heap.size W W2) => impl_Bank_ridden.calls k Ao co ov tq A1 c1 l mo mt W2 (Kd.C_below (Kd.C_below ho hst.bel) hb) hco (Kd.C_below hl1 hb) hle h1
 have A3 := ak_ fun (W2 : World) (hb : Below W.heap.size W W2) (Am : Option Addr) (cm : Nat) (hm : Kd.C Kd.bool W2 Am mo.length mo) (hcm : mo.length ≤ cm) => impl_Keep_dangers.calls k th Ad cd0 ds se Am cm mo mt L W2 (Kd.C_below (Kd.C_below hd hst.bel) hb) hdc hm hcm h2
 have BK := ak_ (blk_below hBk hst.bel)
 have BB := ak_ (blk_below hBb hst.bel)
 have ST := ak_ hst
 have RL := ak_ hl
 have HBW := ak_ (Below.refl W.heap.size W)
 have FR := ak_ (GpFr.below (g := g) (v := .slice A acc.length c) (Below.refl W.heap.size W))
 by_cases hL : L.length = 0
 rotate_left
 ·rw [if_neg hL] at hs
  obtain rfl := Option.some.inj hs
  have hz : decide ((L.length : Int) = 0) = false := decide_eq_false (by omega)
  have hz2 : ((L.length : Int) == 0) = false := by rw [beq_eq_false_iff_ne]; omega
  have hz3 : ¬ L = [] := fun e => hL (by rw [e]; rfl)
  clear hs h1 h2 hst hl hl1 hle hd hdc ho hco hBk hBb
  go_enter Try.func167, Try.ntmps167
  try go_wp2
  have n0_ := ak_ (ST.out.up (below_drew (Below.refl _ _))); have n1_ := ak_ (Kd.R_below RL.out (below_drew (Below.refl _ _))); have n2_ := ak_ (FR.out.trans (GpFr.below (below_drew (Below.refl _ _)))); have n3_ := ak_ (blk_below BK.out (below_drew (Below.refl _ _))); have n4_ := ak_ (blk_below BB.out (below_drew (Below.refl _ _))); have n5_ := ak_ (bs_ HBW.out (below_drew (Below.refl _ _))); clear ST RL FR BK BB HBW; have ST := n0_; have RL := n1_; have FR := n2_; have BK := n3_; have BB := n4_; have HBW := n5_; clear n0_ n1_ n2_ n3_ n4_ n5_
  refine start_ (n := 7) (S := fun w' => w'.cell? ⟨Bk, 0, none⟩ = some (.int .i64 th) ∧ w'.cell? ⟨Bk, 1, none⟩ = some (.slice Ad ds.length cd0) ∧ w'.cell? ⟨Bk, 2, none⟩ = some (.int .i64 se) ∧ w'.cell? ⟨Bb, 0, none⟩ = some (.slice Ao ov.length co) ∧ w'.cell? ⟨Bb, 1, none⟩ = some (.bool tq)) (ds := []) (mb_ 7 0) (by kernel_rfl) rfl rfl ⟨(blk_cell BK.out 0).trans rfl, (blk_cell BK.out 1).trans rfl, (blk_cell BK.out 2).trans rfl, (blk_cell BB.out 0).trans rfl, (blk_cell BB.out 1).trans rfl⟩ (fun hHeld => ?_); refine with_tabW try_each.T0_ try_each.B0_ (fun HT_ HW_ => ?_)
  generalize W.drew = w9 at ST RL FR BK BB HBW hHeld ⊢
  refine tk_ 0 5 7 1 ?_ (hy := by rintro w' ⟨s0, s1, s2, s3, s4⟩; go_simp; with_reducible rfl)
  refine tk_ 1 6 7 3 ?_ (hy := by rintro w' ⟨s0, s1, s2, s3, s4⟩; go_simp; with_reducible rfl)
  refine pu_ 2 7 7 7 ?_
  refine on_ 3 8 7 15 (fun K hK => ?_)
  refine goes_ Try.func143 (by kernel_rfl) rfl #[.agg #[.slice Ao ov.length co, .bool tq], .slice A1 l.length c1] (by rfl) rfl rfl (by first | rfl | (simp only [map_toArray, map_cons, map_nil]; try rfl)) ?_
  refine (A2.out _ HBW.out).mono ?_
  rintro e_ w10 ⟨v10, rfl, hm_, hb⟩
  obtain ⟨Am, cm, rfl⟩ := Kd.R_slice hm_
  have OM := ak_ hm_
  refine ⟨_, rfl, ?_⟩
  have n0_ := ak_ (ST.out.up hb); have n1_ := ak_ (Kd.R_below RL.out hb); have n2_ := ak_ (FR.out.trans (GpFr.below hb)); have n3_ := ak_ (blk_below BK.out hb); have n4_ := ak_ (blk_below BB.out hb); have n5_ := ak_ (bs_ HBW.out hb); clear ST RL FR BK BB HBW hb hm_; have ST := n0_; have RL := n1_; have FR := n2_; have BK := n3_; have BB := n4_; have HBW := n5_; clear n0_ n1_ n2_ n3_ n4_ n5_
  refine hK.out _ _ ⟨(blk_cell BK.out 0).trans rfl, (blk_cell BK.out 1).trans rfl, (blk_cell BK.out 2).trans rfl, (blk_cell BB.out 0).trans rfl, (blk_cell BB.out 1).trans rfl⟩ (fun hHeld => ?_)
  clear hK K
  refine nm_ ?_
  refine on_ 4 9 7 31 (fun K hK => ?_)
  refine goes_ Try.func168 (by kernel_rfl) rfl #[.agg #[.int .i64 th, .slice Ad ds.length cd0, .int .i64 se], .agg #[.slice Am mo.length cm, .bool mt]] (by rfl) rfl rfl (by first | rfl | (simp only [map_toArray, map_cons, map_nil]; try rfl)) ?_
  refine (A3.out _ HBW.out Am cm (Kd.R_reads' OM.out).2.2 (Kd.R_reads' OM.out).2.1).mono ?_
  rintro e_ w16 ⟨v16, rfl, hL_, hb⟩
  obtain ⟨AL, cL, rfl⟩ := Kd.S_slice hL_
  refine ⟨_, rfl, ?_⟩
  have n0_ := ak_ (ST.out.up hb); have n1_ := ak_ (Kd.R_below RL.out hb); have n2_ := ak_ (FR.out.trans (GpFr.below hb)); have n3_ := ak_ (blk_below BK.out hb); have n4_ := ak_ (blk_below BB.out hb); have n5_ := ak_ (bs_ HBW.out hb); clear ST RL FR BK BB HBW hb hL_ OM; have ST := n0_; have RL := n1_; have FR := n2_; have BK := n3_; have BB := n4_; have HBW := n5_; clear n0_ n1_ n2_ n3_ n4_ n5_
  refine hK.out _ _ ⟨(blk_cell BK.out 0).trans rfl, (blk_cell BK.out 1).trans rfl, (blk_cell BK.out 2).trans rfl, (blk_cell BB.out 0).trans rfl, (blk_cell BB.out 1).trans rfl⟩ (fun hHeld => ?_)
  clear hK K
  refine nm_ ?_
  refine pu_ 5 10 7 63 ?_
  refine pu_ 6 11 7 127 ?_
  refine done_ (done_of HT_.out (by kernel_rfl)) ?_
  try go_wp2
  go_end0
  exact ⟨rfl, _, ST.out.any, FR.out⟩
 ·rw [if_pos hL] at hs
  by_cases hlen : acc.length < 1000000
  rotate_left
  ·rw [if_neg hlen] at hs; exact absurd hs (by simp)
  rw [if_pos hlen] at hs
  obtain rfl := Option.some.inj hs
  have hz : decide ((L.length : Int) = 0) = true := decide_eq_true (by omega)
  have hz2 : ((L.length : Int) == 0) = true := by rw [beq_iff_eq]; omega
  have hz3 : L = [] := List.eq_nil_of_length_eq_zero hL
  have HLEN := ak_ hlen
  clear hs h1 h2 hst hl hl1 hle hd hdc ho hco hBk hBb hlen
  go_enter Try.func167, Try.ntmps167
  try go_wp2
  have n0_ := ak_ (ST.out.up (below_drew (Below.refl _ _))); have n1_ := ak_ (Kd.R_below RL.out (below_drew (Below.refl _ _))); have n2_ := ak_ (FR.out.trans (GpFr.below (below_drew (Below.refl _ _)))); have n3_ := ak_ (blk_below BK.out (below_drew (Below.refl _ _))); have n4_ := ak_ (blk_below BB.out (below_drew (Below.refl _ _))); have n5_ := ak_ (bs_ HBW.out (below_drew (Below.refl _ _))); clear ST RL FR BK BB HBW; have ST := n0_; have RL := n1_; have FR := n2_; have BK := n3_; have BB := n4_; have HBW := n5_; clear n0_ n1_ n2_ n3_ n4_ n5_
  refine start_ (n := 7) (S := fun w' => w'.cell? ⟨Bk, 0, none⟩ = some (.int .i64 th) ∧ w'.cell? ⟨Bk, 1, none⟩ = some (.slice Ad ds.length cd0) ∧ w'.cell? ⟨Bk, 2, none⟩ = some (.int .i64 se) ∧ w'.cell? ⟨Bb, 0, none⟩ = some (.slice Ao ov.length co) ∧ w'.cell? ⟨Bb, 1, none⟩ = some (.bool tq)) (ds := []) (mb_ 7 0) (by kernel_rfl) rfl rfl ⟨(blk_cell BK.out 0).trans rfl, (blk_cell BK.out 1).trans rfl, (blk_cell BK.out 2).trans rfl, (blk_cell BB.out 0).trans rfl, (blk_cell BB.out 1).trans rfl⟩ (fun hHeld => ?_); refine with_tabW try_each.T0_ try_each.B0_ (fun HT_ HW_ => ?_)
  generalize W.drew = w9 at ST RL FR BK BB HBW hHeld ⊢
  refine tk_ 0 5 7 1 ?_ (hy := by rintro w' ⟨s0, s1, s2, s3, s4⟩; go_simp; with_reducible rfl)
  refine tk_ 1 6 7 3 ?_ (hy := by rintro w' ⟨s0, s1, s2, s3, s4⟩; go_simp; with_reducible rfl)
  refine pu_ 2 7 7 7 ?_
  refine on_ 3 8 7 15 (fun K hK => ?_)
  refine goes_ Try.func143 (by kernel_rfl) rfl #[.agg #[.slice Ao ov.length co, .bool tq], .slice A1 l.length c1] (by rfl) rfl rfl (by first | rfl | (simp only [map_toArray, map_cons, map_nil]; try rfl)) ?_
  refine (A2.out _ HBW.out).mono ?_
  rintro e_ w10 ⟨v10, rfl, hm_, hb⟩
  obtain ⟨Am, cm, rfl⟩ := Kd.R_slice hm_
  have OM := ak_ hm_
  refine ⟨_, rfl, ?_⟩
  have n0_ := ak_ (ST.out.up hb); have n1_ := ak_ (Kd.R_below RL.out hb); have n2_ := ak_ (FR.out.trans (GpFr.below hb)); have n3_ := ak_ (blk_below BK.out hb); have n4_ := ak_ (blk_below BB.out hb); have n5_ := ak_ (bs_ HBW.out hb); clear ST RL FR BK BB HBW hb hm_; have ST := n0_; have RL := n1_; have FR := n2_; have BK := n3_; have BB := n4_; have HBW := n5_; clear n0_ n1_ n2_ n3_ n4_ n5_
  refine hK.out _ _ ⟨(blk_cell BK.out 0).trans rfl, (blk_cell BK.out 1).trans rfl, (blk_cell BK.out 2).trans rfl, (blk_cell BB.out 0).trans rfl, (blk_cell BB.out 1).trans rfl⟩ (fun hHeld => ?_)
  clear hK K
  refine nm_ ?_
  refine on_ 4 9 7 31 (fun K hK => ?_)
  refine goes_ Try.func168 (by kernel_rfl) rfl #[.agg #[.int .i64 th, .slice Ad ds.length cd0, .int .i64 se], .agg #[.slice Am mo.length cm, .bool mt]] (by rfl) rfl rfl (by first | rfl | (simp only [map_toArray, map_cons, map_nil]; try rfl)) ?_
  refine (A3.out _ HBW.out Am cm (Kd.R_reads' OM.out).2.2 (Kd.R_reads' OM.out).2.1).mono ?_
  rintro e_ w16 ⟨v16, rfl, hL_, hb⟩
  obtain ⟨AL, cL, rfl⟩ := Kd.S_slice hL_
  refine ⟨_, rfl, ?_⟩
  have n0_ := ak_ (ST.out.up hb); have n1_ := ak_ (Kd.R_below RL.out hb); have n2_ := ak_ (FR.out.trans (GpFr.below hb)); have n3_ := ak_ (blk_below BK.out hb); have n4_ := ak_ (blk_below BB.out hb); have n5_ := ak_ (bs_ HBW.out hb); clear ST RL FR BK BB HBW hb hL_ OM; have ST := n0_; have RL := n1_; have FR := n2_; have BK := n3_; have BB := n4_; have HBW := n5_; clear n0_ n1_ n2_ n3_ n4_ n5_
  refine hK.out _ _ ⟨(blk_cell BK.out 0).trans rfl, (blk_cell BK.out 1).trans rfl, (blk_cell BK.out 2).trans rfl, (blk_cell BB.out 0).trans rfl, (blk_cell BB.out 1).trans rfl⟩ (fun hHeld => ?_)
  clear hK K
  refine nm_ ?_
  refine pu_ 5 10 7 63 ?_
  refine pu_ 6 11 7 127 ?_
  refine done_ (done_of HT_.out (by kernel_rfl)) ?_
  go_upto_region 1 with (fail)
  have hy5 := (blk_cell ST.out.out 0)
  have hf5 := (blk_frozen ST.out.out 0)
  simp at hy5
  go_wp2_with (first | ((with_reducible refine gate_builtin (b := .append) (xs := #[.tmp 12, .tmp 14]) rfl ?_); at_builtin; refine Kd.S_append (Kd.slice 3 (Kd.int .i64)) (w0 := w0) w0.heap.size rfl (.tmp 12) (.tmp 14) 47 29 (.slice none 0 0) 24 rfl Try.underlying47 info29 rfl (by decide) (by omega) (.slice A acc.length c) acc l [.slice A1 l.length c1] (fun _ => True) (fun k_ => some k_ = (Value.slice A1 l.length c1).ownBlock) rfl rfl ?aP ?aK (fun _ _ => trivial) ?aO ?aB ?aS ?aL ?_; (case aP => exact ⟨_, rfl, Kd.R_tight rfl (Kd.pR RL.out)⟩); (case aK => (intro k_ hk_; exact ⟨trivial, (RL.out.1 k_ hk_.symm).2⟩)); (case aO => exact Kd.S_mono (Kd.pS ST.out.row) (fun k_ hk_ => ⟨trivial, hk_⟩)); (case aB => exact (ST.out.up be_).bel); (case aS => exact bz_ (ST.out.up be_).bel); (case aL => have := HLEN.out; omega); intro v9 w9 ho hb hg hat; obtain ⟨Ao, co, rfl⟩ := Kd.S_slice ho; have HO := ak_ ho; have HB9 := ak_ hb; have HG := ak_ hg; have HAT := ak_ hat; have n0_ := ak_ (blk_grown (pk ST.out.out) hg (Kd.S_ne ST.out.row ST.out.out (by decide))); have hf9 := (blk_frozen n0_.out 0); have hy9 := (blk_cell n0_.out 0); simp at hy9; clear ho hb hg hat))
  go_end0
  refine ⟨rfl, .slice Ao (acc.length + 1) co, ⟨?_, ?_, ?_, ST.out.ge⟩, ?_⟩
  rotate_left
  ·exact (by (with_reducible repeat (first | apply Kd.S_alloc | apply Kd.S_drewN | apply Kd.S_drew)); have h_ := Kd.S_set HO.out n0_.out (by decide) 0 (.slice Ao (acc.length + 1) co); rw [List.length_append, List.length_singleton] at h_; exact h_)
  ·exact (by repeat (first | (with_reducible first | exact HB9.out | apply ba_ | apply bN_ | apply b1_ | refine below_set ?_ ST.out.ge) | exact HB9.out))
  ·refine FR.out.trans ⟨?_, fun k_ hk_ hg_ ht_ => ?_, ?_⟩
   ·have h2_ := HG.out.size
    first | (simp; omega) | (simp at h2_ ⊢; omega)
   ·have e2_ : w9.heap[k_]? = w16.heap[k_]? := HG.out.block k_ hk_ ht_
    exact (Below.heap_setCell w9 ⟨g, 0, none⟩ _ k_ hg_).trans e2_
   ·rcases HAT.out with e_ | ⟨b_, e_, h_⟩
    ·left
     rw [List.length_append, List.length_singleton] at e_
     exact e_
    ·right
     intro b2_ h2_
     rw [List.length_append, List.length_singleton] at e_
     rw [e_] at h2_
     injection h2_ with h2_
     omega
  ·exact (by (with_reducible repeat (first | refine kN_ ?_ _ | refine k1_ ?_ | refine ka_ ?_ _)); exact blk_put n0_.out 0 _ rfl)
def impl_Keep_rides.T4 : Bool × List (List Nat × List Nat) := (true, [([], []), ([0], [0]), ([], []), ([2], [2]), ([1, 3, 1], [1, 3]), ([], []), ([5], [5]), ([], []), ([4, 6, 7, 4], [4, 6, 7])])
def impl_Keep_rides.B4 : List Nat := [0, 1, 0, 4, 15, 0, 32, 0, 255]
theorem impl_Keep_rides.T4_ : rtab .any (opsOf Try.f142 4) = impl_Keep_rides.T4 := by kernel_rfl
theorem impl_Keep_rides.B4_ : waitsOk impl_Keep_rides.T4.2 impl_Keep_rides.B4 = true := by kernel_rfl
def impl_Keep_rides.f (k : Nat) (th : Int) (ds : List (List Int)) (se : Int) (over : List Bool) (torch : Bool) : Option (List (List Int)) := (kpSt k th ds se over torch [] []).bind fun a0 => (impl_State_side.f k over torch torch).bind fun P => if P.length ≤ 100 then gOn (kpSt k th ds se over torch) se P [] a0 else none
theorem impl_Keep_rides.mono : ∀ th ds se over torch k, LeO (impl_Keep_rides.f k th ds se over torch) (impl_Keep_rides.f (k + 1) th ds se over torch) := fun th ds se over torch k =>
 LeO.bind (kpSt_mono _ _ _ _ _ _ _ _) (fun _ => LeO.bind (impl_State_side.mono _ _ _ _) (fun _ => LeO.ite (gOn_mono (fun _ _ => kpSt_mono _ _ _ _ _ _ _ _) _ _ _ _) (LeO.refl _)))
theorem impl_Keep_rides.calls (k : Nat) (th : Int) (Ad : Option Addr) (cd0 : Nat) (ds : List (List Int)) (se : Int) (Ao : Option Addr) (co : Nat) (over : List Bool) (torch : Bool) (r : List (List Int)) (w : World)
  (hd : Kd.C (Kd.slice 3 (Kd.int .i64)) w Ad ds.length ds) (hdc : ds.length ≤ cd0) (ho : Kd.C Kd.bool w Ao over.length over) (hco : over.length ≤ co) (h : impl_Keep_rides.f k th ds se over torch = some r) :
  Calls Try.prog 142 #[.agg #[.int .i64 th, .slice Ad ds.length cd0, .int .i64 se], .agg #[.slice Ao over.length co, .bool torch]] w fun e w' => ∃ v0_ : Value, e = .returned v0_ ∧ Kd.S (Kd.slice 3 (Kd.int .i64)) 29 w' w.heap.size (fun _ => True) v0_ r ∧ Below w.heap.size w w' := by
 have hu := Try.underlying52
 have hu2 := Try.underlying90
 have hu3 := Try.underlying115
 unfold impl_Keep_rides.f at h
 obtain ⟨a0, h0, h⟩ := Option.bind_eq_some_iff.mp h
 obtain ⟨P, h1, h⟩ := Option.bind_eq_some_iff.mp h
 by_cases hP : P.length ≤ 100
 rotate_left
 ·rw [if_neg hP] at h; exact absurd h (by simp)
 rw [if_pos hP] at h
 have A0 := ak_ fun (Bk Bb g : Nat) (w0 : World) (h0 : Below w.heap.size w w0) (hBk : w0.heap[Bk]? = some (.cells #[.int .i64 th, .slice Ad ds.length cd0, .int .i64 se] 52 (0, 0))) (hBb : w0.heap[Bb]? = some (.cells #[.slice Ao over.length co, .bool torch] 90 (0, 0))) =>
  try_each k Bk Bb g w0 th Ad cd0 ds se Ao co over torch hBk hBb (Kd.C_below hd h0) hdc (Kd.C_below ho h0) hco
 have AS := ak_ fun (W : World) (hb : Below w.heap.size w W) => impl_Bank_state.calls (fun k_ => k_ < W.heap.size) Ao co over torch over torch W (Kd.V_mk hco (Kd.C_F Kd.heap_bool (Kd.C_below ho hb))) rfl
 have A1 := ak_ fun (W : World) (A2 : Option Addr) (c2 : Nat) (ho2 : Kd.C Kd.bool W A2 over.length over) (hco2 : over.length ≤ c2) => impl_State_side.calls k A2 c2 over torch torch P W ho2 hco2 h1
 have A2 := ak_ fun (Bk Bb g : Nat) (w0 W : World) (Ap : Option Addr) (cp : Nat) (v : Value) (h0 : Below w.heap.size w w0) (hBk : w0.heap[Bk]? = some (.cells #[.int .i64 th, .slice Ad ds.length cd0, .int .i64 se] 52 (0, 0))) (hBb : w0.heap[Bb]? = some (.cells #[.slice Ao over.length co, .bool torch] 90 (0, 0))) (hst : GpSt (Kd.slice 3 (Kd.int .i64)) 29 47 g w0 W v (fun _ => True) a0) (hp : (Kd.int .i64).R 3 W w0.heap.size (fun k => k ≠ g ∧ some k ≠ v.ownBlock) (.slice Ap P.length cp) P) =>
  groups_calls (Kd.slice 3 (Kd.int .i64)) 29 47 (kpSt k th ds se over torch) g 167 #[.pointer (some ⟨Bk, 0, none⟩), .pointer (some ⟨Bb, 0, none⟩), .pointer (some ⟨g, 0, none⟩)] w0 Ap cp P se (enters_of Try.func167 (by kernel_rfl) rfl) (A0.out Bk Bb g w0 h0 hBk hBb) hP v r W hst hp h
 have HB := ak_ (Below.refl w.heap.size w)
 have H0 := ak_ h0
 clear h h0 h1 hP hd hdc ho hco
 go_enter Try.func142, Try.ntmps142
 go_upto_region 2 with (first | ((with_reducible refine gate_dst (N := 2) rfl ?_); refine bx_ 2 #[.int .i64 th, .slice Ad ds.length cd0, .int .i64 se] 52 ?_; intro gb2 hg w2 hbox hb; have nb_ := ak_ (bs_ (bb_ HB.out) hb); have nc_ := ak_ hbox; have nd_ := ak_ ((by rw [hg]; exact (bz_ (bb_ HB.out)) : w.heap.size ≤ gb2)); clear HB hb hbox hg; have HB := nb_; have BK2 := nc_; have GE2 := nd_; clear nb_ nc_ nd_; have hz2_0 := (blk_cell BK2.out 0); have hf2_0 := (blk_frozen BK2.out 0); simp at hz2_0; have hz2_1 := (blk_cell BK2.out 1); have hf2_1 := (blk_frozen BK2.out 1); simp at hz2_1; have hz2_2 := (blk_cell BK2.out 2); have hf2_2 := (blk_frozen BK2.out 2); simp at hz2_2; skip) | ((with_reducible refine gate_dst (N := 3) rfl ?_); refine bx_ 3 #[.slice Ao over.length co, .bool torch] 90 ?_; intro gb3 hg w3 hbox hb; have n0_ := ak_ (blk_below (pk BK2.out) hb); have m0_ := ak_ ((by rw [hg]; exact Nat.ne_of_lt (blk_lt (pk BK2.out)) : gb2 ≠ gb3)); have nb_ := ak_ (bs_ (bb_ HB.out) hb); have nc_ := ak_ hbox; have nd_ := ak_ ((by rw [hg]; exact (bz_ (bb_ HB.out)) : w.heap.size ≤ gb3)); clear HB hb hbox hg; clear BK2; have BK2 := n0_; have NE2_3 := m0_; have HB := nb_; have BK3 := nc_; have GE3 := nd_; clear nb_ nc_ nd_ n0_ m0_; have hz3_0 := (blk_cell BK3.out 0); have hf3_0 := (blk_frozen BK3.out 0); simp at hz3_0; have hz3_1 := (blk_cell BK3.out 1); have hf3_1 := (blk_frozen BK3.out 1); simp at hz3_1; skip))
 have HB3 := ak_ HB.out
 have hst := (show GpSt (Kd.slice 3 (Kd.int .i64)) 29 47 (w3.heap.size + 1) w3 ((w3.alloc (.cells #[] 29)).alloc (.cells #[.slice (some ⟨w3.heap.size, 0, none⟩) 0 0] 47)) (.slice (some ⟨w3.heap.size, 0, none⟩) 0 0) (fun _ => True) [] from ⟨gp_new2 w3 _ _, Kd.S_alloc (gp_lit0 _ _ w3 (Nat.le_refl _)) _, ba_ (ba_ (Below.refl _ _) _) _, Nat.le_succ _⟩)
 have n0_ := ak_ (ka_ (ka_ BK2.out (.cells #[] 29)) (.cells #[.slice (some ⟨w3.heap.size, 0, none⟩) 0 0] 47))
 have n1_ := ak_ (ka_ (ka_ BK3.out (.cells #[] 29)) (.cells #[.slice (some ⟨w3.heap.size, 0, none⟩) 0 0] 47))
 have B2 := ak_ BK2.out
 have B3 := ak_ BK3.out
 have ST := ak_ hst
 clear BK2 BK3 HB hst hz2_0 hz2_1 hz2_2 hf2_0 hf2_1 hf2_2 hz3_0 hz3_1 hf3_0 hf3_1
 have BK2 := n0_; have BK3 := n1_; clear n0_ n1_
 generalize (w3.alloc (.cells #[] 29)).alloc (.cells #[.slice (some ⟨w3.heap.size, 0, none⟩) 0 0] 47) = w5 at BK2 BK3 ST ⊢
 generalize Value.slice (some ⟨w3.heap.size, 0, none⟩) 0 0 = v5 at ST ⊢
 generalize w3.heap.size + 1 = gb5 at ST ⊢
 have he := A0.out gb2 gb3 gb5 w3 HB3.out B2.out B3.out
 unfold GpEach at he
 simp only [List.append_toArray, List.cons_append, List.nil_append] at he
 have HE := ak_ he
 clear he
 have L0 := ak_ (Kd.S_R (gp_lit0 (Kd.int .i64) 3 w5 (Nat.le_refl _)))
 go_upto_region 4 with (go_at_call 167; refine (HE.out _ v5 (.slice (some ⟨w5.heap.size, 0, none⟩) 0 0) [] [] a0 ((ST.out.old (Kd.R_base L0.out)).up (ba_ (Below.refl _ _) _)) (Kd.R_lower (ST.out.new (Nat.le_refl _) L0.out) (bz_ ST.out.bel)) H0.out).mono ?_; rintro e w6 ⟨rfl, hT⟩; have HT := ak_ hT; clear hT)
 obtain ⟨v6, hst6, hfr6⟩ := HT.out
 have n0_ := ak_ hst6
 have n1_ := ak_ ((hfr6.at_ (blk_lt (ka_ BK2.out (.cells #[] 3))) (fun e_ => by have := ST.out.ge; have := blk_lt B2.out; omega) (fun e_ => by have := Kd.S_base ST.out.row _ e_.symm; have := blk_lt B2.out; omega)).trans (ka_ BK2.out _))
 have n2_ := ak_ ((hfr6.at_ (blk_lt (ka_ BK3.out (.cells #[] 3))) (fun e_ => by have := ST.out.ge; have := blk_lt B3.out; omega) (fun e_ => by have := Kd.S_base ST.out.row _ e_.symm; have := blk_lt B3.out; omega)).trans (ka_ BK3.out _))
 clear ST BK2 BK3 hst6 hfr6 HT L0 HE
 have ST := n0_; have BK2 := n1_; have BK3 := n2_; clear n0_ n1_ n2_
 try go_wp2
 have n0_ := ak_ (k1_ BK2.out); have n1_ := ak_ (k1_ BK3.out); have n2_ := ak_ (ST.out.up (below_drew (Below.refl _ _))); clear BK2 BK3 ST; have BK2 := n0_; have BK3 := n1_; have ST := n2_; clear n0_ n1_ n2_
 refine start_ (n := 9) (S := fun w' => w'.cell? ⟨gb3, 0, none⟩ = some (.slice Ao over.length co) ∧ w'.cell? ⟨gb3, 1, none⟩ = some (.bool torch) ∧ w'.cell? ⟨gb2, 2, none⟩ = some (.int .i64 se)) (ds := []) (mb_ 9 0) (by kernel_rfl) rfl rfl ⟨(blk_cell BK3.out 0).trans rfl, (blk_cell BK3.out 1).trans rfl, (blk_cell BK2.out 2).trans rfl⟩ (fun hHeld => ?_); refine with_tabW impl_Keep_rides.T4_ impl_Keep_rides.B4_ (fun HT_ HW_ => ?_)
 generalize w6.drew = w9 at BK2 BK3 ST hHeld ⊢
 refine tk_ 0 12 9 1 ?_ (hy := by rintro w' ⟨s0, s1, s2⟩; go_simp; with_reducible rfl)
 refine pu_ 2 14 9 5 ?_
 refine tk_ 3 15 9 13 ?_ (hy := by rintro w' ⟨s0, s1, s2⟩; go_simp; with_reducible rfl)
 refine pu_ 5 17 9 45 ?_
 refine tk_ 6 18 9 109 ?_ (hy := by rintro w' ⟨s0, s1, s2⟩; go_simp; with_reducible rfl)
 refine pu_ 7 19 9 237 ?_
 refine on_ 1 13 9 239 (fun K hK => ?_)
 refine goes_ Try.func144 (by kernel_rfl) rfl #[.agg #[.slice Ao over.length co, .bool torch]] (by rfl) rfl rfl (by first | rfl | (simp only [map_toArray, map_cons, map_nil]; try rfl)) ?_
 refine (AS.out _ (below_then HB3.out HB3.out.size ST.out.bel)).mono ?_
 rintro e_ w10 ⟨v10, rfl, hv_, hb⟩
 obtain ⟨As, cs, rfl⟩ := Kd.V_slice hv_
 have SV := ak_ (Kd.V_reads' hv_)
 refine ⟨_, rfl, ?_⟩
 have n0_ := ak_ (blk_below BK2.out hb); have n1_ := ak_ (blk_below BK3.out hb); have n2_ := ak_ (ST.out.up hb); clear BK2 BK3 ST hb hv_; have BK2 := n0_; have BK3 := n1_; have ST := n2_; clear n0_ n1_ n2_
 refine hK.out _ _ ⟨(blk_cell BK3.out 0).trans rfl, (blk_cell BK3.out 1).trans rfl, (blk_cell BK2.out 2).trans rfl⟩ (fun hHeld => ?_)
 clear hK K
 refine nm_ ?_
 refine on_ 4 16 9 255 (fun K hK => ?_)
 refine goes_ Try.func115 (by kernel_rfl) rfl #[.agg #[.slice As over.length cs, .bool torch], .bool torch] (by rfl) rfl rfl (by first | rfl | (simp only [map_toArray, map_cons, map_nil]; try rfl)) ?_
 refine (A1.out _ As cs SV.out.2.2 SV.out.2.1).mono ?_
 rintro e_ w12 ⟨v12, rfl, hp, hb⟩
 obtain ⟨Ap, cp, rfl⟩ := Kd.R_slice hp
 refine ⟨_, rfl, ?_⟩
 have PL := ak_ (Kd.R_lower (ST.out.new (Nat.le_refl _) hp) (bz_ ST.out.bel))
 have n0_ := ak_ (blk_below BK2.out hb); have n1_ := ak_ (blk_below BK3.out hb); have n2_ := ak_ (ST.out.up hb); clear BK2 BK3 ST hb hp SV; have BK2 := n0_; have BK3 := n1_; have ST := n2_; clear n0_ n1_ n2_
 refine hK.out _ _ ⟨(blk_cell BK3.out 0).trans rfl, (blk_cell BK3.out 1).trans rfl, (blk_cell BK2.out 2).trans rfl⟩ (fun hHeld => ?_)
 clear hK K
 refine nm_ ?_
 refine on_ 8 20 9 511 (fun K hK => ?_)
 refine goes_ Try.func113 (by kernel_rfl) rfl #[.slice Ap P.length cp, .int .i64 se, .func (.func 167) #[] #[.pointer (some ⟨gb2, 0, none⟩), .pointer (some ⟨gb3, 0, none⟩), .pointer (some ⟨gb5, 0, none⟩)]] (by rfl) rfl rfl (by first | rfl | (simp only [map_toArray, map_cons, map_nil]; try rfl)) ?_
 refine (A2.out gb2 gb3 gb5 w3 _ Ap cp v6 HB3.out B2.out B3.out ST.out PL.out).mono ?_
 rintro e_ w11 ⟨rfl, v11, hst, hfr⟩
 refine ⟨_, rfl, ?_⟩
 have n0_ := ak_ hst; have n1_ := ak_ ((hfr.at_ (blk_lt BK2.out) (fun e_ => by have := ST.out.ge; have := blk_lt B2.out; omega) (fun e_ => by have := Kd.S_base ST.out.row _ e_.symm; have := blk_lt B2.out; omega)).trans BK2.out); have n2_ := ak_ ((hfr.at_ (blk_lt BK3.out) (fun e_ => by have := ST.out.ge; have := blk_lt B3.out; omega) (fun e_ => by have := Kd.S_base ST.out.row _ e_.symm; have := blk_lt B3.out; omega)).trans BK3.out); clear ST BK2 BK3 hst hfr; have ST := n0_; have BK2 := n1_; have BK3 := n2_; clear n0_ n1_ n2_
 refine hK.out _ _ ⟨(blk_cell BK3.out 0).trans rfl, (blk_cell BK3.out 1).trans rfl, (blk_cell BK2.out 2).trans rfl⟩ (fun hHeld => ?_)
 clear hK K
 refine nm_ ?_
 refine done_ (done_of HT_.out (by kernel_rfl)) ?_
 have hy5 := (blk_cell ST.out.out 0)
 simp at hy5
 go_wp2
 first | go_ret | go_ret2
 exact ⟨_, rfl, Kd.S_lower (Kd.S_below ST.out.row be_) (bz_ HB3.out), below_then HB3.out HB3.out.size (ST.out.up be_).bel⟩
theorem ls_lead {α : Type} {d : Kd α} {eI e g n cap base : Nat} {ok : Nat → Prop} {W : World} {ls : List (List α)} {cl : Array Value} (h : Kd.S (Kd.slice eI d) e W base ok (.slice (some ⟨g, 0, none⟩) n cap) ls) (hb : W.heap[g]? = some (.cells cl e (0, 0))) :
  ∃ f : Nat → Nat, ∀ (j : Nat) (l : List α), ls[j]? = some l → ∃ u : Value, cl[j]? = some u ∧ d.R eI W base (fun k => (ok k ∧ k ≠ g) ∧ f k = j) u l := by
 obtain ⟨f, hown, inner, ho, hl, hr⟩ := h
 refine ⟨f, fun j l hj => ?_⟩
 obtain ⟨v, hc, hR⟩ := hr j (l, j) (Kd.zip_at hj)
 rcases ho.2 with ⟨hv, _⟩ | ⟨g', cap', cur, hv, -, hh, -, -, -, ht⟩
 ·cases hv
 cases hv
 rw [hb] at hh
 injection hh with hh
 injection hh with hh _
 subst hh
 have hjl := (List.getElem?_eq_some_iff.1 hj).1
 have hsz : (Kd.tag f (Kd.slice eI d)).sz = 1 := rfl
 rw [hsz] at hc ht
 refine ⟨v, ?_, Kd.R_mono hR (fun k hk => ⟨⟨hk.1.1, fun e_ => hk.1.2 (by rw [e_]; rfl)⟩, hk.2⟩)⟩
 have h2 : inner[j]? = some v := by
  have h3 := congrArg (fun l : List Value => l[0]?) hc
  simp only [List.getElem?_take, List.getElem?_drop, Nat.mul_one, Nat.add_zero] at h3
  simpa using h3
 rw [← ht, List.getElem?_take] at h2
 split at h2
 ·rw [Array.getElem?_toList] at h2
  exact h2
 ·exact absurd h2 (by simp)
def edRel (cl : Array Value) (ls : List (List Int)) (acc : List S110) (res : List REdge) : Prop := acc.length = res.length ∧ ∀ (i : Nat) (a : S110) (r : REdge), acc[i]? = some a → res[i]? = some r → r.f0 = a.f0 ∧ r.f1 = a.f1 ∧ ls[i]? = some a.f2 ∧ cl[i]? = some (.slice r.A r.n r.c)
theorem edRel.snoc {cl : Array Value} {ls : List (List Int)} {acc : List S110} {res : List REdge} (h : edRel cl ls acc res) {j : Nat} (hj : acc.length = j) {q c : Int} {l : (List Int)} {A : Option Addr} {n cc : Nat} (hl : ls[j]? = some l) (hc : cl[j]? = some (.slice A n cc)) : edRel cl ls (acc ++ [⟨q, c, l⟩]) (res ++ [⟨q, c, A, n, cc⟩]) := by
 refine ⟨by rw [List.length_append, List.length_append, h.1]; rfl, fun i a r ha hr => ?_⟩
 rcases Nat.lt_or_ge i acc.length with hi | hi
 ·rw [List.getElem?_append_left hi] at ha
  rw [List.getElem?_append_left (by rw [← h.1]; exact hi)] at hr
  exact h.2 i a r ha hr
 ·have hi' := (List.getElem?_eq_some_iff.1 ha).1
  rw [List.length_append, List.length_singleton] at hi'
  have e : i = acc.length := by omega
  subst e
  rw [List.getElem?_append_right (Nat.le_refl _), Nat.sub_self] at ha
  rw [h.1, List.getElem?_append_right (Nat.le_refl _), Nat.sub_self] at hr
  obtain rfl := Option.some.inj ha
  obtain rfl := Option.some.inj hr
  rw [hj]
  exact ⟨rfl, rfl, hl, hc⟩
theorem edRel.shut {W : World} {base g n cap : Nat} {ok okr : Nat → Prop} {ls : List (List Int)} {cl : Array Value} {v : Value} {es : List S110} {res : List REdge} (h : edRel cl ls es res) (hls : Kd.S (Kd.slice 3 (Kd.int .i64)) 29 W base ok (.slice (some ⟨g, 0, none⟩) n cap) ls) (hb : W.heap[g]? = some (.cells cl 29 (0, 0)))
  (hR : kre.R 110 W base okr v res) (hne : 110 ∉ 3 :: (Kd.int .i64).E) : Kd.S k110 110 W base (fun _ => True) v es := by
 obtain ⟨f, hf⟩ := ls_lead hls hb
 have hL : LeadT W base (fun k => some k ≠ v.ownBlock) f es.zipIdx res := LeadT.of (by rw [List.length_zipIdx]; exact h.1) (fun j z r hz hr => by
  rw [List.getElem?_zipIdx, Nat.zero_add] at hz
  obtain ⟨a, ha, rfl⟩ := Option.map_eq_some_iff.1 hz
  obtain ⟨e0, e1, hl, hc⟩ := h.2 j a r ha hr
  obtain ⟨u, hu, hR2⟩ := hf j a.f2 hl
  rw [hc] at hu
  obtain rfl := Option.some.inj hu
  refine ⟨e0, e1, Kd.R_mono (Kd.R_bound hR2) (fun k hk => ⟨fun e_ => ?_, hk.1.2⟩)⟩
  obtain ⟨_, _, _, q, hq, cells, hcq⟩ := hk
  obtain ⟨cells2, hc2⟩ := Kd.R_typed hR k e_.symm
  rw [hcq] at hc2
  injection hc2 with hc2
  injection hc2 with _ hc2
  exact hne (hc2 ▸ hq))
 have h2 := lead_shut hR hL (by rw [List.zipIdx_map_snd]; exact List.nodup_range') (fun k hk => hk)
 rw [List.zipIdx_map_fst] at h2
 exact h2
def kpEd (k : Nat) (ov : List Bool) (tq : Bool) : List (List Int) → List S110 → Option (List S110)
 | [], acc => some acc
 | l :: ls, acc => (impl_Bank_ridden.f k ov tq l).bind fun st => (impl_State_code.f k st.1 st.2).bind fun q => if acc.length < 1000000 then kpEd k ov tq ls (acc ++ [⟨q, 1, l⟩]) else none
theorem kpEd_mono (k : Nat) (ov : List Bool) (tq : Bool) : ∀ ls acc, LeO (kpEd k ov tq ls acc) (kpEd (k + 1) ov tq ls acc)
 | [], _ => LeO.refl _
 | l :: ls, acc => LeO.bind (impl_Bank_ridden.mono _ _ _ _) (fun _ => LeO.bind (impl_State_code.mono _ _ _) (fun _ => LeO.ite (kpEd_mono k ov tq ls _) (LeO.refl _)))
def kpG (k : Nat) (th : Int) (ds : List (List Int)) (se : Int) (s : Int) : Option (List S110) :=
 (impl_stateOf.f k th s).bind fun st => (impl_Keep_rides.f k th ds se st.1 st.2).bind fun ls => if ls.length < 1000000 then kpEd k st.1 st.2 ls [] else none
theorem kpG_mono (k : Nat) (th : Int) (ds : List (List Int)) (se : Int) (s : Int) : LeO (kpG k th ds se s) (kpG (k + 1) th ds se s) :=
 LeO.bind (impl_stateOf.mono _ _ _) (fun _ => LeO.bind (impl_Keep_rides.mono _ _ _ _ _ _) (fun _ => LeO.ite (kpEd_mono _ _ _ _ _) (LeO.refl _)))
theorem impl_Keep_graph.calls_1 (k : Nat) (Bk : Nat) (th : Int) (Ad : Option Addr) (cd0 : Nat) (ds : List (List Int)) (se s : Int) (es : List S110) (w : World)
  (hBc : w.heap[Bk]? = some (.cells #[.int .i64 th, .slice Ad ds.length cd0, .int .i64 se] 52 (0, 0)))
  (hd : Kd.C (Kd.slice 3 (Kd.int .i64)) w Ad ds.length ds) (hdc : ds.length ≤ cd0) (h : kpG k th ds se s = some es) :
  Calls Try.prog 141 #[.int .i64 s, .pointer (some ⟨Bk, 0, none⟩)] w fun e w' => ∃ v : Value, e = .returned v ∧ Kd.S k110 110 w' w.heap.size (fun _ => True) v es ∧ Below w.heap.size w w' := by
 have hu := Try.underlying52
 have hu2 := Try.underlying110
 have hu3 := Try.underlying115
 have hu4 := Try.underlying90
 unfold kpG at h
 obtain ⟨⟨ov, tq⟩, h1, h⟩ := Option.bind_eq_some_iff.mp h
 obtain ⟨ls, h2, h⟩ := Option.bind_eq_some_iff.mp h
 by_cases hls : ls.length < 1000000
 rotate_left
 ·rw [if_neg hls] at h; exact absurd h (by simp)
 rw [if_pos hls] at h
 have A1 := ak_ fun (W : World) => impl_stateOf.calls k th s ov tq W h1
 have A2 := ak_ fun (W : World) (hb : Below w.heap.size w W) (Ao : Option Addr) (c0 : Nat) (ho : Kd.C Kd.bool W Ao ov.length ov) (hco : ov.length ≤ c0) => impl_Keep_rides.calls k th Ad cd0 ds se Ao c0 ov tq ls W (Kd.C_below hd hb) hdc ho hco h2
 have HLS := ak_ hls
 have H := ak_ h
 have HB := ak_ (Below.refl w.heap.size w)
 have hc0 := blk_cell hBc 0
 have hc1 := blk_cell hBc 1
 have hc2 := blk_cell hBc 2
 simp at hc0
 simp at hc1
 simp at hc2
 have BC := ak_ hBc
 clear h h1 h2 hls hBc hd hdc
 go_enter Try.func141, Try.ntmps141
 go_upto_region 2 with (first | (go_at_call 123; refine (A1.out _).mono ?_; rintro e w13 ⟨v13, rfl, ho, hb⟩; obtain ⟨Ao, c0, rfl⟩ := Kd.R_slice ho; have OV := ak_ ho; clear hc0 hc1 hc2; have n0_ := ak_ (blk_below BC.out hb); have n1_ := ak_ (bs_ HB.out hb); clear BC HB hb ho; have BC := n0_; have HB := n1_; clear n0_ n1_))
 have hkr := Kd.R_alloc (Kd.S_R (gp_lit0 kre 110 w13 (bz_ HB.out))) (.cells #[.slice Ao ov.length c0, .bool tq] 115)
 have hk6 := gp_new2 w13 (.cells #[] 110) (.cells #[.slice Ao ov.length c0, .bool tq] 115)
 have hb5 := (ba_ (ba_ (Below.refl w13.heap.size w13) (.cells #[] 110)) (.cells #[.slice Ao ov.length c0, .bool tq] 115))
 generalize (w13.alloc (.cells #[] 110)).alloc (.cells #[.slice Ao ov.length c0, .bool tq] 115) = w5 at hkr hk6 hb5 ⊢
 generalize Value.slice (some ⟨w13.heap.size, 0, none⟩) 0 0 = v5 at hkr ⊢
 generalize w13.heap.size + 1 = gs6 at hk6 ⊢
 have n0_ := ak_ (blk_below BC.out hb5); have n1_ := ak_ (bs_ HB.out hb5); have n2_ := ak_ (Kd.R_below OV.out hb5); clear BC HB OV hb5; have BC := n0_; have HB := n1_; have OV := n2_; clear n0_ n1_ n2_
 have HR := ak_ hkr
 have BS := ak_ hk6
 have hq3 := blk_cell BS.out 0
 have hq4 := blk_cell BS.out 1
 simp at hq3
 simp at hq4
 clear hkr hk6
 go_upto_region 3 with (fail)
 have n0_ := ak_ (Kd.R_alloc HR.out (.cells #[.slice Ao ov.length c0, .bool tq] 90))
 have n1_ := ak_ (Kd.R_alloc OV.out (.cells #[.slice Ao ov.length c0, .bool tq] 90))
 have n2_ := ak_ (ka_ BC.out (.cells #[.slice Ao ov.length c0, .bool tq] 90))
 have n3_ := ak_ (ba_ HB.out (.cells #[.slice Ao ov.length c0, .bool tq] 90))
 have n4_ := ak_ (blk_new w5 (.cells #[.slice Ao ov.length c0, .bool tq] 90))
 clear HR OV BC HB BS hq3 hq4
 generalize w5.alloc (.cells #[.slice Ao ov.length c0, .bool tq] 90) = w6 at n0_ n1_ n2_ n3_ n4_ ⊢
 generalize w5.heap.size = gb6 at n4_ ⊢
 have HR := n0_; have OV := n1_; have BC := n2_; have HB := n3_; have BK6 := n4_
 clear n0_ n1_ n2_ n3_ n4_
 have hz6_0 := blk_cell BK6.out 0
 have hz6_1 := blk_cell BK6.out 1
 simp at hz6_0
 simp at hz6_1
 have hq0 := blk_cell BC.out 0
 have hq1 := blk_cell BC.out 1
 have hq2 := blk_cell BC.out 2
 simp at hq0
 simp at hq1
 simp at hq2
 go_wp2_with (first | (go_at_call 142; refine (A2.out _ (bb_ HB.out) Ao c0 (Kd.R_reads' OV.out).2.2 (Kd.R_reads' OV.out).2.1).mono ?_; rintro e w17 ⟨v17, rfl, ho, hb⟩; obtain ⟨Al, cl_, rfl⟩ := Kd.S_slice ho; have HLR := ak_ (Kd.S_lower ho (bz_ (bb_ HB.out))); clear hq0 hq1 hq2 hz6_0 hz6_1; have n0_ := ak_ (blk_below (pk BC.out) hb); have n1_ := ak_ (blk_below (pk BK6.out) hb); have n2_ := ak_ (bs_ (bb_ HB.out) hb); have n3_ := ak_ (Kd.R_below (Kd.pR OV.out) hb); have n4_ := ak_ (Kd.R_below (Kd.pR HR.out) hb); clear BC BK6 HB OV HR hb ho; have BC := n0_; have BK6 := n1_; have HB := n2_; have OV := n3_; have HR := n4_; clear n0_ n1_ n2_ n3_ n4_))
 obtain ⟨gl, cl, hAl⟩ : ∃ (gl : Nat) (cl : Array Value), ls.length = 0 ∨ (Al = some ⟨gl, 0, none⟩ ∧ w17.heap[gl]? = some (.cells cl 29 (0, 0))) := by
  rcases Nat.eq_zero_or_pos ls.length with h0 | h0
  ·exact ⟨0, #[], .inl h0⟩
  ·obtain ⟨g, cap, e, -, -, cl, hc⟩ := Kd.S_form HLR.out h0
   injection e with e1 _ e3
   exact ⟨g, cl, .inr ⟨e1, hc⟩⟩
 have HAL := ak_ hAl
 have HER := ak_ (show edRel cl ls [] [] from ⟨rfl, fun i a r h _ => by simp at h⟩)
 clear hAl
 go_loopg [5, 23] ls.length (fun gg v7 v19 wr => ∃ (j : Nat) (acc : List S110) (res : List REdge), v19 = .int .i64 (j : Int) ∧ Aside0 (j ≤ ls.length ∧ ls.length - j ≤ gg ∧ acc.length = j) ∧ Aside0 (kpEd k ov tq (ls.drop j) acc = some es) ∧ Aside0 (edRel cl ls acc res) ∧ Aside0 (kre.R 110 wr w.heap.size (fun _ => True) v7 res) ∧ Aside0 (Kd.S (Kd.slice 3 (Kd.int .i64)) 29 wr w.heap.size (fun _ => True) (.slice Al ls.length cl_) ls) ∧ Aside0 (ls.length = 0 ∨ (Al = some ⟨gl, 0, none⟩ ∧ wr.heap[gl]? = some (.cells cl 29 (0, 0)))) ∧ Aside0 (wr.heap[gb6]? = some (.cells #[.slice Ao ov.length c0, .bool tq] 90 (0, 0))) ∧ Aside0 (Kd.R Kd.bool 4 wr w.heap.size (fun _ => True) (.slice Ao ov.length c0) ov) ∧ Aside0 (Below w.heap.size w wr))
 case atStart => exact ⟨0, [], [], rfl, ⟨⟨Nat.zero_le _, Nat.le_refl _, rfl⟩⟩, H, HER, ⟨Kd.pR HR.out⟩, ⟨Kd.pS HLR.out⟩, HAL, ⟨pk BK6.out⟩, ⟨Kd.pR OV.out⟩, ⟨(bb_ HB.out)⟩⟩
 case round =>
  clear H HER HR HLR HAL BK6 OV HB BC
  obtain ⟨j, acc, res, rfl, HJ, H, HER, HR, HLR, HAL, BK6, OV, HB⟩ := hrel
  by_cases hj : j < ls.length
  ·have j1 : decide ((j : Int) < (ls.length : Int)) = true := decide_eq_true (by omega)
   have j1n : decide (j < ls.length) = true := decide_eq_true hj
   have j0p : ((0 : Int) ≤ (j : Int)) = True := eq_true (by omega)
   have j1p : ((j : Int) < (ls.length : Int)) = True := eq_true (by omega)
   rcases HAL.out with h0 | ⟨rfl, hbl⟩
   ·exact absurd h0 (by omega)
   obtain ⟨vi, oki, hcell, -, hRi, -, -⟩ := fr_lend HLR.out (j : Int) (by omega) (by omega)
   rw [Int.toNat_natCast] at hcell hRi
   obtain ⟨Aj, cj, rfl⟩ := Kd.R_slice hRi
   have hcl : cl[j]? = some (.slice Aj (ls.getD j []).length cj) := by rw [← blk_cell hbl]; exact hcell
   obtain ⟨l, hl⟩ : ∃ l, l = ls.getD j [] := ⟨_, rfl⟩
   rw [← hl] at hcell hRi hcl
   have hlj : ls[j]? = some l := by rw [hl, List.getD_eq_getElem?_getD, List.getElem?_eq_getElem hj]; rfl
   have h := H.out
   rw [List.drop_eq_getElem_cons hj, show ls[j] = l from by rw [List.getElem?_eq_getElem hj] at hlj; exact Option.some.inj hlj] at h
   simp only [kpEd] at h
   obtain ⟨⟨mo, mt⟩, h3, h⟩ := Option.bind_eq_some_iff.mp h
   obtain ⟨q, h4, h⟩ := Option.bind_eq_some_iff.mp h
   by_cases hac : acc.length < 1000000
   rotate_left
   ·rw [if_neg hac] at h; exact absurd h (by simp)
   rw [if_pos hac] at h
   have A3 := ak_ fun (W : World) (hb : Below wr.heap.size wr W) => impl_Bank_ridden.calls k Ao c0 ov tq Aj cj l mo mt W (Kd.C_below (Kd.R_reads' OV.out).2.2 hb) (Kd.R_reads' OV.out).2.1 (Kd.C_below (Kd.R_reads' hRi).2.2 hb) (Kd.R_reads' hRi).2.1 h3
   have A5 := ak_ fun (W : World) (Am : Option Addr) (cm : Nat) (hm : Kd.C Kd.bool W Am mo.length mo) (hcm : mo.length ≤ cm) => impl_Bank_state.calls (fun k_ => k_ < W.heap.size) Am cm mo mt mo mt W (Kd.V_mk hcm (Kd.C_F Kd.heap_bool hm)) rfl
   have A4 := ak_ fun (W : World) (Am : Option Addr) (cm : Nat) (hm : Kd.C Kd.bool W Am mo.length mo) (hcm : mo.length ≤ cm) => impl_State_code.calls k Am cm mo mt q W hm hcm h4
   have HBR := ak_ (Below.refl wr.heap.size wr)
   have HER2 := ak_ (HER.out.snoc HJ.out.2.2 (q := q) (c := 1) hlj hcl)
   have H2 := ak_ h
   have HACC := ak_ (And.intro hac HER.out.1)
   have BLS := ak_ hbl
   have HJJ := ak_ hj
   have hw19 : IntKind.i64.wrap ((j : Int) + 1) = ((j + 1 : Nat) : Int) := by have := HLS.out; rw [IntWalk.i64_in _ ⟨by omega, by omega⟩]; omega
   have hz0 := blk_cell BK6.out 0
   have hz1 := blk_cell BK6.out 1
   simp at hz0
   simp at hz1
   clear h h3 h4 H hl hlj hcl hRi hbl hac HER HAL hj
   go_upto_region 6 with (fail)
   go_wp2_with (first | (go_at_call 143; refine (A3.out _ (by repeat (first | (with_reducible first | exact HBR.out | apply ba_ | apply bN_ | apply b1_) | exact HBR.out))).mono ?_; rintro e w30 ⟨v30, rfl, ho, hb⟩; obtain ⟨Am, cm, rfl⟩ := Kd.R_slice ho; have OM := ak_ ho; clear A3; have n0_ := ak_ (blk_below BK6.out hb); have n1_ := ak_ (blk_below BLS.out hb); have n2_ := ak_ (Kd.R_below (Kd.pR HR.out) hb); have n3_ := ak_ (Kd.S_below (Kd.pS HLR.out) hb); have n4_ := ak_ (Kd.R_below (Kd.pR OV.out) hb); have n5_ := ak_ (bs_ (bb_ HB.out) hb); clear BK6 BLS HR HLR OV HB hb ho HBR; have BK6 := n0_; have BLS := n1_; have HR := n2_; have HLR := n3_; have OV := n4_; have HB := n5_; clear n0_ n1_ n2_ n3_ n4_ n5_) | (go_at_call 144; refine (A5.out _ Am cm (Kd.R_reads' OM.out).2.2 (Kd.R_reads' OM.out).2.1).mono ?_; rintro e w38 ⟨v38, rfl, hv_, hb⟩; obtain ⟨As, cs, rfl⟩ := Kd.V_slice hv_; have SV := ak_ (Kd.V_reads' hv_); clear A5 OM; have n0_ := ak_ (blk_below BK6.out hb); have n1_ := ak_ (blk_below BLS.out hb); have n2_ := ak_ (Kd.R_below (Kd.pR HR.out) hb); have n3_ := ak_ (Kd.S_below (Kd.pS HLR.out) hb); have n4_ := ak_ (Kd.R_below (Kd.pR OV.out) hb); have n5_ := ak_ (bs_ (bb_ HB.out) hb); clear BK6 BLS HR HLR OV HB hb hv_; have BK6 := n0_; have BLS := n1_; have HR := n2_; have HLR := n3_; have OV := n4_; have HB := n5_; clear n0_ n1_ n2_ n3_ n4_ n5_) | (go_at_call 126; refine (A4.out _ As cs SV.out.2.2 SV.out.2.1).mono ?_; rintro e w31 ⟨rfl, hb⟩; clear A4 SV; have n0_ := ak_ (blk_below BK6.out hb); have n1_ := ak_ (blk_below BLS.out hb); have n2_ := ak_ (Kd.R_below (Kd.pR HR.out) hb); have n3_ := ak_ (Kd.S_below (Kd.pS HLR.out) hb); have n4_ := ak_ (Kd.R_below (Kd.pR OV.out) hb); have n5_ := ak_ (bs_ (bb_ HB.out) hb); clear BK6 BLS HR HLR OV HB hb; have BK6 := n0_; have BLS := n1_; have HR := n2_; have HLR := n3_; have OV := n4_; have HB := n5_; clear n0_ n1_ n2_ n3_ n4_ n5_) | ((with_reducible refine gate_builtin (b := .append) (xs := #[.tmp 27, .tmp 35]) rfl ?_); at_builtin; refine Kd.R_append kre (w0 := w) w.heap.size rfl (.tmp 27) (.tmp 35) 130 110 (.agg #[(.int .i64 0), (.int .i64 0), (.slice none 0 0)]) 40 rfl Try.underlying130 info110 rfl (by decide) (by omega) _ res ⟨q, 1, Aj, l.length, cj⟩ [.int .i64 q, .int .i64 1, .slice Aj l.length cj] (fun _ => True) (fun _ => False) rfl rfl ?aP (fun _ hk => hk.elim) (fun _ _ => trivial) ?aO ?aB ?aS ?aL ?_; (case aP => exact kre_M _ _ _ ⟨q, 1, Aj, l.length, cj⟩); (case aO => exact Kd.pR HR.out); (case aB => exact (bb_ HB.out)); (case aS => exact bz_ (bb_ HB.out)); (case aL => have := HACC.out; omega); intro v36 w36 ho hb hg hat; have n0_ := ak_ (blk_grown (pk BK6.out) hg (Kd.R_ne HR.out BK6.out (by decide))); have n1_ := ak_ (blk_grown (pk BLS.out) hg (Kd.R_ne HR.out BLS.out (by decide))); have n2_ := ak_ (Kd.S_over' (Kd.pS HLR.out) (Kd.R_typed HR.out) (by decide) hg); have n3_ := ak_ (Kd.R_over' (Kd.pR OV.out) (Kd.R_typed HR.out) (by decide) hg); have n4_ := ak_ (hb); have n5_ := ak_ (ho); clear BK6 BLS HLR OV HB HR hg hat hb ho; have BK6 := n0_; have BLS := n1_; have HLR := n2_; have OV := n3_; have HB := n4_; have HR := n5_; clear n0_ n1_ n2_ n3_ n4_ n5_))
   go_roundg (ls.length - (j + 1))
   case measure => have := HJ.out; have := HJJ.out; omega
   case rel => exact ⟨j + 1, _, _, (by first | rfl | (simp; done)), ⟨⟨by have := HJJ.out; omega, Nat.le_refl _, by rw [List.length_append, HJ.out.2.2]; rfl⟩⟩, H2, HER2, ⟨Kd.pR HR.out⟩, ⟨Kd.pS HLR.out⟩, ⟨by first | exact .inr ⟨rfl, pk BLS.out⟩ | exact .inr ⟨trivial, pk BLS.out⟩⟩, ⟨pk BK6.out⟩, ⟨Kd.pR OV.out⟩, ⟨(bb_ HB.out)⟩⟩
  ·have j1 : decide ((j : Int) < (ls.length : Int)) = false := decide_eq_false (by omega)
   have j1n : decide (j < ls.length) = false := decide_eq_false hj
   have h := H.out
   rw [List.drop_of_length_le (by omega)] at h
   have HES := ak_ (show acc = es from Option.some.inj (show some acc = some es from h))
   clear h H hj
   go_wp2
   first | go_ret | go_ret2
   refine ⟨_, rfl, ?_, (bb_ HB.out)⟩
   rw [← HES.out]
   rcases HAL.out with h0 | ⟨rfl, hbl⟩
   ·have ha : acc = [] := List.eq_nil_of_length_eq_zero (by have := HJ.out; omega)
    have hr : res = [] := List.eq_nil_of_length_eq_zero (by rw [← HER.out.1, ha]; rfl)
    have h2 := HR.out
    rw [hr] at h2
    rw [ha]
    exact lead_shut (zs := []) (f := fun _ => 0) (okl := fun _ => False) (Kd.R_below h2 be_) trivial List.Pairwise.nil (fun k hk => hk.elim)
   ·exact HER.out.shut (Kd.S_below HLR.out be_) (blk_below hbl be_) (Kd.R_below HR.out be_) (by decide)
attribute [local go_sem] run_store_fn_
def grN (n : Nat) : Int := wrap64 (2 * 2 ^ min n 64)
theorem impl_Keep_graph.calls (th : Int) (m : Nat) (Ad : Option Addr) (cd0 : Nat) (ds : List (List Int)) (se : Int) (w : World) (hth : (m : Int) = th) :
  Calls Try.prog 108 #[.agg #[.int .i64 th, .slice Ad ds.length cd0, .int .i64 se]] w fun e w' => ∃ Bc : Nat, e = .returned (.agg #[.int .i64 (grN m), .func (.func 141) #[] #[.pointer (some ⟨Bc, 0, none⟩)]]) ∧
   (w'.heap[Bc]? = some (.cells #[.int .i64 th, .slice Ad ds.length cd0, .int .i64 se] 52 (0, 0))) ∧ Below w.heap.size w w' := by
 subst hth
 have hu := Try.underlying52
 have hu2 := Try.underlying68
 have HB := ak_ (Below.refl w.heap.size w)
 have hn0 : ¬ ((m : Int) < 0) := by omega
 go_enter Try.func108, Try.ntmps108
 go_upto_region 1 with (first | ((with_reducible refine gate_dst (N := 1) rfl ?_); refine bx_ 1 #[.int .i64 (m : Int), .slice Ad ds.length cd0, .int .i64 se] 52 ?_; intro gb2 hg w2 hbox hb; have nb_ := ak_ (bs_ (bb_ HB.out) hb); have nc_ := ak_ hbox; have nd_ := ak_ ((by rw [hg]; exact (bz_ (bb_ HB.out)) : w.heap.size ≤ gb2)); clear HB hb hbox hg; have HB := nb_; have BK2 := nc_; have GE2 := nd_; clear nb_ nc_ nd_; have hz2_0 := (blk_cell BK2.out 0); have hf2_0 := (blk_frozen BK2.out 0); simp at hz2_0; have hz2_1 := (blk_cell BK2.out 1); have hf2_1 := (blk_frozen BK2.out 1); simp at hz2_1; have hz2_2 := (blk_cell BK2.out 2); have hf2_2 := (blk_frozen BK2.out 2); simp at hz2_2; skip) | ((with_reducible refine gate_dst (N := 2) rfl ?_); refine bx_ 2 #[.int .i64 0, .nilFunc] 68 ?_; intro gb4 hg w4 hbox hb; have n0_ := ak_ (blk_below (pk BK2.out) hb); have m0_ := ak_ ((by rw [hg]; exact Nat.ne_of_lt (blk_lt (pk BK2.out)) : gb2 ≠ gb4)); have nb_ := ak_ (bs_ (bb_ HB.out) hb); have nc_ := ak_ hbox; have nd_ := ak_ ((by rw [hg]; exact (bz_ (bb_ HB.out)) : w.heap.size ≤ gb4)); clear HB hb hbox hg; clear BK2; have BK2 := n0_; have NE2_4 := m0_; have HB := nb_; have BK4 := nc_; have GE4 := nd_; clear nb_ nc_ nd_ n0_ m0_; have hz4_0 := (blk_cell BK4.out 0); have hf4_0 := (blk_frozen BK4.out 0); simp at hz4_0; have hz4_1 := (blk_cell BK4.out 1); have hf4_1 := (blk_frozen BK4.out 1); simp at hz4_1; skip))
 have hq0 := blk_cell BK2.out 0
 simp at hq0
 have B41 := blk_put (cs' := #[.int .i64 (wrap64 (2 * 2 ^ min m 64)), .func (.func 141) #[] #[.pointer (some ⟨gb2, 0, none⟩)]]) (blk_put (cs' := #[.int .i64 (wrap64 (2 * 2 ^ min m 64)), .nilFunc]) BK4.out 0 (.int .i64 (wrap64 (2 * 2 ^ min m 64))) rfl) 1 (.func (.func 141) #[] #[.pointer (some ⟨gb2, 0, none⟩)]) rfl
 have B21 := blk_far (p := ⟨gb4, 1, none⟩) (blk_far (p := ⟨gb4, 0, none⟩) BK2.out NE2_4.out (.int .i64 (wrap64 (2 * 2 ^ min m 64)))) NE2_4.out (.func (.func 141) #[] #[.pointer (some ⟨gb2, 0, none⟩)])
 have HB1 := below_set (v := (.func (.func 141) #[] #[.pointer (some ⟨gb2, 0, none⟩)])) (j := 1) (below_set (v := (.int .i64 (wrap64 (2 * 2 ^ min m 64)))) (j := 0) HB.out GE4.out) GE4.out
 have HF := ak_ (And.intro B41 (And.intro B21 HB1))
 clear B41 B21 HB1
 go_wp2
 refine bodyPost_ret (results_cell_row rfl _ _ gb4 68 #[.int .i64 (wrap64 (2 * 2 ^ min m 64)), .func (.func 141) #[] #[.pointer (some ⟨gb2, 0, none⟩)]] (0, 0) _ rfl HF.out.1 Try.underlying68 rfl (by kernel_rfl)) rfl ?_
 exact ⟨gb2, rfl, HF.out.2.1, HF.out.2.2⟩
attribute [local go_sem] run_store_fn_
theorem gr_typ {W : World} {a b t u : Nat} {cs ds : Array Value} (h : W.heap[a]? = some (.cells cs t (0, 0))) (h2 : W.heap[b]? = some (.cells ds u (0, 0))) (ht : t ≠ u) : a ≠ b := by
 rintro rfl
 rw [h] at h2
 injection h2 with h2
 injection h2 with _ h2
 exact ht h2
def impl_Keep_costs.f (k : Nat) (th : Int) (ds : List (List Int)) (se : Int) : Option (List Int × Bool) := (impl_last.f th).bind fun q => (frG (kpG k th ds se) k (grN th.toNat) [q]).bind fun dist => if 0 < dist.length then some (dist, decide (0 ≤ rdOf 0 dist 0)) else none
theorem impl_Keep_costs.mono : ∀ th ds se k, LeO (impl_Keep_costs.f k th ds se) (impl_Keep_costs.f (k + 1) th ds se) := fun th ds se k => LeO.bind (LeO.refl _) (fun _ => LeO.bind (frG_mono (fun s => kpG_mono k th ds se s) _ _ _) (fun _ => LeO.refl _))
def impl_Keep_costs.T2 : Bool × List (List Nat × List Nat) := (true, [([], []), ([], []), ([1], [1]), ([2], [2]), ([3], [3]), ([0, 4, 3], [0, 4]), ([5, 5, 0, 1, 2, 3, 4, 5], [5])])
def impl_Keep_costs.B2 : List Nat := [0, 0, 2, 6, 14, 31, 63]
theorem impl_Keep_costs.T2_ : rtab .any (opsOf Try.f67 2) = impl_Keep_costs.T2 := by kernel_rfl
theorem impl_Keep_costs.B2_ : waitsOk impl_Keep_costs.T2.2 impl_Keep_costs.B2 = true := by kernel_rfl
def impl_Keep_costs.T3 : Bool × List (List Nat × List Nat) := (true, [([], []), ([], []), ([], []), ([2], [2]), ([3], [3]), ([4], [4]), ([0, 0], [0]), ([1, 6, 0, 1, 6], [1]), ([5, 7, 0, 1, 2, 3, 4, 5, 6, 7], [5])])
def impl_Keep_costs.B3 : List Nat := [0, 0, 0, 4, 12, 28, 1, 67, 255]
theorem impl_Keep_costs.T3_ : rtab .any (opsOf Try.f67 3) = impl_Keep_costs.T3 := by kernel_rfl
theorem impl_Keep_costs.B3_ : waitsOk impl_Keep_costs.T3.2 impl_Keep_costs.B3 = true := by kernel_rfl
theorem impl_Keep_costs.calls (k : Nat) (th : Int) (Ad : Option Addr) (cd0 : Nat) (ds : List (List Int)) (se : Int) (dist : List Int) (b : Bool) (w : World) (hth : 0 ≤ th) (hkd : Kd.C (Kd.slice 3 (Kd.int .i64)) w Ad ds.length ds) (hdc : ds.length ≤ cd0) (h : impl_Keep_costs.f k th ds se = some (dist, b)) :
  Calls Try.prog 67 #[.agg #[.int .i64 th, .slice Ad ds.length cd0, .int .i64 se]] w fun e w' => ∃ (fo : Nat) (cb : Array Value) (gd cd : Nat), e = .returned (.tuple #[.agg #[.int .i64 (grN th.toNat), .func (.func fo) #[] cb], .slice (some ⟨gd, 0, none⟩) dist.length cd, .bool b]) ∧
   (∀ args w, (callFunc fo args).run Try.prog w = .ok (.enter fo args) w) ∧ grAll (kpG k th ds se) (grN th.toNat) = true ∧ GOut fo cb (grN th.toNat) (grE (kpG k th ds se)) w' ∧ Kd.R (Kd.int .i64) 3 w' w.heap.size (fun _ => True) (.slice (some ⟨gd, 0, none⟩) dist.length cd) dist ∧ Below w.heap.size w w' := by
 have hu := Try.underlying52
 have hu2 := Try.underlying68
 unfold impl_Keep_costs.f at h
 obtain ⟨q, h1, h⟩ := Option.bind_eq_some_iff.mp h
 obtain ⟨dist', h2, h⟩ := Option.bind_eq_some_iff.mp h
 by_cases hd : 0 < dist'.length
 rotate_left
 ·rw [if_neg hd] at h; exact absurd h (by simp)
 rw [if_pos hd] at h
 obtain ⟨rfl, rfl⟩ : dist' = dist ∧ decide (0 ≤ rdOf 0 dist' 0) = b := by simpa using h
 unfold frG at h2
 by_cases ha : grAll (kpG k th ds se) (grN th.toNat) = true
 rotate_left
 ·rw [if_neg ha] at h2; exact absurd h2 (by simp)
 rw [if_pos ha] at h2
 have A1 := ak_ fun (W : World) (hb : Below w.heap.size w W) => impl_Keep_graph.calls th th.toNat Ad cd0 ds se W (by omega)
 have A2 := ak_ fun (W : World) => impl_last.calls th q W h1
 have HE := ak_ fun (W : World) (hb : Below w.heap.size w W) (Bc : Nat) (hB : W.heap[Bc]? = some (.cells #[.int .i64 th, .slice Ad ds.length cd0, .int .i64 se] 52 (0, 0))) => (GOut.of ha (fun W' s es hW' hs => impl_Keep_graph.calls_1 k Bc th Ad cd0 ds se s es W' (blk_below hB hW') (Kd.C_below hkd (bs_ hb hW')) hdc hs) : GOut 141 #[.pointer (some ⟨Bc, 0, none⟩)] (grN th.toNat) (grE (kpG k th ds se)) W)
 have A3 := ak_ fun (W W0 : World) (cb : Array Value) (hE : GOut 141 cb (grN th.toNat) (grE (kpG k th ds se)) W) (bs cs : Nat) (hb0 : Below W.heap.size W W0) (hs : Kd.R (Kd.int .i64) 3 W0 W.heap.size (fun _ => True) (.slice (some ⟨bs, 0, none⟩) [q].length cs) [q]) => impl_graph_int_from.calls 141 cb (grN th.toNat) (grE (kpG k th ds se)) W W0 (enters_of Try.func141 (by kernel_rfl) rfl) hE k [q] dist' bs cs hb0 hs h2
 have HA := ak_ ha
 have HD0 := ak_ hd
 have HB := ak_ (Below.refl w.heap.size w)
 have hc0 : (0 : Int) < (dist'.length : Int) := by omega
 have hcn : (0 < dist'.length) = True := eq_true hd
 clear h h1 h2 hd ha hth hkd hdc
 go_enter Try.func67, Try.ntmps67
 go_upto_region 1 with (first | ((with_reducible refine gate_dst (N := 1) rfl ?_); refine bx_ 1 #[.int .i64 th, .slice Ad ds.length cd0, .int .i64 se] 52 ?_; intro gb2 hg w2 hbox hb; have nb_ := ak_ (bs_ (bb_ HB.out) hb); have nc_ := ak_ hbox; have nd_ := ak_ ((by rw [hg]; exact (bz_ (bb_ HB.out)) : w.heap.size ≤ gb2)); clear HB hb hbox hg; have HB := nb_; have BK2 := nc_; have GE2 := nd_; clear nb_ nc_ nd_; have hz2_0 := (blk_cell BK2.out 0); have hf2_0 := (blk_frozen BK2.out 0); simp at hz2_0; have hz2_1 := (blk_cell BK2.out 1); have hf2_1 := (blk_frozen BK2.out 1); simp at hz2_1; have hz2_2 := (blk_cell BK2.out 2); have hf2_2 := (blk_frozen BK2.out 2); simp at hz2_2; skip) | ((with_reducible refine gate_dst (N := 2) rfl ?_); refine bx_ 2 #[.int .i64 0, .nilFunc] 68 ?_; intro gb4 hg w4 hbox hb; have n0_ := ak_ (blk_below (pk BK2.out) hb); have m0_ := ak_ ((by rw [hg]; exact Nat.ne_of_lt (blk_lt (pk BK2.out)) : gb2 ≠ gb4)); have nb_ := ak_ (bs_ (bb_ HB.out) hb); have nc_ := ak_ hbox; have nd_ := ak_ ((by rw [hg]; exact (bz_ (bb_ HB.out)) : w.heap.size ≤ gb4)); clear HB hb hbox hg; clear BK2; have BK2 := n0_; have NE2_4 := m0_; have HB := nb_; have BK4 := nc_; have GE4 := nd_; clear nb_ nc_ nd_ n0_ m0_; have hz4_0 := (blk_cell BK4.out 0); have hf4_0 := (blk_frozen BK4.out 0); simp at hz4_0; have hz4_1 := (blk_cell BK4.out 1); have hf4_1 := (blk_frozen BK4.out 1); simp at hz4_1; skip))
 have hq0 := blk_cell BK2.out 0
 have hq1 := blk_cell BK2.out 1
 have hq2 := blk_cell BK2.out 2
 simp at hq0
 simp at hq1
 simp at hq2
 go_upto_region 2 with (first | (go_at_call 108; refine (A1.out _ (bb_ HB.out)).mono ?_; rintro e w11 ⟨Bc, rfl, hB, hb⟩; have HK := ak_ hB; clear hB A1; have n0_ := ak_ (blk_below (pk BK2.out) hb); have n1_ := ak_ (blk_below (pk BK4.out) hb); have n2_ := ak_ (bs_ (bb_ HB.out) hb); clear BK2 BK4 HB hb; have BK2 := n0_; have BK4 := n1_; have HB := n2_; clear n0_ n1_ n2_) | ((with_reducible refine gate_dst (N := 5) rfl ?_); refine bx_ 5 #[.int .i64 0, .nilFunc] 68 ?_; intro gb7 hg w7 hbox hb; have n0_ := ak_ (blk_below (pk BK2.out) hb); have m0_ := ak_ ((by rw [hg]; exact Nat.ne_of_lt (blk_lt (pk BK2.out)) : gb2 ≠ gb7)); have n1_ := ak_ (blk_below (pk BK4.out) hb); have m1_ := ak_ ((by rw [hg]; exact Nat.ne_of_lt (blk_lt (pk BK4.out)) : gb4 ≠ gb7)); have nb_ := ak_ (bs_ (bb_ HB.out) hb); have nc_ := ak_ hbox; have nd_ := ak_ ((by rw [hg]; exact (bz_ (bb_ HB.out)) : w.heap.size ≤ gb7)); have nk_ := ak_ (show w7.heap[Bc]? = some (.cells #[.int .i64 th, .slice Ad ds.length cd0, .int .i64 se] 52 (0, 0)) from blk_below (pk HK.out) hb); clear HB hb hbox hg HK; have HK := nk_; clear nk_; clear BK2 BK4; have BK2 := n0_; have NE2_7 := m0_; have BK4 := n1_; have NE4_7 := m1_; have HB := nb_; have BK7 := nc_; have GE7 := nd_; clear nb_ nc_ nd_ n0_ m0_ n1_ m1_; have hz7_0 := (blk_cell BK7.out 0); have hf7_0 := (blk_frozen BK7.out 0); simp at hz7_0; have hz7_1 := (blk_cell BK7.out 1); have hf7_1 := (blk_frozen BK7.out 1); simp at hz7_1; skip))
 have B71 := ak_ (blk_put (cs' := #[.int .i64 (grN th.toNat), .func (.func 141) #[] #[.pointer (some ⟨Bc, 0, none⟩)]]) (blk_put (cs' := #[.int .i64 (grN th.toNat), .nilFunc]) BK7.out 0 (.int .i64 (grN th.toNat)) rfl) 1 (.func (.func 141) #[] #[.pointer (some ⟨Bc, 0, none⟩)]) rfl)
 have B21 := ak_ (blk_far (p := ⟨gb7, 1, none⟩) (blk_far (p := ⟨gb7, 0, none⟩) BK2.out NE2_7.out (.int .i64 (grN th.toNat))) NE2_7.out (.func (.func 141) #[] #[.pointer (some ⟨Bc, 0, none⟩)]))
 have B41 := ak_ (blk_far (p := ⟨gb7, 1, none⟩) (blk_far (p := ⟨gb7, 0, none⟩) BK4.out NE4_7.out (.int .i64 (grN th.toNat))) NE4_7.out (.func (.func 141) #[] #[.pointer (some ⟨Bc, 0, none⟩)]))
 have K71 := ak_ (show ((w7.setCell ⟨gb7, 0, none⟩ (.int .i64 (grN th.toNat))).setCell ⟨gb7, 1, none⟩ (.func (.func 141) #[] #[.pointer (some ⟨Bc, 0, none⟩)])).heap[Bc]? = some (.cells #[.int .i64 th, .slice Ad ds.length cd0, .int .i64 se] 52 (0, 0)) from blk_far (blk_far HK.out (gr_typ HK.out BK7.out (by decide)) (.int .i64 (grN th.toNat))) (gr_typ HK.out BK7.out (by decide)) (.func (.func 141) #[] #[.pointer (some ⟨Bc, 0, none⟩)]))
 have HB1 := ak_ (below_set (v := (.func (.func 141) #[] #[.pointer (some ⟨Bc, 0, none⟩)])) (j := 1) (below_set (v := (.int .i64 (grN th.toNat))) (j := 0) HB.out GE7.out) GE7.out)
 generalize (w7.setCell ⟨gb7, 0, none⟩ (.int .i64 (grN th.toNat))).setCell ⟨gb7, 1, none⟩ (.func (.func 141) #[] #[.pointer (some ⟨Bc, 0, none⟩)]) = w8 at B71 B21 B41 K71 HB1 ⊢
 clear BK2 BK4 BK7 HB HK
 have BK2 := B21; have BK4 := B41; have BK7 := B71; have HB := HB1; have HK := K71
 clear B21 B41 B71 HB1 K71
 have n0_ := ak_ (k1_ BK2.out); have n1_ := ak_ (k1_ BK4.out); have n2_ := ak_ (k1_ BK7.out); have n3_ := ak_ (k1_ HK.out); have n4_ := ak_ (b1_ HB.out); clear BK2 BK4 BK7 HK HB; have BK2 := n0_; have BK4 := n1_; have BK7 := n2_; have HK := n3_; have HB := n4_; clear n0_ n1_ n2_ n3_ n4_
 refine start_ (n := 7) (S := fun w' => w'.cell? ⟨gb7, 0, none⟩ = some (.int .i64 (grN th.toNat)) ∧ w'.cell? ⟨gb7, 1, none⟩ = some (.func (.func 141) #[] #[.pointer (some ⟨Bc, 0, none⟩)]) ∧ w'.cell? ⟨gb2, 0, none⟩ = some (.int .i64 th)) (ds := []) (mb_ 7 0) (by kernel_rfl) rfl rfl ⟨(blk_cell BK7.out 0).trans rfl, (blk_cell BK7.out 1).trans rfl, (blk_cell BK2.out 0).trans rfl⟩ (fun hHeld => ?_); refine with_tabW impl_Keep_costs.T2_ impl_Keep_costs.B2_ (fun HT_ HW_ => ?_)
 generalize w8.drew = w9 at BK2 BK4 BK7 HK HB hHeld ⊢
 refine tk_ 0 9 7 1 ?_ (hy := by rintro w' ⟨s0, s1, s2⟩; go_simp; with_reducible rfl)
 refine pu_ 1 10 7 3 ?_
 refine tk_ 2 11 7 7 ?_ (hy := by rintro w' ⟨s0, s1, s2⟩; go_simp; with_reducible rfl)
 refine on_ 3 12 7 15 (fun K hK => ?_)
 refine goes_ Try.func85 (by kernel_rfl) rfl #[.int .i64 th] (by rfl) rfl rfl (by first | rfl | (simp only [map_toArray, map_cons, map_nil]; try rfl)) ?_
 refine (A2.out _).mono ?_
 rintro e_ w10 ⟨rfl, ⟨nd, rfl⟩⟩
 refine ⟨_, rfl, ?_⟩
 have n0_ := ak_ (kN_ BK2.out nd); have n1_ := ak_ (kN_ BK4.out nd); have n2_ := ak_ (kN_ BK7.out nd); have n3_ := ak_ (kN_ HK.out nd); have n4_ := ak_ (bN_ HB.out nd); clear BK2 BK4 BK7 HK HB; have BK2 := n0_; have BK4 := n1_; have BK7 := n2_; have HK := n3_; have HB := n4_; clear n0_ n1_ n2_ n3_ n4_
 generalize w9.drewN nd = w10 at BK2 BK4 BK7 HK HB ⊢
 refine hK.out _ _ ⟨(blk_cell BK7.out 0).trans rfl, (blk_cell BK7.out 1).trans rfl, (blk_cell BK2.out 0).trans rfl⟩ (fun hHeld => ?_)
 clear hK K
 refine nm_ ?_
 refine on_ 4 13 7 31 (fun K hK => ?_)
 refine Kd.R_lit_step (Kd.int .i64) w10.heap.size 3 ?hg (N := 13) ?hd (xs := [q]) (inner := [.int .i64 q]) (ok := fun _ => True) (okp := fun _ => True) ?hr ?hp (fun _ hk => hk) trivial (Below.refl w10.heap.size w10) (Nat.le_refl _) (by simp) ?_; (case hd => rfl); (case hg => rfl); (case hr => go_simp <;> rfl); (case hp => exact (Reps.one (show Kd.M (Kd.int .i64) _ _ _ q [.int .i64 q] from rfl) (Reps.none _ _)))
 intro s2 w11 ho0 hb0 hg_ hnew_
 clear hg_ hnew_
 obtain ⟨bs, cs, rfl, -, -, -⟩ := Kd.R_form ho0 (by simp)
 have HS := ak_ ho0
 have HB11 := ak_ hb0
 have HB10 := ak_ HB.out; have B10 := ak_ (And.intro BK2.out (And.intro BK4.out BK7.out)); have HE2 := ak_ (HE.out w10 HB.out Bc HK.out)
 have n0_ := ak_ (blk_below BK2.out hb0); have n1_ := ak_ (blk_below BK4.out hb0); have n2_ := ak_ (blk_below BK7.out hb0); have n3_ := ak_ (bs_ HB.out hb0); clear BK2 BK4 BK7 HB hb0 ho0; have BK2 := n0_; have BK4 := n1_; have BK7 := n2_; have HB := n3_; clear n0_ n1_ n2_ n3_
 refine hK.out _ _ ⟨(blk_cell BK7.out 0).trans rfl, (blk_cell BK7.out 1).trans rfl, (blk_cell BK2.out 0).trans rfl⟩ (fun hHeld => ?_)
 clear hK K
 refine nm_ ?_
 refine on_ 5 14 7 63 (fun K hK => ?_)
 refine goes_ Try.func84 (by kernel_rfl) rfl #[.agg #[.int .i64 (grN th.toNat), .func (.func 141) #[] #[.pointer (some ⟨Bc, 0, none⟩)]], .slice (some ⟨bs, 0, none⟩) [q].length cs] (by rfl) rfl rfl (by first | rfl | (simp only [map_toArray, map_cons, map_nil]; try rfl)) ?_
 refine (A3.out w10 w11 _ HE2.out bs cs HB11.out HS.out).mono ?_
 rintro e_ w12 ⟨v12, rfl, hdi, hb⟩
 refine ⟨_, rfl, ?_⟩
 obtain ⟨gd, cd, rfl, -, -, -⟩ := Kd.R_form hdi HD0.out
 have HD := ak_ (Kd.R_lower hdi (bz_ HB10.out))
 have n0_ := ak_ (blk_below B10.out.1 hb); have n1_ := ak_ (blk_below B10.out.2.1 hb); have n2_ := ak_ (blk_below B10.out.2.2 hb); have n3_ := ak_ (blk_below HK.out hb); have n4_ := ak_ (bs_ HB10.out hb); clear BK2 BK4 BK7 HE2 HK HB HS HB11 HB10 hdi hb B10; have BK2 := n0_; have BK4 := n1_; have BK7 := n2_; have HK := n3_; have HB := n4_; clear n0_ n1_ n2_ n3_ n4_
 refine hK.out _ _ ⟨(blk_cell BK7.out 0).trans rfl, (blk_cell BK7.out 1).trans rfl, (blk_cell BK2.out 0).trans rfl⟩ (fun hHeld => ?_)
 clear hK K
 refine nm_ ?_
 refine pu_ 6 6 7 127 ?_
 refine done_ (done_of HT_.out (by kernel_rfl)) ?_
 try go_wp2
 have n0_ := ak_ (k1_ BK2.out); have n1_ := ak_ (k1_ BK4.out); have n2_ := ak_ (k1_ BK7.out); have n3_ := ak_ (k1_ HK.out); have n4_ := ak_ (b1_ HB.out); have n5_ := ak_ (Kd.R_drew HD.out); clear BK2 BK4 BK7 HK HB HD; have BK2 := n0_; have BK4 := n1_; have BK7 := n2_; have HK := n3_; have HB := n4_; have HD := n5_; clear n0_ n1_ n2_ n3_ n4_ n5_
 have hx0_ := ((Kd.R_celln 0 HD.out 0 (by omega) (by omega)).1 : w12.drew.cell? ⟨gd, 0, none⟩ = some (.int .i64 (rdOf 0 dist' 0)))
 have HX := ak_ hx0_
 clear hx0_
 refine start_ (n := 9) (S := fun w' => w'.cell? ⟨gb7, 0, none⟩ = some (.int .i64 (grN th.toNat)) ∧ w'.cell? ⟨gb7, 1, none⟩ = some (.func (.func 141) #[] #[.pointer (some ⟨Bc, 0, none⟩)]) ∧ w'.cell? ⟨gd, 0, none⟩ = some (.int .i64 (rdOf 0 dist' 0))) (ds := []) (mb_ 9 0) (by kernel_rfl) rfl rfl ⟨(blk_cell BK7.out 0).trans rfl, (blk_cell BK7.out 1).trans rfl, HX.out⟩ (fun hHeld => ?_); refine with_tabW impl_Keep_costs.T3_ impl_Keep_costs.B3_ (fun HT_ HW_ => ?_)
 generalize w12.drew = w13 at BK2 BK4 BK7 HK HB HD HX hHeld ⊢
 refine tk_ 0 15 9 1 ?_ (hy := by rintro w' ⟨s0, s1, s2⟩; go_simp; with_reducible rfl)
 refine pu_ 1 16 9 3 ?_
 refine pu_ 2 17 9 7 ?_
 refine pu_ 3 18 9 15 ?_
 refine tk_ 4 19 9 31 ?_ (hy := by rintro w' ⟨s0, s1, s2⟩; go_simp; with_reducible rfl)
 refine pu_ 5 20 9 63 ?_
 refine one_ (i := 6) (N := none) (mb_ 9 127) rfl rfl (one_of HT_.out (by kernel_rfl)) (by decide) (fun K hK => ?_)
 have hz40 := blk_cell BK4.out 0
 have hz41 := blk_cell BK4.out 1
 have hf40 := blk_frozen BK4.out 0
 have hf41 := blk_frozen BK4.out 1
 simp at hz40
 simp at hz41
 have B41 := ak_ (blk_put (cs' := #[.int .i64 (grN th.toNat), .func (.func 141) #[] #[.pointer (some ⟨Bc, 0, none⟩)]]) (blk_put (cs' := #[.int .i64 (grN th.toNat), .nilFunc]) BK4.out 0 (.int .i64 (grN th.toNat)) rfl) 1 (.func (.func 141) #[] #[.pointer (some ⟨Bc, 0, none⟩)]) rfl)
 have B71 := ak_ (blk_far (p := ⟨gb4, 1, none⟩) (blk_far (p := ⟨gb4, 0, none⟩) BK7.out NE4_7.out.symm (.int .i64 (grN th.toNat))) NE4_7.out.symm (.func (.func 141) #[] #[.pointer (some ⟨Bc, 0, none⟩)]))
 have D1 := ak_ (Kd.R_set (Kd.R_set HD.out BK4.out (by decide) 0 (.int .i64 (grN th.toNat))) (blk_put (cs' := #[.int .i64 (grN th.toNat), .nilFunc]) BK4.out 0 (.int .i64 (grN th.toNat)) rfl) (by decide) 1 (.func (.func 141) #[] #[.pointer (some ⟨Bc, 0, none⟩)]))
 have HB1 := ak_ (below_set (v := (.func (.func 141) #[] #[.pointer (some ⟨Bc, 0, none⟩)])) (j := 1) (below_set (v := (.int .i64 (grN th.toNat))) (j := 0) HB.out GE4.out) GE4.out)
 have K1 := ak_ (show ((w13.setCell ⟨gb4, 0, none⟩ (.int .i64 (grN th.toNat))).setCell ⟨gb4, 1, none⟩ (.func (.func 141) #[] #[.pointer (some ⟨Bc, 0, none⟩)])).heap[Bc]? = some (.cells #[.int .i64 th, .slice Ad ds.length cd0, .int .i64 se] 52 (0, 0)) from blk_far (blk_far HK.out (gr_typ HK.out BK4.out (by decide)) (.int .i64 (grN th.toNat))) (gr_typ HK.out BK4.out (by decide)) (.func (.func 141) #[] #[.pointer (some ⟨Bc, 0, none⟩)]))
 refine skip_ (w1 := ?_) (by rfl) rfl ?_ ?_
 rotate_left
 ·go_simp
  rfl
 generalize (w13.setCell ⟨gb4, 0, none⟩ (.int .i64 (grN th.toNat))).setCell ⟨gb4, 1, none⟩ (.func (.func 141) #[] #[.pointer (some ⟨Bc, 0, none⟩)]) = w14 at B41 B71 D1 HB1 K1 ⊢
 have hx0_ := ((Kd.R_celln 0 D1.out 0 (by omega) (by omega)).1 : w14.cell? ⟨gd, 0, none⟩ = some (.int .i64 (rdOf 0 dist' 0)))
 refine hK.out _ _ ⟨(blk_cell B71.out 0).trans rfl, (blk_cell B71.out 1).trans rfl, hx0_⟩ (fun hHeld => ?_)
 clear hK K hx0_
 refine pu_ 7 3 9 255 ?_
 refine pu_ 8 4 9 511 ?_
 refine done_ (done_of HT_.out (by kernel_rfl)) ?_
 try go_wp2
 refine bodyPost_ret (results_ctt rfl _ _ gb4 68 #[.int .i64 (grN th.toNat), .func (.func 141) #[] #[.pointer (some ⟨Bc, 0, none⟩)]] (0, 0) _ rfl B41.out Try.underlying68 rfl (by kernel_rfl)) rfl ?_
 exact ⟨141, #[.pointer (some ⟨Bc, 0, none⟩)], gd, cd, rfl, enters_of Try.func141 (by kernel_rfl) rfl, HA.out, HE.out w14 HB1.out Bc K1.out, D1.out, HB1.out⟩
end Go.Proofs.Ythkchdfkeieabaa.QGr
