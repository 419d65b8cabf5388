/- Contracts of functions of the given program, walked: each call returns what its Lean function says. Conditions: those that stand at each theorem. (Written by a program of this session.) -/
import Derived.Test.YthkchdfkeieabaaQGrx0
import Derived.Test.YthkchdfkeieabaaQGrx11
import Derived.Test.YthkchdfkeieabaaQGrx12
import Derived.Test.YthkchdfkeieabaaQGrx13
import Derived.Test.YthkchdfkeieabaaQGrx14
import Derived.Test.YthkchdfkeieabaaQGrx15
namespace Go.Proofs.Ythkchdfkeieabaa.QGr
open Go.RowKit Go.Proofs.YthkchdfkeieabaaW.PrintWords Go.Proofs.YthkchdfkeieabaaW.PrintLast Go.Proofs.YthkchdfkeieabaaW.PrintMore
open List (setIfInBounds_toArray set_cons_zero set_cons_succ map_toArray map_cons map_nil)
attribute [local go_sem] max2_int min2_int max_two min_two max_three min_three max_four min_four
set_option linter.unusedVariables false
set_option maxHeartbeats 8000000
set_option maxRecDepth 100000
set_option linter.unusedSimpArgs false
def ptSt (k : Nat) (ts : List Int) (ov : List Bool) (tq : Bool) (l : List Int) (acc : List S110) : Option (List S110) :=
 (impl_slowest.f k ts l).bind fun c => (impl_State_moved.f k ov tq l).bind fun m => (impl_State_code.f k m.1 m.2).bind fun q => if acc.length < 1000000 then some (acc ++ [⟨q, c, l⟩]) else none
theorem ptSt_mono (k : Nat) (ts : List Int) (ov : List Bool) (tq : Bool) (l : List Int) (acc : List S110) : LeO (ptSt k ts ov tq l acc) (ptSt (k + 1) ts ov tq l acc) :=
 LeO.bind (impl_slowest.mono _ _ _) (fun _ => LeO.bind (impl_State_moved.mono _ _ _ _) (fun _ => LeO.bind (impl_State_code.mono _ _ _) (fun _ => LeO.refl _)))
def ptG (k : Nat) (ts : List Int) (se : Int) (s : Int) : Option (List S110) :=
 (impl_stateOf.f k (ts.length : Int) s).bind fun st => (impl_State_side.f k st.1 st.2 st.2).bind fun P => if P.length ≤ 100 then gOn (ptSt k ts st.1 st.2) se P [] [] else none
theorem gOn_mono {α : Type} {st st' : List Int → List α → Option (List α)} (h : ∀ l a, LeO (st l a) (st' l a)) (most : Int) : ∀ P l acc, LeO (gOn st most P l acc) (gOn st' most P l acc)
 | [], _, _ => LeO.refl _
 | x :: P, l, acc => LeO.ite (LeO.bind (h _ _) (fun _ => LeO.bind (gOn_mono h most P _ _) (fun _ => gOn_mono h most P _ _))) (LeO.refl _)
theorem gp_lit0 {α : Type} (d : Kd α) (e : Nat) (W : World) {base : Nat} (hb : base ≤ W.heap.size) : Kd.S d e (W.alloc (.cells #[] e)) base (fun _ => True) (.slice (some ⟨W.heap.size, 0, none⟩) 0 0) [] := by
 refine ⟨fun _ => 0, fun _ _ => trivial, [], ?_, Reps.none _ _⟩
 have h2 := World.ownsRow_lit (base := base) (e := e) (size := d.sz) W #[] 0 hb (by simp [maxLen]) (by simp)
 have h3 : (W.alloc (.cells #[] e)).ownsRow base e d.sz (.slice (some ⟨W.heap.size, 0, none⟩) 0 0) 0 [] := by simpa using h2
 exact h3
theorem gp_new2 (W : World) (o o2 : Obj) : ((W.alloc o).alloc o2).heap[W.heap.size + 1]? = some o2 := by
 have h := blk_new (W.alloc o) o2
 have e : (W.alloc o).heap.size = W.heap.size + 1 := Array.size_push ..
 rw [e] at h
 exact h
theorem gr_typ {W : World} {a b t u : Nat} {cs ds : Array Value} (h : W.heap[a]? = some (.cells cs t (0, 0))) (h2 : W.heap[b]? = some (.cells ds u (0, 0))) (ht : t ≠ u) : a ≠ b := by
 rintro rfl
 rw [h] at h2
 injection h2 with h2
 injection h2 with _ h2
 exact ht h2
theorem ptG_mono (k : Nat) (ts : List Int) (se : Int) (s : Int) : LeO (ptG k ts se s) (ptG (k + 1) ts se s) :=
 LeO.bind (impl_stateOf.mono _ _ _) (fun _ => LeO.bind (impl_State_side.mono _ _ _ _) (fun _ => LeO.ite (gOn_mono (fun _ _ => ptSt_mono _ _ _ _ _ _) _ _ _ _) (LeO.refl _)))
def pt_each.T3 : Bool × List (List Nat × List Nat) := (true, [([], []), ([], []), ([], []), ([1, 2], [1, 2]), ([3, 3], [3]), ([], []), ([], []), ([4, 5, 6], [4, 5, 6]), ([7], [7]), ([0, 8, 4], [0, 8]), ([9, 9, 0, 1, 2, 3, 4, 5, 6, 7, 8, 9], [9])])
def pt_each.B3 : List Nat := [0, 0, 0, 6, 14, 0, 0, 126, 254, 511, 1023]
theorem pt_each.T3_ : rtab .any (opsOf Try.f134 3) = pt_each.T3 := by kernel_rfl
theorem pt_each.B3_ : waitsOk pt_each.T3.2 pt_each.B3 = true := by kernel_rfl
theorem pt_each (k : Nat) (Bt Bp Bs g : Nat) (w0 : World) (At : Option Addr) (ct : Nat) (ts : List Int) (se : Int) (Ao : Option Addr) (co : Nat) (ov : List Bool) (tq : Bool) (hBt : w0.heap[Bt]? = some (.cells #[.bool true] 4 (0, 0))) (hBp : w0.heap[Bp]? = some (.cells #[.slice At ts.length ct, .int .i64 se] 34 (0, 0)))
  (ht : Kd.C (Kd.int .i64) w0 At ts.length ts) (hct : ts.length ≤ ct) (ho : Kd.C Kd.bool w0 Ao ov.length ov) (hco : ov.length ≤ co) : GpEach k110 110 130 Bs #[.slice Ao ov.length co, .bool tq] 115 (ptSt k ts ov tq) g 134 #[.pointer (some ⟨Bt, 0, none⟩), .pointer (some ⟨Bp, 0, none⟩), .pointer (some ⟨g, 0, none⟩), .pointer (some ⟨Bs, 0, none⟩)] w0 := by
 intro W v vL l acc a1 hst hl hs
 have hu := Try.underlying115
 have hu2 := Try.underlying34
 have hu3 := Try.underlying110
 unfold ptSt at hs
 obtain ⟨cq, h1, hs⟩ := Option.bind_eq_some_iff.mp hs
 obtain ⟨⟨mo, mt⟩, h2, hs⟩ := Option.bind_eq_some_iff.mp hs
 obtain ⟨q, h3, hs⟩ := Option.bind_eq_some_iff.mp hs
 by_cases hlen : acc.length < 1000000
 rotate_left
 ·rw [if_neg hlen] at hs; exact absurd hs (by simp)
 rw [if_pos hlen] at hs
 obtain rfl := Option.some.inj hs
 obtain ⟨A1, c1, rfl, hle, hl1⟩ := gp_row hl
 obtain ⟨A, c, rfl⟩ := Kd.S_slice hst.row
 have A2 := ak_ fun (W2 : World) (hb : Below W.heap.size W W2) => impl_slowest.calls k At ct ts A1 c1 l cq W2 (Kd.C_below (Kd.C_below ht hst.bel) hb) hct (Kd.C_below hl1 hb) hle h1
 have A3 := ak_ fun (W2 : World) (hb : Below W.heap.size W W2) => impl_State_moved.calls k Ao co ov tq A1 c1 l mo mt W2 (Kd.C_below (Kd.C_below ho hst.bel) hb) hco (Kd.C_below hl1 hb) hle h2
 have A4 := ak_ fun (W2 : World) (Am : Option Addr) (cm : Nat) (hm : Kd.C Kd.bool W2 Am mo.length mo) (hcm : mo.length ≤ cm) => impl_State_code.calls k Am cm mo mt q W2 hm hcm h3
 have hB1 := blk_below hBt hst.bel
 have hB2 := blk_below hBp hst.bel
 have hz0 := blk_cell hB1 0
 have hz1 := blk_cell hB2 0
 have hz2 := blk_cell hB2 1
 simp at hz0
 simp at hz1
 simp at hz2
 have ST := ak_ hst
 have RL := ak_ hl
 have BB := ak_ hst.ext
 have HBW := ak_ (Below.refl W.heap.size W)
 have FR := ak_ (GpFr.below (g := g) (v := .slice A acc.length c) (Below.refl W.heap.size W))
 have HLEN := ak_ hlen
 clear hs h1 h2 h3 hst hl hl1 hle ht hct ho hco hBt hBp hB1 hB2 hlen
 go_enter Try.func134, Try.ntmps134
 go_upto_region 3 with (first | (go_at_call 135; refine (A2.out _ (by repeat (first | (with_reducible first | exact HBW.out | apply ba_ | apply bN_ | apply b1_) | exact HBW.out))).mono ?_; rintro e w6 ⟨rfl, hb⟩; clear hz0 hz1 hz2; have n0_ := ak_ (ST.out.up hb); have n1_ := ak_ (Kd.R_below RL.out hb); have n2_ := ak_ (FR.out.trans (GpFr.below hb)); have n3_ := ak_ (blk_below BB.out hb); have n4_ := ak_ (bs_ (by repeat (first | (with_reducible first | exact HBW.out | apply ba_ | apply bN_ | apply b1_) | exact HBW.out)) hb); clear ST RL FR BB HBW hb A2; have ST := n0_; have RL := n1_; have FR := n2_; have BB := n3_; have HBW := n4_; clear n0_ n1_ n2_ n3_ n4_))
 try go_wp2
 have n0_ := ak_ (ST.out.up (below_drew (Below.refl _ _))); have n1_ := ak_ (Kd.R_below RL.out (below_drew (Below.refl _ _))); have n2_ := ak_ (FR.out.trans (GpFr.below (below_drew (Below.refl _ _)))); have n3_ := ak_ (blk_below BB.out (below_drew (Below.refl _ _))); have n4_ := ak_ (bs_ HBW.out (below_drew (Below.refl _ _))); clear ST RL FR BB HBW; have ST := n0_; have RL := n1_; have FR := n2_; have BB := n3_; have HBW := n4_; clear n0_ n1_ n2_ n3_ n4_
 refine start_ (n := 11) (S := fun w' => w'.cell? ⟨g, 0, none⟩ = some (.slice A acc.length c) ∧ w'.cell? ⟨Bs, 0, none⟩ = some (.slice Ao ov.length co) ∧ w'.cell? ⟨Bs, 1, none⟩ = some (.bool tq)) (ds := [10]) (mb_ 11 0) (by kernel_rfl) rfl rfl ⟨(blk_cell ST.out.out 0).trans rfl, (blk_cell BB.out 0).trans rfl, (blk_cell BB.out 1).trans rfl⟩ (fun hHeld => ?_); refine with_tabW pt_each.T3_ pt_each.B3_ (fun HT_ HW_ => ?_)
 generalize w6.drew = w9 at ST RL FR BB HBW hHeld ⊢
 refine take_ (i := 0) (N := some 12) (v := ?_) (a' := ?_) (mb_ 11 1) rfl rfl (take_ofW HT_.out HW_.out (by kernel_rfl)) (fun _ _ _ h => h) (Or.inl ⟨by rfl, ?_⟩) hHeld ?_ ?_
 rotate_left
 ·rintro w' ⟨s0, s1, s2⟩
  go_simp
  with_reducible rfl
 rotate_left
 ·simp only [Act.put, setIfInBounds_toArray, set_cons_zero, set_cons_succ, i64_w, i32_w]
  rfl
 refine take_ (i := 1) (N := some 13) (v := ?_) (a' := ?_) (mb_ 11 3) rfl rfl (take_ofW HT_.out HW_.out (by kernel_rfl)) (fun _ _ _ h => h) (Or.inl ⟨by rfl, ?_⟩) hHeld ?_ ?_
 rotate_left
 ·rintro w' ⟨s0, s1, s2⟩
  go_simp
  with_reducible rfl
 rotate_left
 ·simp only [Act.put, setIfInBounds_toArray, set_cons_zero, set_cons_succ, i64_w, i32_w]
  rfl
 refine pure_ (i := 2) (N := some 14) (v := ?_) (a' := ?_) (mb_ 11 7) rfl rfl (any_of HT_.out (by kernel_rfl)) (fun _ _ _ h => h) (Or.inl ⟨by rfl, ?_⟩) ?_ ?_
 rotate_left
 ·intro w'
  go_simp
  with_reducible rfl
 rotate_left
 ·simp only [Act.put, setIfInBounds_toArray, set_cons_zero, set_cons_succ, i64_w, i32_w]
  rfl
 refine pure_ (i := 5) (N := some 17) (v := ?_) (a' := ?_) (mb_ 11 39) rfl rfl (any_of HT_.out (by kernel_rfl)) (fun _ _ _ h => h) (Or.inl ⟨by rfl, ?_⟩) ?_ ?_
 rotate_left
 ·intro w'
  go_simp
  with_reducible rfl
 rotate_left
 ·simp only [Act.put, setIfInBounds_toArray, set_cons_zero, set_cons_succ, i64_w, i32_w]
  rfl
 refine pure_ (i := 6) (N := some 18) (v := ?_) (a' := ?_) (mb_ 11 103) rfl rfl (any_of HT_.out (by kernel_rfl)) (fun _ _ _ h => h) (Or.inl ⟨by rfl, ?_⟩) ?_ ?_
 rotate_left
 ·intro w'
  go_simp
  with_reducible rfl
 rotate_left
 ·simp only [Act.put, setIfInBounds_toArray, set_cons_zero, set_cons_succ, i64_w, i32_w]
  rfl
 refine one_ (i := 3) (N := some 15) (mb_ 11 111) rfl rfl (one_of HT_.out (by kernel_rfl)) (by decide) (fun K hK => ?_)
 refine goes_ Try.func125 (by kernel_rfl) rfl #[.agg #[.slice Ao ov.length co, .bool tq], .slice A1 l.length c1] (by rfl) rfl rfl (by first | rfl | (simp only [map_toArray, map_cons, map_nil]; try rfl)) ?_
 refine (A3.out _ HBW.out).mono ?_
 rintro e_ w10 ⟨v10, rfl, ho, hb⟩
 obtain ⟨Am, cm, rfl⟩ := Kd.R_slice ho
 have OM := ak_ ho
 refine ⟨_, rfl, ?_⟩
 have n0_ := ak_ (ST.out.up hb); have n1_ := ak_ (Kd.R_below RL.out hb); have n2_ := ak_ (FR.out.trans (GpFr.below hb)); have n3_ := ak_ (blk_below BB.out hb); have n4_ := ak_ (bs_ HBW.out hb); clear ST RL FR BB HBW hb ho; have ST := n0_; have RL := n1_; have FR := n2_; have BB := n3_; have HBW := n4_; clear n0_ n1_ n2_ n3_ n4_
 refine hK.out _ _ ⟨(blk_cell ST.out.out 0).trans rfl, (blk_cell BB.out 0).trans rfl, (blk_cell BB.out 1).trans rfl⟩ (fun hHeld => ?_)
 clear hK K
 refine norm_ (a' := ?_) ?_ ?_
 rotate_left
 ·show Act.put _ (some 15) _ = _
  simp only [Act.put, setIfInBounds_toArray, set_cons_zero, set_cons_succ, i64_w, i32_w]
  rfl
 refine one_ (i := 4) (N := some 16) (mb_ 11 127) rfl rfl (one_of HT_.out (by kernel_rfl)) (by decide) (fun K hK => ?_)
 refine goes_ Try.func126 (by kernel_rfl) rfl #[.agg #[.slice Am mo.length cm, .bool mt]] (by rfl) rfl rfl (by first | rfl | (simp only [map_toArray, map_cons, map_nil]; try rfl)) ?_
 refine (A4.out _ Am cm (Kd.R_reads' OM.out).2.2 (Kd.R_reads' OM.out).2.1).mono ?_
 rintro e_ w16 ⟨rfl, hb⟩
 refine ⟨_, rfl, ?_⟩
 have n0_ := ak_ (ST.out.up hb); have n1_ := ak_ (Kd.R_below RL.out hb); have n2_ := ak_ (FR.out.trans (GpFr.below hb)); have n3_ := ak_ (blk_below BB.out hb); have n4_ := ak_ (bs_ HBW.out hb); clear ST RL FR BB HBW hb OM; have ST := n0_; have RL := n1_; have FR := n2_; have BB := n3_; have HBW := n4_; clear n0_ n1_ n2_ n3_ n4_
 refine hK.out _ _ ⟨(blk_cell ST.out.out 0).trans rfl, (blk_cell BB.out 0).trans rfl, (blk_cell BB.out 1).trans rfl⟩ (fun hHeld => ?_)
 clear hK K
 refine norm_ (a' := ?_) ?_ ?_
 rotate_left
 ·show Act.put _ (some 16) _ = _
  simp only [Act.put, setIfInBounds_toArray, set_cons_zero, set_cons_succ, i64_w, i32_w]
  rfl
 refine pure_ (i := 7) (N := some 19) (v := ?_) (a' := ?_) (mb_ 11 255) rfl rfl (any_of HT_.out (by kernel_rfl)) (fun _ _ _ h => h) (Or.inl ⟨by rfl, ?_⟩) ?_ ?_
 rotate_left
 ·intro w'
  go_simp
  with_reducible rfl
 rotate_left
 ·simp only [Act.put, setIfInBounds_toArray, set_cons_zero, set_cons_succ, i64_w, i32_w]
  rfl
 refine one_ (i := 8) (N := some 20) (mb_ 11 511) rfl rfl (one_of HT_.out (by kernel_rfl)) (by decide) (fun K hK => ?_)
 refine value_ (w1 := ?_) (v := ?_) (by rfl) rfl ?_ ?_
 rotate_left 2
 ·go_simp
  constructor
  ·rfl
  ·rfl
 refine hK.out _ _ ⟨(blk_cell (ka_ ST.out.out _) 0).trans rfl, (blk_cell (ka_ BB.out _) 0).trans rfl, (blk_cell (ka_ BB.out _) 1).trans rfl⟩ (fun hHeld => ?_)
 clear hK K
 refine norm_ (a' := ?_) ?_ ?_
 rotate_left
 ·show Act.put _ (some 20) _ = _
  simp only [Act.put, setIfInBounds_toArray, set_cons_zero, set_cons_succ, i64_w, i32_w]
  rfl
 refine one_ (i := 9) (N := some 21) (mb_ 11 1023) rfl rfl (one_of HT_.out (by kernel_rfl)) (by decide) (fun K hK => ?_)
 refine Kd.S_append_step k110 (w0 := w0) w0.heap.size (by rfl) (.tmp 12) (.tmp 20) 130 110 (.agg #[(.int .i64 0), (.int .i64 0), (.slice none 0 0)]) 40 rfl Try.underlying130 info110 rfl (by decide) (by omega) (.slice A acc.length c) acc (⟨q, cq, l⟩ : S110) [.int .i64 q, .int .i64 cq, .slice A1 l.length c1] (fun _ => True) (fun k_ => some k_ = (Value.slice A1 l.length c1).ownBlock) rfl rfl ?aP ?aK (fun _ _ => trivial) ?aO ?aB ?aS ?aL ?_
 (case aP => exact k110_mkM _ _ _ (⟨q, cq, l⟩ : S110) (Kd.R_tight rfl (Kd.pR RL.out)))
 (case aK => (intro k_ hk_; exact ⟨trivial, (RL.out.1 k_ hk_.symm).2⟩))
 (case aO => exact Kd.S_mono (Kd.pS ST.out.row) (fun k_ hk_ => ⟨trivial, hk_⟩))
 (case aB => exact ST.out.bel)
 (case aS => exact bz_ ST.out.bel)
 (case aL => have := HLEN.out; omega)
 intro v9 w19 ho hb hg hat
 obtain ⟨Ax, cx, rfl⟩ := Kd.S_slice ho
 have HO := ak_ ho; have HB9 := ak_ hb; have HG := ak_ hg; have HAT := ak_ hat; have n0_ := ak_ (blk_grown (pk ST.out.out) hg (Kd.S_ne ST.out.row ST.out.out (by decide))); have BX := ak_ (blk_grown (pk BB.out) hg (Kd.S_ne ST.out.row BB.out (by decide))); clear ho hb hg hat
 refine hK.out _ _ ⟨(blk_cell n0_.out 0).trans rfl, (blk_cell BX.out 0).trans rfl, (blk_cell BX.out 1).trans rfl⟩ (fun hHeld => ?_)
 clear hK K
 refine norm_ (a' := ?_) ?_ ?_
 rotate_left
 ·show Act.put _ (some 21) _ = _
  simp only [Act.put, setIfInBounds_toArray, set_cons_zero, set_cons_succ, i64_w, i32_w]
  rfl
 refine last_ (i := 10) (N := none) (mb_ 11 2047) rfl rfl (one_of HT_.out (by kernel_rfl)) (by decide) (fun K hK => ?_)
 have hf9 := (blk_frozen n0_.out 0); have hy9 : w19.cell? ⟨g, 0, none⟩ = some (.slice A acc.length c) := (blk_cell n0_.out 0).trans rfl
 refine skip_ (w1 := ?_) (by rfl) rfl ?_ ?_
 rotate_left
 ·go_simp
  rfl
 refine hK.out _ _ ?_
 clear hK K
 refine done_ (done_of HT_.out (by kernel_rfl)) ?_
 try go_wp2
 go_end0
 refine ⟨rfl, .slice Ax (acc.length + 1) cx, ⟨?_, ?_, ?_, ST.out.ge, ?_⟩, ?_⟩
 rotate_left
 ·exact (by (with_reducible repeat (first | apply Kd.S_alloc | apply Kd.S_drewN | apply Kd.S_drew)); have h_ := Kd.S_set HO.out n0_.out (by decide) 0 (.slice Ax (acc.length + 1) cx); rw [List.length_append, List.length_singleton] at h_; exact h_)
 ·exact (by repeat (first | (with_reducible first | exact HB9.out | apply ba_ | apply bN_ | apply b1_ | refine below_set ?_ ST.out.ge) | exact HB9.out))
 ·exact blk_far BX.out (gr_typ BX.out n0_.out (by decide)) _
 ·refine FR.out.trans ⟨?_, fun k_ hk_ hg_ ht_ => ?_, ?_⟩
  ·have h2_ := HG.out.size
   first | (simp; omega) | (simp at h2_ ⊢; omega)
  ·have e2_ : w19.heap[k_]? = w16.heap[k_]? := HG.out.block k_ hk_ ht_
   exact (Below.heap_setCell w19 ⟨g, 0, none⟩ _ k_ hg_).trans e2_
  ·rcases HAT.out with e_ | ⟨b_, e_, h_⟩
   ·left
    rw [List.length_append, List.length_singleton] at e_
    exact e_
   ·right
    intro b2_ h2_
    rw [List.length_append, List.length_singleton] at e_
    rw [e_] at h2_
    injection h2_ with h2_
    omega
 ·exact (by (with_reducible repeat (first | refine kN_ ?_ _ | refine k1_ ?_ | refine ka_ ?_ _)); exact blk_put n0_.out 0 _ rfl)
def impl_Party_graph.T2 : Bool × List (List Nat × List Nat) := (true, [([], []), ([], []), ([1], [1]), ([0, 2], [0, 2]), ([], []), ([4], [4]), ([], []), ([3, 5, 6, 3], [3, 5, 6])])
def impl_Party_graph.B2 : List Nat := [0, 0, 2, 7, 0, 16, 0, 127]
theorem impl_Party_graph.T2_ : rtab .any (opsOf Try.f133 2) = impl_Party_graph.T2 := by kernel_rfl
theorem impl_Party_graph.B2_ : waitsOk impl_Party_graph.T2.2 impl_Party_graph.B2 = true := by kernel_rfl
theorem impl_Party_graph.calls_1 (k : Nat) (Bn Bp Bt : Nat) (At : Option Addr) (ct : Nat) (ts : List Int) (se s : Int) (es : List S110) (w : World)
  (hBn : w.heap[Bn]? = some (.cells #[.int .i64 (ts.length : Int)] 3 (0, 0))) (hBp : w.heap[Bp]? = some (.cells #[.slice At ts.length ct, .int .i64 se] 34 (0, 0))) (hBt : w.heap[Bt]? = some (.cells #[.bool true] 4 (0, 0)))
  (ht : Kd.C (Kd.int .i64) w At ts.length ts) (hct : ts.length ≤ ct) (h : ptG k ts se s = some es) :
  Calls Try.prog 133 #[.int .i64 s, .pointer (some ⟨Bn, 0, none⟩), .pointer (some ⟨Bp, 0, none⟩), .pointer (some ⟨Bt, 0, none⟩)] w fun e w' => ∃ v : Value, e = .returned v ∧ Kd.S k110 110 w' w.heap.size (fun _ => True) v es ∧ Below w.heap.size w w' := by
 have hu := Try.underlying34
 have hu2 := Try.underlying110
 have hu3 := Try.underlying115
 unfold ptG at h
 obtain ⟨⟨ov, tq⟩, h1, h⟩ := Option.bind_eq_some_iff.mp h
 obtain ⟨P, h2, h⟩ := Option.bind_eq_some_iff.mp h
 by_cases hP : P.length ≤ 100
 rotate_left
 ·rw [if_neg hP] at h; exact absurd h (by simp)
 rw [if_pos hP] at h
 have A1 := ak_ fun (W : World) => impl_stateOf.calls k (ts.length : Int) s ov tq W h1
 have A2 := ak_ fun (W : World) (Ao : Option Addr) (co : Nat) (ho : Kd.C Kd.bool W Ao ov.length ov) (hco : ov.length ≤ co) => impl_State_side.calls k Ao co ov tq tq P W ho hco h2
 have A3 := ak_ fun (Bs g : Nat) (w0 W : World) (Ao : Option Addr) (co : Nat) (Ap : Option Addr) (cp : Nat) (v : Value) (h0 : Below w.heap.size w w0) (ho : Kd.C Kd.bool w0 Ao ov.length ov) (hco : ov.length ≤ co) (hst : GpSt k110 110 130 Bs #[.slice Ao ov.length co, .bool tq] 115 g w0 W v (fun _ => True) []) (hp : (Kd.int .i64).R 3 W w0.heap.size (fun k => k ≠ g ∧ some k ≠ v.ownBlock) (.slice Ap P.length cp) P) =>
  groups_calls k110 110 130 Bs #[.slice Ao ov.length co, .bool tq] 115 (ptSt k ts ov tq) g 134 #[.pointer (some ⟨Bt, 0, none⟩), .pointer (some ⟨Bp, 0, none⟩), .pointer (some ⟨g, 0, none⟩), .pointer (some ⟨Bs, 0, none⟩)] w0 Ap cp P se (enters_of Try.func134 (by kernel_rfl) rfl) (pt_each k Bt Bp Bs g w0 At ct ts se Ao co ov tq (blk_below hBt h0) (blk_below hBp h0) (Kd.C_below ht h0) hct ho hco) hP v es W hst hp h
 have HB := ak_ (Below.refl w.heap.size w)
 have hn0 := blk_cell hBn 0
 simp at hn0
 have BP := ak_ hBp
 clear h h1 h2 hP ht hct hBn hBp hBt
 go_enter Try.func133, Try.ntmps133
 go_upto_region 2 with (first | (go_at_call 123; refine (A1.out _).mono ?_; rintro e w13 ⟨v13, rfl, ho, hb⟩; obtain ⟨Ao, co, rfl⟩ := Kd.R_slice ho; have OV := ak_ ho; have HR := ak_ (gp_lit0 k110 110 w13 (Nat.le_refl _)); have HB13 := ak_ (ba_ (Below.refl w13.heap.size w13) (.cells #[] 110)); clear hn0; have n0_ := ak_ (blk_below BP.out hb); have n1_ := ak_ (bs_ HB.out hb); clear BP HB hb ho; have BP := n0_; have HB := n1_; clear n0_ n1_; have HW13 := ak_ HB.out; have HLP := ak_ (blk_lt BP.out); have hBPa := ak_ (ka_ BP.out (.cells #[] 110)); clear BP; have BP := hBPa; clear hBPa) | ((with_reducible refine gate_dst (N := 6) rfl ?_); refine box_event ?hg (N := 6) ?hd (cs := #[.slice none 0 0, .bool false]) (t := 115) ?hr ?_; (case hd => rfl); (case hg => rfl); (case hr => go_simp <;> rfl); intro gb6 hg w6 hbox hb; have nb_ := ak_ (bs_ (bb_ HB.out) hb); have nc_ := ak_ hbox; have nd_ := ak_ ((by rw [hg]; exact (bz_ (bb_ HB.out)) : w.heap.size ≤ gb6)); have hr_ := ak_ (Kd.S_below HR.out hb); have h13_ := ak_ (bs_ HB13.out hb); have hbp_ := ak_ (blk_below BP.out hb); have hge_ := ak_ (by rw [hg]; exact HB13.out.size : w13.heap.size ≤ gb6); clear HR HB13 BP; have HR := hr_; have HB13 := h13_; have BP := hbp_; clear hr_ h13_ hbp_; clear HB hb hbox hg; have HB := nb_; have BK6 := nc_; have GE6 := hge_; clear hge_; clear nb_ nc_ nd_; have hz6_0 := (blk_cell BK6.out 0); have hf6_0 := (blk_frozen BK6.out 0); simp at hz6_0; have hz6_1 := (blk_cell BK6.out 1); have hf6_1 := (blk_frozen BK6.out 1); simp at hz6_1; skip) | ((with_reducible refine gate_dst (N := 7) rfl ?_); refine box_event ?hg (N := 7) ?hd (cs := #[.slice none 0 0]) (t := 130) ?hr ?_; (case hd => rfl); (case hg => rfl); (case hr => go_simp <;> rfl); intro gb7 hg w7 hbox hb; have n0_ := ak_ (blk_below (pk BK6.out) hb); have m0_ := ak_ ((by rw [hg]; exact Nat.ne_of_lt (blk_lt (pk BK6.out)) : gb6 ≠ gb7)); have nb_ := ak_ (bs_ (bb_ HB.out) hb); have nc_ := ak_ hbox; have nd_ := ak_ ((by rw [hg]; exact (bz_ (bb_ HB.out)) : w.heap.size ≤ gb7)); have hr_ := ak_ (Kd.S_below HR.out hb); have h13_ := ak_ (bs_ HB13.out hb); have hbp_ := ak_ (blk_below BP.out hb); have hge_ := ak_ (by rw [hg]; exact HB13.out.size : w13.heap.size ≤ gb7); clear HR HB13 BP; have HR := hr_; have HB13 := h13_; have BP := hbp_; clear hr_ h13_ hbp_; clear HB hb hbox hg; clear BK6; have BK6 := n0_; have NE6_7 := m0_; have HB := nb_; have BK7 := nc_; have GE7 := hge_; clear hge_; clear nb_ nc_ nd_ n0_ m0_; have hz7_0 := (blk_cell BK7.out 0); have hf7_0 := (blk_frozen BK7.out 0); simp at hz7_0; clear hz6_0 hz6_1 hf6_0 hf6_1 hz7_0 hf7_0; have hz6_0 := (blk_cell BK6.out 0); have hf6_0 := (blk_frozen BK6.out 0); simp at hz6_0; have hz6_1 := (blk_cell BK6.out 1); have hf6_1 := (blk_frozen BK6.out 1); simp at hz6_1; have hb71_ := blk_far (p := ⟨gb6, 1, none⟩) (blk_far (p := ⟨gb6, 0, none⟩) BK7.out NE6_7.out.symm (.slice Ao ov.length co)) NE6_7.out.symm (.bool tq); have hz7_0 : ((w7.setCell ⟨gb6, 0, none⟩ (.slice Ao ov.length co)).setCell ⟨gb6, 1, none⟩ (.bool tq)).cell? ⟨gb7, 0, none⟩ = some (.slice none 0 0) := (blk_cell hb71_ 0).trans rfl; have hf7_0 := blk_frozen hb71_ 0; clear hb71_; skip))
 have B61 := ak_ (blk_put (cs' := #[.slice Ao ov.length co, .bool tq]) (blk_put (cs' := #[.slice Ao ov.length co, .bool false]) BK6.out 0 (.slice Ao ov.length co) rfl) 1 (.bool tq) rfl)
 have B71 := ak_ (blk_far (p := ⟨gb6, 1, none⟩) (blk_far (p := ⟨gb6, 0, none⟩) BK7.out NE6_7.out.symm (.slice Ao ov.length co)) NE6_7.out.symm (.bool tq))
 have B62 := ak_ (blk_far (p := ⟨gb7, 0, none⟩) B61.out NE6_7.out (.slice (some ⟨w13.heap.size, 0, none⟩) 0 0))
 have B72 := ak_ (blk_put (cs' := #[.slice (some ⟨w13.heap.size, 0, none⟩) 0 0]) B71.out 0 (.slice (some ⟨w13.heap.size, 0, none⟩) 0 0) rfl)
 have R1 := ak_ (Kd.S_set (Kd.S_set (Kd.S_set HR.out BK6.out (by decide) 0 (.slice Ao ov.length co)) (blk_put (cs' := #[.slice Ao ov.length co, .bool false]) BK6.out 0 (.slice Ao ov.length co) rfl) (by decide) 1 (.bool tq)) B71.out (by decide) 0 (.slice (some ⟨w13.heap.size, 0, none⟩) 0 0))
 have BP1 := ak_ (blk_far (p := ⟨gb7, 0, none⟩) (blk_far (p := ⟨gb6, 1, none⟩) (blk_far (p := ⟨gb6, 0, none⟩) BP.out (gr_typ BP.out BK6.out (by decide)) (.slice Ao ov.length co)) (gr_typ BP.out BK6.out (by decide)) (.bool tq)) (gr_typ BP.out BK7.out (by decide)) (.slice (some ⟨w13.heap.size, 0, none⟩) 0 0))
 have HB1 := ak_ (below_set (v := .slice (some ⟨w13.heap.size, 0, none⟩) 0 0) (j := 0) (below_set (v := .bool tq) (j := 1) (below_set (v := .slice Ao ov.length co) (j := 0) HB13.out GE6.out) GE6.out) GE7.out)
 generalize ((w7.setCell ⟨gb6, 0, none⟩ (.slice Ao ov.length co)).setCell ⟨gb6, 1, none⟩ (.bool tq)).setCell ⟨gb7, 0, none⟩ (.slice (some ⟨w13.heap.size, 0, none⟩) 0 0) = w8 at B62 B72 R1 BP1 HB1 ⊢
 have ST := ak_ (show GpSt k110 110 130 gb6 #[.slice Ao ov.length co, .bool tq] 115 gb7 w13 w8 (.slice (some ⟨w13.heap.size, 0, none⟩) 0 0) (fun _ => True) [] from ⟨B72.out, R1.out, HB1.out, GE7.out, B62.out⟩)
 have BK6' := ak_ B62.out
 have BP' := ak_ BP1.out
 clear BK6 BK7 BP HR HB13 B61 B71 B62 B72 R1 BP1 HB1 hz6_0 hz6_1 hf6_0 hf6_1 hz7_0 hf7_0
 have BK6 := BK6'; have BP := BP'; clear BK6' BP'
 generalize Value.slice (some ⟨w13.heap.size, 0, none⟩) 0 0 = v8 at ST ⊢
 have n0_ := ak_ (k1_ BK6.out); have n1_ := ak_ (k1_ BP.out); have n2_ := ak_ (ST.out.up (below_drew (Below.refl _ _))); clear BK6 BP ST; have BK6 := n0_; have BP := n1_; have ST := n2_; clear n0_ n1_ n2_
 refine start_ (n := 8) (S := fun w' => w'.cell? ⟨gb6, 0, none⟩ = some (.slice Ao ov.length co) ∧ w'.cell? ⟨gb6, 1, none⟩ = some (.bool tq) ∧ w'.cell? ⟨Bp, 1, none⟩ = some (.int .i64 se)) (ds := []) (mb_ 8 0) (by kernel_rfl) rfl rfl ⟨(blk_cell BK6.out 0).trans rfl, (blk_cell BK6.out 1).trans rfl, (blk_cell BP.out 1).trans rfl⟩ (fun hHeld => ?_); refine with_tabW impl_Party_graph.T2_ impl_Party_graph.B2_ (fun HT_ HW_ => ?_)
 generalize w8.drew = w9 at BK6 BP ST hHeld ⊢
 refine take_ (i := 0) (N := some 12) (v := ?_) (a' := ?_) (mb_ 8 1) rfl rfl (take_ofW HT_.out HW_.out (by kernel_rfl)) (fun _ _ _ h => h) (Or.inl ⟨by rfl, ?_⟩) hHeld ?_ ?_
 rotate_left
 ·rintro w' ⟨s0, s1, s2⟩
  go_simp
  with_reducible rfl
 rotate_left
 ·simp only [Act.put, setIfInBounds_toArray, set_cons_zero, set_cons_succ, i64_w, i32_w]
  rfl
 refine pure_ (i := 1) (N := some 13) (v := ?_) (a' := ?_) (mb_ 8 3) rfl rfl (any_of HT_.out (by kernel_rfl)) (fun _ _ _ h => h) (Or.inl ⟨by rfl, ?_⟩) ?_ ?_
 rotate_left
 ·intro w'
  go_simp
  with_reducible rfl
 rotate_left
 ·simp only [Act.put, setIfInBounds_toArray, set_cons_zero, set_cons_succ, i64_w, i32_w]
  rfl
 refine take_ (i := 2) (N := some 14) (v := ?_) (a' := ?_) (mb_ 8 7) rfl rfl (take_ofW HT_.out HW_.out (by kernel_rfl)) (fun _ _ _ h => h) (Or.inl ⟨by rfl, ?_⟩) hHeld ?_ ?_
 rotate_left
 ·rintro w' ⟨s0, s1, s2⟩
  go_simp
  with_reducible rfl
 rotate_left
 ·simp only [Act.put, setIfInBounds_toArray, set_cons_zero, set_cons_succ, i64_w, i32_w]
  rfl
 refine pure_ (i := 4) (N := some 16) (v := ?_) (a' := ?_) (mb_ 8 23) rfl rfl (any_of HT_.out (by kernel_rfl)) (fun _ _ _ h => h) (Or.inl ⟨by rfl, ?_⟩) ?_ ?_
 rotate_left
 ·intro w'
  go_simp
  with_reducible rfl
 rotate_left
 ·simp only [Act.put, setIfInBounds_toArray, set_cons_zero, set_cons_succ, i64_w, i32_w]
  rfl
 refine take_ (i := 5) (N := some 17) (v := ?_) (a' := ?_) (mb_ 8 55) rfl rfl (take_ofW HT_.out HW_.out (by kernel_rfl)) (fun _ _ _ h => h) (Or.inl ⟨by rfl, ?_⟩) hHeld ?_ ?_
 rotate_left
 ·rintro w' ⟨s0, s1, s2⟩
  go_simp
  with_reducible rfl
 rotate_left
 ·simp only [Act.put, setIfInBounds_toArray, set_cons_zero, set_cons_succ, i64_w, i32_w]
  rfl
 refine pure_ (i := 6) (N := some 18) (v := ?_) (a' := ?_) (mb_ 8 119) rfl rfl (any_of HT_.out (by kernel_rfl)) (fun _ _ _ h => h) (Or.inl ⟨by rfl, ?_⟩) ?_ ?_
 rotate_left
 ·intro w'
  go_simp
  with_reducible rfl
 rotate_left
 ·simp only [Act.put, setIfInBounds_toArray, set_cons_zero, set_cons_succ, i64_w, i32_w]
  rfl
 refine one_ (i := 3) (N := some 15) (mb_ 8 127) rfl rfl (one_of HT_.out (by kernel_rfl)) (by decide) (fun K hK => ?_)
 refine goes_ Try.func115 (by kernel_rfl) rfl #[.agg #[.slice Ao ov.length co, .bool tq], .bool tq] (by rfl) rfl rfl (by first | rfl | (simp only [map_toArray, map_cons, map_nil]; try rfl)) ?_
 refine (A2.out _ Ao co (Kd.C_below (Kd.R_reads' OV.out).2.2 ST.out.bel) (Kd.R_reads' OV.out).2.1).mono ?_
 rintro e_ w10 ⟨v10, rfl, hp, hb⟩
 obtain ⟨Ap, cp, rfl⟩ := Kd.R_slice hp
 refine ⟨_, rfl, ?_⟩
 have PL := ak_ (Kd.R_lower (ST.out.new (Nat.le_refl _) hp) (bz_ ST.out.bel))
 have n0_ := ak_ (blk_below BK6.out hb); have n1_ := ak_ (blk_below BP.out hb); have n2_ := ak_ (ST.out.up hb); clear BK6 BP ST hb hp; have BK6 := n0_; have BP := n1_; have ST := n2_; clear n0_ n1_ n2_
 refine hK.out _ _ ⟨(blk_cell BK6.out 0).trans rfl, (blk_cell BK6.out 1).trans rfl, (blk_cell BP.out 1).trans rfl⟩ (fun hHeld => ?_)
 clear hK K
 refine norm_ (a' := ?_) ?_ ?_
 rotate_left
 ·show Act.put _ (some 15) _ = _
  simp only [Act.put, setIfInBounds_toArray, set_cons_zero, set_cons_succ, i64_w, i32_w]
  rfl
 refine one_ (i := 7) (N := some 19) (mb_ 8 255) rfl rfl (one_of HT_.out (by kernel_rfl)) (by decide) (fun K hK => ?_)
 refine goes_ Try.func113 (by kernel_rfl) rfl #[.slice Ap P.length cp, .int .i64 se, .func (.func 134) #[] #[.pointer (some ⟨Bt, 0, none⟩), .pointer (some ⟨Bp, 0, none⟩), .pointer (some ⟨gb7, 0, none⟩), .pointer (some ⟨gb6, 0, none⟩)]] (by rfl) rfl rfl (by first | rfl | (simp only [map_toArray, map_cons, map_nil]; try rfl)) ?_
 refine (A3.out gb6 gb7 w13 _ Ao co Ap cp v8 HW13.out (Kd.R_reads' OV.out).2.2 (Kd.R_reads' OV.out).2.1 ST.out PL.out).mono ?_
 rintro e_ w11 ⟨rfl, v11, hst, hfr⟩
 refine ⟨_, rfl, ?_⟩
 have n0_ := ak_ hst; have n1_ := ak_ hst.ext; have n2_ := ak_ ((hfr.at_ (blk_lt BP.out) (fun e_ => by have := ST.out.ge; have := HLP.out; omega) (fun e_ => by have := Kd.S_base ST.out.row _ e_.symm; have := HLP.out; omega)).trans BP.out); clear ST BK6 BP hst hfr; have ST := n0_; have BK6 := n1_; have BP := n2_; clear n0_ n1_ n2_
 refine hK.out _ _ ⟨(blk_cell BK6.out 0).trans rfl, (blk_cell BK6.out 1).trans rfl, (blk_cell BP.out 1).trans rfl⟩ (fun hHeld => ?_)
 clear hK K
 refine norm_ (a' := ?_) ?_ ?_
 rotate_left
 ·show Act.put _ (some 19) _ = _
  simp only [Act.put, setIfInBounds_toArray, set_cons_zero, set_cons_succ, i64_w, i32_w]
  rfl
 refine done_ (done_of HT_.out (by kernel_rfl)) ?_
 have hy7 := (blk_cell ST.out.out 0)
 simp at hy7
 go_wp2
 first | go_ret | go_ret2
 exact ⟨_, rfl, Kd.S_lower (Kd.S_below ST.out.row (by repeat (first | exact Below.refl _ _ | apply bN_ | apply b1_ | apply ba_))) (bz_ HW13.out), below_then HW13.out HW13.out.size (ST.out.up (by repeat (first | exact Below.refl _ _ | apply bN_ | apply b1_ | apply ba_))).bel⟩
attribute [local go_sem] run_store_fn_
def grN (n : Nat) : Int := wrap64 (2 * 2 ^ min n 64)
theorem impl_Party_graph.calls (At : Option Addr) (ct : Nat) (ts : List Int) (se : Int) (w : World) (hw : Kd.C (Kd.int .i64) w At ts.length ts) :
  Calls Try.prog 98 #[.agg #[.slice At ts.length ct, .int .i64 se], .bool true] w fun e w' => ∃ Bn Bc Bl : Nat, e = .returned (.agg #[.int .i64 (grN ts.length), .func (.func 133) #[] #[.pointer (some ⟨Bn, 0, none⟩), .pointer (some ⟨Bc, 0, none⟩), .pointer (some ⟨Bl, 0, none⟩)]]) ∧
   (w'.heap[Bn]? = some (.cells #[.int .i64 (ts.length : Int)] 3 (0, 0)) ∧ w'.heap[Bc]? = some (.cells #[.slice At ts.length ct, .int .i64 se] 34 (0, 0)) ∧ w'.heap[Bl]? = some (.cells #[.bool true] 4 (0, 0))) ∧ Below w.heap.size w w' := by
 have hu := Try.underlying34
 have hu2 := Try.underlying68
 have HB := ak_ (Below.refl w.heap.size w)
 have hn : (ts.length : Int) ≤ 9223372036854775807 := by have := Kd.C_max hw; omega
 clear hw
 go_enter Try.func98, Try.ntmps98
 go_upto_region 1 with (first | ((with_reducible refine gate_dst (N := 2) rfl ?_); refine box_event ?hg (N := 2) ?hd (cs := #[.slice At ts.length ct, .int .i64 se]) (t := 34) ?hr ?_; (case hd => rfl); (case hg => rfl); (case hr => go_simp <;> rfl); intro gb2 hg w2 hbox hb; have nb_ := ak_ (bs_ (bb_ HB.out) hb); have nc_ := ak_ hbox; have nd_ := ak_ ((by rw [hg]; exact (bz_ (bb_ HB.out)) : w.heap.size ≤ gb2)); clear HB hb hbox hg; have HB := nb_; have BK2 := nc_; have GE2 := nd_; clear nb_ nc_ nd_; have hz2_0 := (blk_cell BK2.out 0); have hf2_0 := (blk_frozen BK2.out 0); simp at hz2_0; have hz2_1 := (blk_cell BK2.out 1); have hf2_1 := (blk_frozen BK2.out 1); simp at hz2_1; skip) | ((with_reducible refine gate_dst (N := 3) rfl ?_); refine box_event ?hg (N := 3) ?hd (cs := #[.bool true]) (t := 4) ?hr ?_; (case hd => rfl); (case hg => rfl); (case hr => go_simp <;> rfl); intro gb3 hg w3 hbox hb; have n0_ := ak_ (blk_below (pk BK2.out) hb); have m0_ := ak_ ((by rw [hg]; exact Nat.ne_of_lt (blk_lt (pk BK2.out)) : gb2 ≠ gb3)); have nb_ := ak_ (bs_ (bb_ HB.out) hb); have nc_ := ak_ hbox; have nd_ := ak_ ((by rw [hg]; exact (bz_ (bb_ HB.out)) : w.heap.size ≤ gb3)); clear HB hb hbox hg; clear BK2; have BK2 := n0_; have NE2_3 := m0_; have HB := nb_; have BK3 := nc_; have GE3 := nd_; clear nb_ nc_ nd_ n0_ m0_; have hz3_0 := (blk_cell BK3.out 0); have hf3_0 := (blk_frozen BK3.out 0); simp at hz3_0; skip) | ((with_reducible refine gate_dst (N := 4) rfl ?_); refine box_event ?hg (N := 4) ?hd (cs := #[.int .i64 0, .nilFunc]) (t := 68) ?hr ?_; (case hd => rfl); (case hg => rfl); (case hr => go_simp <;> rfl); intro gb4 hg w4 hbox hb; have n0_ := ak_ (blk_below (pk BK2.out) hb); have m0_ := ak_ ((by rw [hg]; exact Nat.ne_of_lt (blk_lt (pk BK2.out)) : gb2 ≠ gb4)); have n1_ := ak_ (blk_below (pk BK3.out) hb); have m1_ := ak_ ((by rw [hg]; exact Nat.ne_of_lt (blk_lt (pk BK3.out)) : gb3 ≠ gb4)); have nb_ := ak_ (bs_ (bb_ HB.out) hb); have nc_ := ak_ hbox; have nd_ := ak_ ((by rw [hg]; exact (bz_ (bb_ HB.out)) : w.heap.size ≤ gb4)); clear HB hb hbox hg; clear BK2 BK3; have BK2 := n0_; have NE2_4 := m0_; have BK3 := n1_; have NE3_4 := m1_; have HB := nb_; have BK4 := nc_; have GE4 := nd_; clear nb_ nc_ nd_ n0_ m0_ n1_ m1_; have hz4_0 := (blk_cell BK4.out 0); have hf4_0 := (blk_frozen BK4.out 0); simp at hz4_0; have hz4_1 := (blk_cell BK4.out 1); have hf4_1 := (blk_frozen BK4.out 1); simp at hz4_1; skip))
 have hq0 := blk_cell BK2.out 0
 simp at hq0
 go_upto_region 2 with (first | ((with_reducible refine gate_dst (N := 5) rfl ?_); refine box_event ?hg (N := 5) ?hd (cs := #[.int .i64 0]) (t := 3) ?hr ?_; (case hd => rfl); (case hg => rfl); (case hr => go_simp <;> rfl); intro gb5 hg w5 hbox hb; have n0_ := ak_ (blk_below (pk BK2.out) hb); have m0_ := ak_ ((by rw [hg]; exact Nat.ne_of_lt (blk_lt (pk BK2.out)) : gb2 ≠ gb5)); have n1_ := ak_ (blk_below (pk BK3.out) hb); have m1_ := ak_ ((by rw [hg]; exact Nat.ne_of_lt (blk_lt (pk BK3.out)) : gb3 ≠ gb5)); have n2_ := ak_ (blk_below (pk BK4.out) hb); have m2_ := ak_ ((by rw [hg]; exact Nat.ne_of_lt (blk_lt (pk BK4.out)) : gb4 ≠ gb5)); have nb_ := ak_ (bs_ (bb_ HB.out) hb); have nc_ := ak_ hbox; have nd_ := ak_ ((by rw [hg]; exact (bz_ (bb_ HB.out)) : w.heap.size ≤ gb5)); clear HB hb hbox hg; clear BK2 BK3 BK4; have BK2 := n0_; have NE2_5 := m0_; have BK3 := n1_; have NE3_5 := m1_; have BK4 := n2_; have NE4_5 := m2_; have HB := nb_; have BK5 := nc_; have GE5 := nd_; clear nb_ nc_ nd_ n0_ m0_ n1_ m1_ n2_ m2_; have hz5_0 := (blk_cell BK5.out 0); have hf5_0 := (blk_frozen BK5.out 0); simp at hz5_0; have hq0 := blk_cell BK2.out 0; simp at hq0; skip))
 have n0_ := ak_ (blk_far (p := ⟨gb5, 0, none⟩) BK2.out NE2_5.out (.int .i64 (ts.length : Int)))
 have n1_ := ak_ (blk_far (p := ⟨gb5, 0, none⟩) BK3.out NE3_5.out (.int .i64 (ts.length : Int)))
 have n2_ := ak_ (blk_far (p := ⟨gb5, 0, none⟩) BK4.out NE4_5.out (.int .i64 (ts.length : Int)))
 have n3_ := ak_ (blk_put (cs' := #[.int .i64 (ts.length : Int)]) BK5.out 0 (.int .i64 (ts.length : Int)) rfl)
 have n4_ := ak_ (below_set (v := (.int .i64 (ts.length : Int))) (j := 0) HB.out GE5.out)
 clear BK2 BK3 BK4 BK5 HB hz5_0 hf5_0 hz2_0 hz2_1 hf2_0 hf2_1 hz3_0 hf3_0 hz4_0 hz4_1 hf4_0 hf4_1 hq0
 generalize w5.setCell ⟨gb5, 0, none⟩ (.int .i64 (ts.length : Int)) = w6 at n0_ n1_ n2_ n3_ n4_ ⊢
 have BK2 := n0_; have BK3 := n1_; have BK4 := n2_; have BK5 := n3_; have HB := n4_
 clear n0_ n1_ n2_ n3_ n4_
 have hz5 := blk_cell BK5.out 0
 have hz40 := blk_cell BK4.out 0
 have hz41 := blk_cell BK4.out 1
 have hf40 := blk_frozen BK4.out 0
 have hf41 := blk_frozen BK4.out 1
 simp at hz5
 simp at hz40
 simp at hz41
 have B41 := blk_put (cs' := #[.int .i64 (wrap64 (2 * 2 ^ min ts.length 64)), .func (.func 133) #[] #[.pointer (some ⟨gb5, 0, none⟩), .pointer (some ⟨gb2, 0, none⟩), .pointer (some ⟨gb3, 0, none⟩)]]) (blk_put (cs' := #[.int .i64 (wrap64 (2 * 2 ^ min ts.length 64)), .nilFunc]) BK4.out 0 (.int .i64 (wrap64 (2 * 2 ^ min ts.length 64))) rfl) 1 (.func (.func 133) #[] #[.pointer (some ⟨gb5, 0, none⟩), .pointer (some ⟨gb2, 0, none⟩), .pointer (some ⟨gb3, 0, none⟩)]) rfl
 have B21 := blk_far (p := ⟨gb4, 1, none⟩) (blk_far (p := ⟨gb4, 0, none⟩) BK2.out NE2_4.out (.int .i64 (wrap64 (2 * 2 ^ min ts.length 64)))) NE2_4.out (.func (.func 133) #[] #[.pointer (some ⟨gb5, 0, none⟩), .pointer (some ⟨gb2, 0, none⟩), .pointer (some ⟨gb3, 0, none⟩)])
 have B31 := blk_far (p := ⟨gb4, 1, none⟩) (blk_far (p := ⟨gb4, 0, none⟩) BK3.out NE3_4.out (.int .i64 (wrap64 (2 * 2 ^ min ts.length 64)))) NE3_4.out (.func (.func 133) #[] #[.pointer (some ⟨gb5, 0, none⟩), .pointer (some ⟨gb2, 0, none⟩), .pointer (some ⟨gb3, 0, none⟩)])
 have B51 := blk_far (p := ⟨gb4, 1, none⟩) (blk_far (p := ⟨gb4, 0, none⟩) BK5.out NE4_5.out.symm (.int .i64 (wrap64 (2 * 2 ^ min ts.length 64)))) NE4_5.out.symm (.func (.func 133) #[] #[.pointer (some ⟨gb5, 0, none⟩), .pointer (some ⟨gb2, 0, none⟩), .pointer (some ⟨gb3, 0, none⟩)])
 have HB1 := below_set (v := (.func (.func 133) #[] #[.pointer (some ⟨gb5, 0, none⟩), .pointer (some ⟨gb2, 0, none⟩), .pointer (some ⟨gb3, 0, none⟩)])) (j := 1) (below_set (v := (.int .i64 (wrap64 (2 * 2 ^ min ts.length 64)))) (j := 0) HB.out GE4.out) GE4.out
 have HF := ak_ (And.intro B41 (And.intro B21 (And.intro B31 (And.intro B51 HB1))))
 clear B41 B21 B31 B51 HB1
 go_wp2
 refine bodyPost_ret (results_cell_row rfl _ _ gb4 68 #[.int .i64 (wrap64 (2 * 2 ^ min ts.length 64)), .func (.func 133) #[] #[.pointer (some ⟨gb5, 0, none⟩), .pointer (some ⟨gb2, 0, none⟩), .pointer (some ⟨gb3, 0, none⟩)]] (0, 0) _ rfl HF.out.1 Try.underlying68 rfl (by kernel_rfl)) rfl ?_
 exact ⟨gb5, gb2, gb3, rfl, ⟨HF.out.2.2.2.1, HF.out.2.1, HF.out.2.2.1⟩, HF.out.2.2.2.2⟩
attribute [local go_sem] run_store_fn_
def impl_Party_costs.f (k : Nat) (ts : List Int) (se : Int) : Option (List Int × Bool) := (impl_IsParty.f ts se).bind fun b0 => if b0 = true then (impl_last.f (ts.length : Int)).bind fun q => (frG (ptG k ts se) k (grN ts.length) [q]).bind fun dist => if 0 < dist.length then some (dist, decide (0 ≤ rdOf 0 dist 0)) else none else none
theorem impl_Party_costs.mono : ∀ ts se k, LeO (impl_Party_costs.f k ts se) (impl_Party_costs.f (k + 1) ts se) := fun ts se k => LeO.bind (LeO.refl _) (fun _ => LeO.ite (LeO.bind (LeO.refl _) (fun _ => LeO.bind (frG_mono (fun s => ptG_mono k ts se s) _ _ _) (fun _ => LeO.refl _))) (LeO.refl _))
def impl_Party_costs.T4 : Bool × List (List Nat × List Nat) := (true, [([], []), ([], []), ([1], [1]), ([2], [2]), ([3], [3]), ([4], [4]), ([0, 5, 4], [0, 5]), ([6, 6, 0, 1, 2, 3, 4, 5, 6], [6])])
def impl_Party_costs.B4 : List Nat := [0, 0, 2, 6, 14, 30, 63, 127]
theorem impl_Party_costs.T2_ : rtab .any (opsOf Try.f50 4) = impl_Party_costs.T4 := by kernel_rfl
theorem impl_Party_costs.B2_ : waitsOk impl_Party_costs.T4.2 impl_Party_costs.B4 = true := by kernel_rfl
def impl_Party_costs.T5 : Bool × List (List Nat × List Nat) := (true, [([], []), ([], []), ([], []), ([2], [2]), ([3], [3]), ([4], [4]), ([0, 0], [0]), ([1, 6, 0, 1, 6], [1]), ([5, 7, 0, 1, 2, 3, 4, 5, 6, 7], [5])])
def impl_Party_costs.B5 : List Nat := [0, 0, 0, 4, 12, 28, 1, 67, 255]
theorem impl_Party_costs.T3_ : rtab .any (opsOf Try.f50 5) = impl_Party_costs.T5 := by kernel_rfl
theorem impl_Party_costs.B3_ : waitsOk impl_Party_costs.T5.2 impl_Party_costs.B5 = true := by kernel_rfl
theorem impl_Party_costs.calls (k : Nat) (At : Option Addr) (ct : Nat) (ts : List Int) (se : Int) (dist : List Int) (b : Bool) (w : World) (ht : Kd.C (Kd.int .i64) w At ts.length ts) (hct : ts.length ≤ ct) (h : impl_Party_costs.f k ts se = some (dist, b)) :
  Calls Try.prog 50 #[.agg #[.slice At ts.length ct, .int .i64 se], .bool true] w fun e w' => ∃ (fo : Nat) (cb : Array Value) (gd cd : Nat), e = .returned (.tuple #[.agg #[.int .i64 (grN ts.length), .func (.func fo) #[] cb], .slice (some ⟨gd, 0, none⟩) dist.length cd, .bool b]) ∧
   (∀ args w, (callFunc fo args).run Try.prog w = .ok (.enter fo args) w) ∧ grAll (ptG k ts se) (grN ts.length) = true ∧ GOut fo cb (grN ts.length) (grE (ptG k ts se)) w' ∧ Kd.R (Kd.int .i64) 3 w' w.heap.size (fun _ => True) (.slice (some ⟨gd, 0, none⟩) dist.length cd) dist ∧ Below w.heap.size w w' := by
 have hu := Try.underlying34
 have hu2 := Try.underlying68
 unfold impl_Party_costs.f at h
 obtain ⟨b1, h0, h⟩ := Option.bind_eq_some_iff.mp h
 cases b1
 ·rw [if_neg (by simp)] at h; exact absurd h (by simp)
 rw [if_pos rfl] at h
 have h1 := h0
 have A0 := ak_ fun (W : World) (hb : Below w.heap.size w W) => impl_IsParty.calls At ct ts se true W (Kd.C_below ht hb) hct h1
 clear h0 h1
 obtain ⟨q, h1, h⟩ := Option.bind_eq_some_iff.mp h
 obtain ⟨dist', h2, h⟩ := Option.bind_eq_some_iff.mp h
 by_cases hd : 0 < dist'.length
 rotate_left
 ·rw [if_neg hd] at h; exact absurd h (by simp)
 rw [if_pos hd] at h
 obtain ⟨rfl, rfl⟩ : dist' = dist ∧ decide (0 ≤ rdOf 0 dist' 0) = b := by simpa using h
 unfold frG at h2
 by_cases ha : grAll (ptG k ts se) (grN ts.length) = true
 rotate_left
 ·rw [if_neg ha] at h2; exact absurd h2 (by simp)
 rw [if_pos ha] at h2
 have A1 := ak_ fun (W : World) (hb : Below w.heap.size w W) => impl_Party_graph.calls At ct ts se W (Kd.C_below ht hb)
 have A2 := ak_ fun (W : World) => impl_last.calls (ts.length : Int) q W h1
 have HE := ak_ fun (W : World) (hb : Below w.heap.size w W) (Bn Bc Bl : Nat) (hB : W.heap[Bn]? = some (.cells #[.int .i64 (ts.length : Int)] 3 (0, 0)) ∧ W.heap[Bc]? = some (.cells #[.slice At ts.length ct, .int .i64 se] 34 (0, 0)) ∧ W.heap[Bl]? = some (.cells #[.bool true] 4 (0, 0))) => (GOut.of ha (fun W' s es hW' hs => impl_Party_graph.calls_1 k Bn Bc Bl At ct ts se s es W' (blk_below hB.1 hW') (blk_below hB.2.1 hW') (blk_below hB.2.2 hW') (Kd.C_below ht (bs_ hb hW')) hct hs) : GOut 133 #[.pointer (some ⟨Bn, 0, none⟩), .pointer (some ⟨Bc, 0, none⟩), .pointer (some ⟨Bl, 0, none⟩)] (grN ts.length) (grE (ptG k ts se)) W)
 have A3 := ak_ fun (W W0 : World) (cb : Array Value) (hE : GOut 133 cb (grN ts.length) (grE (ptG k ts se)) W) (bs cs : Nat) (hb0 : Below W.heap.size W W0) (hs : Kd.R (Kd.int .i64) 3 W0 W.heap.size (fun _ => True) (.slice (some ⟨bs, 0, none⟩) [q].length cs) [q]) => impl_graph_int_from.calls 133 cb (grN ts.length) (grE (ptG k ts se)) W W0 (enters_of Try.func133 (by kernel_rfl) rfl) hE k [q] dist' bs cs hb0 hs h2
 have HA := ak_ ha
 have HD0 := ak_ hd
 have HB := ak_ (Below.refl w.heap.size w)
 have hc0 : (0 : Int) < (dist'.length : Int) := by omega
 have hcn : (0 < dist'.length) = True := eq_true hd
 clear h h1 h2 hd ha ht hct
 go_enter Try.func50, Try.ntmps50
 go_upto_region 1 with (first | ((with_reducible refine gate_dst (N := 2) rfl ?_); refine box_event ?hg (N := 2) ?hd (cs := #[.slice At ts.length ct, .int .i64 se]) (t := 34) ?hr ?_; (case hd => rfl); (case hg => rfl); (case hr => go_simp <;> rfl); intro gb2 hg w2 hbox hb; have nb_ := ak_ (bs_ (bb_ HB.out) hb); have nc_ := ak_ hbox; have nd_ := ak_ ((by rw [hg]; exact (bz_ (bb_ HB.out)) : w.heap.size ≤ gb2)); clear HB hb hbox hg; have HB := nb_; have BK2 := nc_; have GE2 := nd_; clear nb_ nc_ nd_; have hz2_0 := (blk_cell BK2.out 0); have hf2_0 := (blk_frozen BK2.out 0); simp at hz2_0; have hz2_1 := (blk_cell BK2.out 1); have hf2_1 := (blk_frozen BK2.out 1); simp at hz2_1; skip) | ((with_reducible refine gate_dst (N := 4) rfl ?_); refine box_event ?hg (N := 4) ?hd (cs := #[.int .i64 0, .nilFunc]) (t := 68) ?hr ?_; (case hd => rfl); (case hg => rfl); (case hr => go_simp <;> rfl); intro gb4 hg w4 hbox hb; have n0_ := ak_ (blk_below (pk BK2.out) hb); have m0_ := ak_ ((by rw [hg]; exact Nat.ne_of_lt (blk_lt (pk BK2.out)) : gb2 ≠ gb4)); have nb_ := ak_ (bs_ (bb_ HB.out) hb); have nc_ := ak_ hbox; have nd_ := ak_ ((by rw [hg]; exact (bz_ (bb_ HB.out)) : w.heap.size ≤ gb4)); clear HB hb hbox hg; clear BK2; have BK2 := n0_; have NE2_4 := m0_; have HB := nb_; have BK4 := nc_; have GE4 := nd_; clear nb_ nc_ nd_ n0_ m0_; have hz4_0 := (blk_cell BK4.out 0); have hf4_0 := (blk_frozen BK4.out 0); simp at hz4_0; have hz4_1 := (blk_cell BK4.out 1); have hf4_1 := (blk_frozen BK4.out 1); simp at hz4_1; skip))
 have hq0 := blk_cell BK2.out 0
 have hq1 := blk_cell BK2.out 1
 simp at hq0
 simp at hq1
 go_upto_region 2 with (first | (go_at_call 98; refine (A1.out _ (bb_ HB.out)).mono ?_; rintro e w11 ⟨Bn, Bc, Bl, rfl, hB, hb⟩; have HK := ak_ hB; clear hB A1; have n0_ := ak_ (blk_below (pk BK2.out) hb); have n1_ := ak_ (blk_below (pk BK4.out) hb); have n2_ := ak_ (bs_ (bb_ HB.out) hb); clear BK2 BK4 HB hb; have BK2 := n0_; have BK4 := n1_; have HB := n2_; clear n0_ n1_ n2_) | ((with_reducible refine gate_dst (N := 7) rfl ?_); refine box_event ?hg (N := 7) ?hd (cs := #[.int .i64 0, .nilFunc]) (t := 68) ?hr ?_; (case hd => rfl); (case hg => rfl); (case hr => go_simp <;> rfl); intro gb7 hg w7 hbox hb; have n0_ := ak_ (blk_below (pk BK2.out) hb); have m0_ := ak_ ((by rw [hg]; exact Nat.ne_of_lt (blk_lt (pk BK2.out)) : gb2 ≠ gb7)); have n1_ := ak_ (blk_below (pk BK4.out) hb); have m1_ := ak_ ((by rw [hg]; exact Nat.ne_of_lt (blk_lt (pk BK4.out)) : gb4 ≠ gb7)); have nb_ := ak_ (bs_ (bb_ HB.out) hb); have nc_ := ak_ hbox; have nd_ := ak_ ((by rw [hg]; exact (bz_ (bb_ HB.out)) : w.heap.size ≤ gb7)); have nk_ := ak_ (show w7.heap[Bn]? = some (.cells #[.int .i64 (ts.length : Int)] 3 (0, 0)) ∧ w7.heap[Bc]? = some (.cells #[.slice At ts.length ct, .int .i64 se] 34 (0, 0)) ∧ w7.heap[Bl]? = some (.cells #[.bool true] 4 (0, 0)) from And.intro (blk_below (pk HK.out.1) hb) (And.intro (blk_below (pk HK.out.2.1) hb) (blk_below (pk HK.out.2.2) hb))); clear HB hb hbox hg HK; have HK := nk_; clear nk_; clear BK2 BK4; have BK2 := n0_; have NE2_7 := m0_; have BK4 := n1_; have NE4_7 := m1_; have HB := nb_; have BK7 := nc_; have GE7 := nd_; clear nb_ nc_ nd_ n0_ m0_ n1_ m1_; have hz7_0 := (blk_cell BK7.out 0); have hf7_0 := (blk_frozen BK7.out 0); simp at hz7_0; have hz7_1 := (blk_cell BK7.out 1); have hf7_1 := (blk_frozen BK7.out 1); simp at hz7_1; skip))
 have B71 := ak_ (blk_put (cs' := #[.int .i64 (grN ts.length), .func (.func 133) #[] #[.pointer (some ⟨Bn, 0, none⟩), .pointer (some ⟨Bc, 0, none⟩), .pointer (some ⟨Bl, 0, none⟩)]]) (blk_put (cs' := #[.int .i64 (grN ts.length), .nilFunc]) BK7.out 0 (.int .i64 (grN ts.length)) rfl) 1 (.func (.func 133) #[] #[.pointer (some ⟨Bn, 0, none⟩), .pointer (some ⟨Bc, 0, none⟩), .pointer (some ⟨Bl, 0, none⟩)]) rfl)
 have B21 := ak_ (blk_far (p := ⟨gb7, 1, none⟩) (blk_far (p := ⟨gb7, 0, none⟩) BK2.out NE2_7.out (.int .i64 (grN ts.length))) NE2_7.out (.func (.func 133) #[] #[.pointer (some ⟨Bn, 0, none⟩), .pointer (some ⟨Bc, 0, none⟩), .pointer (some ⟨Bl, 0, none⟩)]))
 have B41 := ak_ (blk_far (p := ⟨gb7, 1, none⟩) (blk_far (p := ⟨gb7, 0, none⟩) BK4.out NE4_7.out (.int .i64 (grN ts.length))) NE4_7.out (.func (.func 133) #[] #[.pointer (some ⟨Bn, 0, none⟩), .pointer (some ⟨Bc, 0, none⟩), .pointer (some ⟨Bl, 0, none⟩)]))
 have K71 := ak_ (show ((w7.setCell ⟨gb7, 0, none⟩ (.int .i64 (grN ts.length))).setCell ⟨gb7, 1, none⟩ (.func (.func 133) #[] #[.pointer (some ⟨Bn, 0, none⟩), .pointer (some ⟨Bc, 0, none⟩), .pointer (some ⟨Bl, 0, none⟩)])).heap[Bn]? = some (.cells #[.int .i64 (ts.length : Int)] 3 (0, 0)) ∧ ((w7.setCell ⟨gb7, 0, none⟩ (.int .i64 (grN ts.length))).setCell ⟨gb7, 1, none⟩ (.func (.func 133) #[] #[.pointer (some ⟨Bn, 0, none⟩), .pointer (some ⟨Bc, 0, none⟩), .pointer (some ⟨Bl, 0, none⟩)])).heap[Bc]? = some (.cells #[.slice At ts.length ct, .int .i64 se] 34 (0, 0)) ∧ ((w7.setCell ⟨gb7, 0, none⟩ (.int .i64 (grN ts.length))).setCell ⟨gb7, 1, none⟩ (.func (.func 133) #[] #[.pointer (some ⟨Bn, 0, none⟩), .pointer (some ⟨Bc, 0, none⟩), .pointer (some ⟨Bl, 0, none⟩)])).heap[Bl]? = some (.cells #[.bool true] 4 (0, 0)) from And.intro (blk_far (blk_far HK.out.1 (gr_typ HK.out.1 BK7.out (by decide)) (.int .i64 (grN ts.length))) (gr_typ HK.out.1 BK7.out (by decide)) (.func (.func 133) #[] #[.pointer (some ⟨Bn, 0, none⟩), .pointer (some ⟨Bc, 0, none⟩), .pointer (some ⟨Bl, 0, none⟩)])) (And.intro (blk_far (blk_far HK.out.2.1 (gr_typ HK.out.2.1 BK7.out (by decide)) (.int .i64 (grN ts.length))) (gr_typ HK.out.2.1 BK7.out (by decide)) (.func (.func 133) #[] #[.pointer (some ⟨Bn, 0, none⟩), .pointer (some ⟨Bc, 0, none⟩), .pointer (some ⟨Bl, 0, none⟩)])) (blk_far (blk_far HK.out.2.2 (gr_typ HK.out.2.2 BK7.out (by decide)) (.int .i64 (grN ts.length))) (gr_typ HK.out.2.2 BK7.out (by decide)) (.func (.func 133) #[] #[.pointer (some ⟨Bn, 0, none⟩), .pointer (some ⟨Bc, 0, none⟩), .pointer (some ⟨Bl, 0, none⟩)]))))
 have HB1 := ak_ (below_set (v := (.func (.func 133) #[] #[.pointer (some ⟨Bn, 0, none⟩), .pointer (some ⟨Bc, 0, none⟩), .pointer (some ⟨Bl, 0, none⟩)])) (j := 1) (below_set (v := (.int .i64 (grN ts.length))) (j := 0) HB.out GE7.out) GE7.out)
 generalize (w7.setCell ⟨gb7, 0, none⟩ (.int .i64 (grN ts.length))).setCell ⟨gb7, 1, none⟩ (.func (.func 133) #[] #[.pointer (some ⟨Bn, 0, none⟩), .pointer (some ⟨Bc, 0, none⟩), .pointer (some ⟨Bl, 0, none⟩)]) = w70 at B71 B21 B41 K71 HB1 ⊢
 clear BK2 BK4 BK7 HB HK
 have BK2 := B21; have BK4 := B41; have BK7 := B71; have HB := HB1; have HK := K71
 clear B21 B41 B71 HB1 K71
 have hq0 := blk_cell BK2.out 0
 have hq1 := blk_cell BK2.out 1
 simp at hq0
 simp at hq1
 try clear hz2_0 hz2_1 hf2_0 hf2_1 hz4_0 hz4_1 hf4_0 hf4_1 hz7_0 hz7_1 hf7_0 hf7_1
 go_upto_region 4 with (first | (go_at_call 49; refine (A0.out _ (bb_ HB.out)).mono ?_; rintro e w8 ⟨rfl, hb⟩; clear hq0 hq1 A0; have n0_ := ak_ (blk_below (pk BK2.out) hb); have n1_ := ak_ (blk_below (pk BK4.out) hb); have n2_ := ak_ (blk_below (pk BK7.out) hb); have n3_ := ak_ (And.intro (blk_below (pk HK.out.1) hb) (And.intro (blk_below (pk HK.out.2.1) hb) (blk_below (pk HK.out.2.2) hb))); have n4_ := ak_ (bs_ (bb_ HB.out) hb); clear BK2 BK4 BK7 HK HB hb; have BK2 := n0_; have BK4 := n1_; have BK7 := n2_; have HK := n3_; have HB := n4_; clear n0_ n1_ n2_ n3_ n4_))
 have n0_ := ak_ (k1_ BK2.out); have n1_ := ak_ (k1_ BK4.out); have n2_ := ak_ (k1_ BK7.out); have n3_ := ak_ (And.intro (k1_ HK.out.1) (And.intro (k1_ HK.out.2.1) (k1_ HK.out.2.2))); have n4_ := ak_ (b1_ HB.out); clear BK2 BK4 BK7 HK HB; have BK2 := n0_; have BK4 := n1_; have BK7 := n2_; have HK := n3_; have HB := n4_; clear n0_ n1_ n2_ n3_ n4_
 refine start_ (n := 8) (S := fun w' => w'.cell? ⟨gb7, 0, none⟩ = some (.int .i64 (grN ts.length)) ∧ w'.cell? ⟨gb7, 1, none⟩ = some (.func (.func 133) #[] #[.pointer (some ⟨Bn, 0, none⟩), .pointer (some ⟨Bc, 0, none⟩), .pointer (some ⟨Bl, 0, none⟩)]) ∧ w'.cell? ⟨gb2, 0, none⟩ = some (.slice At ts.length ct)) (ds := []) (mb_ 8 0) (by kernel_rfl) rfl rfl ⟨(blk_cell BK7.out 0).trans rfl, (blk_cell BK7.out 1).trans rfl, (blk_cell BK2.out 0).trans rfl⟩ (fun hHeld => ?_); refine with_tabW impl_Party_costs.T2_ impl_Party_costs.B2_ (fun HT_ HW_ => ?_)
 generalize w8.drew = w9 at BK2 BK4 BK7 HK HB hHeld ⊢
 refine take_ (i := 0) (N := some 16) (v := ?_) (a' := ?_) (mb_ 8 1) rfl rfl (take_ofW HT_.out HW_.out (by kernel_rfl)) (fun _ _ _ h => h) (Or.inl ⟨by rfl, ?_⟩) hHeld ?_ ?_
 rotate_left
 ·rintro w' ⟨s0, s1, s2⟩
  go_simp
  with_reducible rfl
 rotate_left
 ·simp only [Act.put, setIfInBounds_toArray, set_cons_zero, set_cons_succ, i64_w, i32_w]
  rfl
 refine pure_ (i := 1) (N := some 17) (v := ?_) (a' := ?_) (mb_ 8 3) rfl rfl (any_of HT_.out (by kernel_rfl)) (fun _ _ _ h => h) (Or.inl ⟨by rfl, ?_⟩) ?_ ?_
 rotate_left
 ·intro w'
  go_simp
  with_reducible rfl
 rotate_left
 ·simp only [Act.put, setIfInBounds_toArray, set_cons_zero, set_cons_succ, i64_w, i32_w]
  rfl
 refine take_ (i := 2) (N := some 18) (v := ?_) (a' := ?_) (mb_ 8 7) rfl rfl (take_ofW HT_.out HW_.out (by kernel_rfl)) (fun _ _ _ h => h) (Or.inl ⟨by rfl, ?_⟩) hHeld ?_ ?_
 rotate_left
 ·rintro w' ⟨s0, s1, s2⟩
  go_simp
  with_reducible rfl
 rotate_left
 ·simp only [Act.put, setIfInBounds_toArray, set_cons_zero, set_cons_succ, i64_w, i32_w]
  rfl
 refine pure_ (i := 3) (N := some 19) (v := ?_) (a' := ?_) (mb_ 8 15) rfl rfl (any_of HT_.out (by kernel_rfl)) (fun _ _ _ h => h) (Or.inl ⟨by rfl, ?_⟩) ?_ ?_
 rotate_left
 ·intro w'
  go_simp
  with_reducible rfl
 rotate_left
 ·simp only [Act.put, setIfInBounds_toArray, set_cons_zero, set_cons_succ, i64_w, i32_w]
  rfl
 refine one_ (i := 4) (N := some 20) (mb_ 8 31) rfl rfl (one_of HT_.out (by kernel_rfl)) (by decide) (fun K hK => ?_)
 refine goes_ Try.func85 (by kernel_rfl) rfl #[.int .i64 (ts.length : Int)] (by rfl) rfl rfl (by first | rfl | (simp only [map_toArray, map_cons, map_nil]; try rfl)) ?_
 refine (A2.out _).mono ?_
 rintro e_ w10 ⟨rfl, ⟨nd, rfl⟩⟩
 refine ⟨_, rfl, ?_⟩
 have n0_ := ak_ (kN_ BK2.out nd); have n1_ := ak_ (kN_ BK4.out nd); have n2_ := ak_ (kN_ BK7.out nd); have n3_ := ak_ (And.intro (kN_ HK.out.1 nd) (And.intro (kN_ HK.out.2.1 nd) (kN_ HK.out.2.2 nd))); have n4_ := ak_ (bN_ HB.out nd); clear BK2 BK4 BK7 HK HB; have BK2 := n0_; have BK4 := n1_; have BK7 := n2_; have HK := n3_; have HB := n4_; clear n0_ n1_ n2_ n3_ n4_
 generalize w9.drewN nd = w10 at BK2 BK4 BK7 HK HB ⊢
 refine hK.out _ _ ⟨(blk_cell BK7.out 0).trans rfl, (blk_cell BK7.out 1).trans rfl, (blk_cell BK2.out 0).trans rfl⟩ (fun hHeld => ?_)
 clear hK K
 refine norm_ (a' := ?_) ?_ ?_
 rotate_left
 ·show Act.put _ (some 20) _ = _
  simp only [Act.put, setIfInBounds_toArray, set_cons_zero, set_cons_succ, i64_w, i32_w]
  rfl
 refine one_ (i := 5) (N := some 21) (mb_ 8 63) rfl rfl (one_of HT_.out (by kernel_rfl)) (by decide) (fun K hK => ?_)
 refine Kd.R_lit_step (Kd.int .i64) w10.heap.size 3 ?hg (N := 21) ?hd (xs := [q]) (inner := [.int .i64 q]) (ok := fun _ => True) (okp := fun _ => True) ?hr ?hp (fun _ hk => hk) trivial (Below.refl w10.heap.size w10) (Nat.le_refl _) (by simp) ?_; (case hd => rfl); (case hg => rfl); (case hr => go_simp <;> rfl); (case hp => exact (Reps.one (show Kd.M (Kd.int .i64) _ _ _ q [.int .i64 q] from rfl) (Reps.none _ _)))
 intro s2 w11 ho0 hb0 hg_ hnew_
 clear hg_ hnew_
 obtain ⟨bs, cs, rfl, -, -, -⟩ := Kd.R_form ho0 (by simp)
 have HS := ak_ ho0
 have HB11 := ak_ hb0
 have HB10 := ak_ HB.out; have B10 := ak_ (And.intro BK2.out (And.intro BK4.out BK7.out)); have HE2 := ak_ (HE.out w10 HB.out Bn Bc Bl HK.out)
 have n0_ := ak_ (blk_below BK2.out hb0); have n1_ := ak_ (blk_below BK4.out hb0); have n2_ := ak_ (blk_below BK7.out hb0); have n3_ := ak_ (bs_ HB.out hb0); clear BK2 BK4 BK7 HB hb0 ho0; have BK2 := n0_; have BK4 := n1_; have BK7 := n2_; have HB := n3_; clear n0_ n1_ n2_ n3_
 refine hK.out _ _ ⟨(blk_cell BK7.out 0).trans rfl, (blk_cell BK7.out 1).trans rfl, (blk_cell BK2.out 0).trans rfl⟩ (fun hHeld => ?_)
 clear hK K
 refine norm_ (a' := ?_) ?_ ?_
 rotate_left
 ·show Act.put _ (some 21) _ = _
  simp only [Act.put, setIfInBounds_toArray, set_cons_zero, set_cons_succ, i64_w, i32_w]
  rfl
 refine one_ (i := 6) (N := some 22) (mb_ 8 127) rfl rfl (one_of HT_.out (by kernel_rfl)) (by decide) (fun K hK => ?_)
 refine goes_ Try.func84 (by kernel_rfl) rfl #[.agg #[.int .i64 (grN ts.length), .func (.func 133) #[] #[.pointer (some ⟨Bn, 0, none⟩), .pointer (some ⟨Bc, 0, none⟩), .pointer (some ⟨Bl, 0, none⟩)]], .slice (some ⟨bs, 0, none⟩) [q].length cs] (by rfl) rfl rfl (by first | rfl | (simp only [map_toArray, map_cons, map_nil]; try rfl)) ?_
 refine (A3.out w10 w11 _ HE2.out bs cs HB11.out HS.out).mono ?_
 rintro e_ w12 ⟨v12, rfl, hdi, hb⟩
 refine ⟨_, rfl, ?_⟩
 obtain ⟨gd, cd, rfl, -, -, -⟩ := Kd.R_form hdi HD0.out
 have HD := ak_ (Kd.R_lower hdi (bz_ HB10.out))
 have n0_ := ak_ (blk_below B10.out.1 hb); have n1_ := ak_ (blk_below B10.out.2.1 hb); have n2_ := ak_ (blk_below B10.out.2.2 hb); have n3_ := ak_ (And.intro (blk_below HK.out.1 hb) (And.intro (blk_below HK.out.2.1 hb) (blk_below HK.out.2.2 hb))); have n4_ := ak_ (bs_ HB10.out hb); clear BK2 BK4 BK7 HE2 HK HB HS HB11 HB10 hdi hb B10; have BK2 := n0_; have BK4 := n1_; have BK7 := n2_; have HK := n3_; have HB := n4_; clear n0_ n1_ n2_ n3_ n4_
 refine hK.out _ _ ⟨(blk_cell BK7.out 0).trans rfl, (blk_cell BK7.out 1).trans rfl, (blk_cell BK2.out 0).trans rfl⟩ (fun hHeld => ?_)
 clear hK K
 refine norm_ (a' := ?_) ?_ ?_
 rotate_left
 ·show Act.put _ (some 22) _ = _
  simp only [Act.put, setIfInBounds_toArray, set_cons_zero, set_cons_succ, i64_w, i32_w]
  rfl
 refine pure_ (i := 7) (N := some 8) (v := ?_) (a' := ?_) (mb_ 8 255) rfl rfl (any_of HT_.out (by kernel_rfl)) (fun _ _ _ h => h) (Or.inl ⟨by rfl, ?_⟩) ?_ ?_
 rotate_left
 ·intro w'
  go_simp
  with_reducible rfl
 rotate_left
 ·simp only [Act.put, setIfInBounds_toArray, set_cons_zero, set_cons_succ, i64_w, i32_w]
  rfl
 refine done_ (done_of HT_.out (by kernel_rfl)) ?_
 try go_wp2
 have n0_ := ak_ (k1_ BK2.out); have n1_ := ak_ (k1_ BK4.out); have n2_ := ak_ (k1_ BK7.out); have n3_ := ak_ (And.intro (k1_ HK.out.1) (And.intro (k1_ HK.out.2.1) (k1_ HK.out.2.2))); have n4_ := ak_ (b1_ HB.out); have n5_ := ak_ (Kd.R_drew HD.out); clear BK2 BK4 BK7 HK HB HD; have BK2 := n0_; have BK4 := n1_; have BK7 := n2_; have HK := n3_; have HB := n4_; have HD := n5_; clear n0_ n1_ n2_ n3_ n4_ n5_
 have hx0_ := ((Kd.R_celln 0 HD.out 0 (by omega) (by omega)).1 : w12.drew.cell? ⟨gd, 0, none⟩ = some (.int .i64 (rdOf 0 dist' 0)))
 have HX := ak_ hx0_
 clear hx0_
 refine start_ (n := 9) (S := fun w' => w'.cell? ⟨gb7, 0, none⟩ = some (.int .i64 (grN ts.length)) ∧ w'.cell? ⟨gb7, 1, none⟩ = some (.func (.func 133) #[] #[.pointer (some ⟨Bn, 0, none⟩), .pointer (some ⟨Bc, 0, none⟩), .pointer (some ⟨Bl, 0, none⟩)]) ∧ w'.cell? ⟨gd, 0, none⟩ = some (.int .i64 (rdOf 0 dist' 0))) (ds := []) (mb_ 9 0) (by kernel_rfl) rfl rfl ⟨(blk_cell BK7.out 0).trans rfl, (blk_cell BK7.out 1).trans rfl, HX.out⟩ (fun hHeld => ?_); refine with_tabW impl_Party_costs.T3_ impl_Party_costs.B3_ (fun HT_ HW_ => ?_)
 generalize w12.drew = w13 at BK2 BK4 BK7 HK HB HD HX hHeld ⊢
 refine take_ (i := 0) (N := some 23) (v := ?_) (a' := ?_) (mb_ 9 1) rfl rfl (take_ofW HT_.out HW_.out (by kernel_rfl)) (fun _ _ _ h => h) (Or.inl ⟨by rfl, ?_⟩) hHeld ?_ ?_
 rotate_left
 ·rintro w' ⟨s0, s1, s2⟩
  go_simp
  with_reducible rfl
 rotate_left
 ·simp only [Act.put, setIfInBounds_toArray, set_cons_zero, set_cons_succ, i64_w, i32_w]
  rfl
 refine pure_ (i := 1) (N := some 24) (v := ?_) (a' := ?_) (mb_ 9 3) rfl rfl (any_of HT_.out (by kernel_rfl)) (fun _ _ _ h => h) (Or.inl ⟨by rfl, ?_⟩) ?_ ?_
 rotate_left
 ·intro w'
  go_simp
  with_reducible rfl
 rotate_left
 ·simp only [Act.put, setIfInBounds_toArray, set_cons_zero, set_cons_succ, i64_w, i32_w]
  rfl
 refine pure_ (i := 2) (N := some 25) (v := ?_) (a' := ?_) (mb_ 9 7) rfl rfl (any_of HT_.out (by kernel_rfl)) (fun _ _ _ h => h) (Or.inl ⟨by rfl, ?_⟩) ?_ ?_
 rotate_left
 ·intro w'
  go_simp
  with_reducible rfl
 rotate_left
 ·simp only [Act.put, setIfInBounds_toArray, set_cons_zero, set_cons_succ, i64_w, i32_w]
  rfl
 refine pure_ (i := 3) (N := some 26) (v := ?_) (a' := ?_) (mb_ 9 15) rfl rfl (any_of HT_.out (by kernel_rfl)) (fun _ _ _ h => h) (Or.inl ⟨by rfl, ?_⟩) ?_ ?_
 rotate_left
 ·intro w'
  go_simp
  with_reducible rfl
 rotate_left
 ·simp only [Act.put, setIfInBounds_toArray, set_cons_zero, set_cons_succ, i64_w, i32_w]
  rfl
 refine take_ (i := 4) (N := some 27) (v := ?_) (a' := ?_) (mb_ 9 31) rfl rfl (take_ofW HT_.out HW_.out (by kernel_rfl)) (fun _ _ _ h => h) (Or.inl ⟨by rfl, ?_⟩) hHeld ?_ ?_
 rotate_left
 ·rintro w' ⟨s0, s1, s2⟩
  go_simp
  with_reducible rfl
 rotate_left
 ·simp only [Act.put, setIfInBounds_toArray, set_cons_zero, set_cons_succ, i64_w, i32_w]
  rfl
 refine pure_ (i := 5) (N := some 28) (v := ?_) (a' := ?_) (mb_ 9 63) rfl rfl (any_of HT_.out (by kernel_rfl)) (fun _ _ _ h => h) (Or.inl ⟨by rfl, ?_⟩) ?_ ?_
 rotate_left
 ·intro w'
  go_simp
  with_reducible rfl
 rotate_left
 ·simp only [Act.put, setIfInBounds_toArray, set_cons_zero, set_cons_succ, i64_w, i32_w]
  rfl
 refine one_ (i := 6) (N := none) (mb_ 9 127) rfl rfl (one_of HT_.out (by kernel_rfl)) (by decide) (fun K hK => ?_)
 have hz40 := blk_cell BK4.out 0
 have hz41 := blk_cell BK4.out 1
 have hf40 := blk_frozen BK4.out 0
 have hf41 := blk_frozen BK4.out 1
 simp at hz40
 simp at hz41
 have B41 := ak_ (blk_put (cs' := #[.int .i64 (grN ts.length), .func (.func 133) #[] #[.pointer (some ⟨Bn, 0, none⟩), .pointer (some ⟨Bc, 0, none⟩), .pointer (some ⟨Bl, 0, none⟩)]]) (blk_put (cs' := #[.int .i64 (grN ts.length), .nilFunc]) BK4.out 0 (.int .i64 (grN ts.length)) rfl) 1 (.func (.func 133) #[] #[.pointer (some ⟨Bn, 0, none⟩), .pointer (some ⟨Bc, 0, none⟩), .pointer (some ⟨Bl, 0, none⟩)]) rfl)
 have B71 := ak_ (blk_far (p := ⟨gb4, 1, none⟩) (blk_far (p := ⟨gb4, 0, none⟩) BK7.out NE4_7.out.symm (.int .i64 (grN ts.length))) NE4_7.out.symm (.func (.func 133) #[] #[.pointer (some ⟨Bn, 0, none⟩), .pointer (some ⟨Bc, 0, none⟩), .pointer (some ⟨Bl, 0, none⟩)]))
 have D1 := ak_ (Kd.R_set (Kd.R_set HD.out BK4.out (by decide) 0 (.int .i64 (grN ts.length))) (blk_put (cs' := #[.int .i64 (grN ts.length), .nilFunc]) BK4.out 0 (.int .i64 (grN ts.length)) rfl) (by decide) 1 (.func (.func 133) #[] #[.pointer (some ⟨Bn, 0, none⟩), .pointer (some ⟨Bc, 0, none⟩), .pointer (some ⟨Bl, 0, none⟩)]))
 have HB1 := ak_ (below_set (v := (.func (.func 133) #[] #[.pointer (some ⟨Bn, 0, none⟩), .pointer (some ⟨Bc, 0, none⟩), .pointer (some ⟨Bl, 0, none⟩)])) (j := 1) (below_set (v := (.int .i64 (grN ts.length))) (j := 0) HB.out GE4.out) GE4.out)
 have K1 := ak_ (show ((w13.setCell ⟨gb4, 0, none⟩ (.int .i64 (grN ts.length))).setCell ⟨gb4, 1, none⟩ (.func (.func 133) #[] #[.pointer (some ⟨Bn, 0, none⟩), .pointer (some ⟨Bc, 0, none⟩), .pointer (some ⟨Bl, 0, none⟩)])).heap[Bn]? = some (.cells #[.int .i64 (ts.length : Int)] 3 (0, 0)) ∧ ((w13.setCell ⟨gb4, 0, none⟩ (.int .i64 (grN ts.length))).setCell ⟨gb4, 1, none⟩ (.func (.func 133) #[] #[.pointer (some ⟨Bn, 0, none⟩), .pointer (some ⟨Bc, 0, none⟩), .pointer (some ⟨Bl, 0, none⟩)])).heap[Bc]? = some (.cells #[.slice At ts.length ct, .int .i64 se] 34 (0, 0)) ∧ ((w13.setCell ⟨gb4, 0, none⟩ (.int .i64 (grN ts.length))).setCell ⟨gb4, 1, none⟩ (.func (.func 133) #[] #[.pointer (some ⟨Bn, 0, none⟩), .pointer (some ⟨Bc, 0, none⟩), .pointer (some ⟨Bl, 0, none⟩)])).heap[Bl]? = some (.cells #[.bool true] 4 (0, 0)) from And.intro (blk_far (blk_far HK.out.1 (gr_typ HK.out.1 BK4.out (by decide)) (.int .i64 (grN ts.length))) (gr_typ HK.out.1 BK4.out (by decide)) (.func (.func 133) #[] #[.pointer (some ⟨Bn, 0, none⟩), .pointer (some ⟨Bc, 0, none⟩), .pointer (some ⟨Bl, 0, none⟩)])) (And.intro (blk_far (blk_far HK.out.2.1 (gr_typ HK.out.2.1 BK4.out (by decide)) (.int .i64 (grN ts.length))) (gr_typ HK.out.2.1 BK4.out (by decide)) (.func (.func 133) #[] #[.pointer (some ⟨Bn, 0, none⟩), .pointer (some ⟨Bc, 0, none⟩), .pointer (some ⟨Bl, 0, none⟩)])) (blk_far (blk_far HK.out.2.2 (gr_typ HK.out.2.2 BK4.out (by decide)) (.int .i64 (grN ts.length))) (gr_typ HK.out.2.2 BK4.out (by decide)) (.func (.func 133) #[] #[.pointer (some ⟨Bn, 0, none⟩), .pointer (some ⟨Bc, 0, none⟩), .pointer (some ⟨Bl, 0, none⟩)]))))
 refine skip_ (w1 := ?_) (by rfl) rfl ?_ ?_
 rotate_left
 ·go_simp
  rfl
 generalize (w13.setCell ⟨gb4, 0, none⟩ (.int .i64 (grN ts.length))).setCell ⟨gb4, 1, none⟩ (.func (.func 133) #[] #[.pointer (some ⟨Bn, 0, none⟩), .pointer (some ⟨Bc, 0, none⟩), .pointer (some ⟨Bl, 0, none⟩)]) = w14 at B41 B71 D1 HB1 K1 ⊢
 have hx0_ := ((Kd.R_celln 0 D1.out 0 (by omega) (by omega)).1 : w14.cell? ⟨gd, 0, none⟩ = some (.int .i64 (rdOf 0 dist' 0)))
 refine hK.out _ _ ⟨(blk_cell B71.out 0).trans rfl, (blk_cell B71.out 1).trans rfl, hx0_⟩ (fun hHeld => ?_)
 clear hK K hx0_
 refine pure_ (i := 7) (N := some 5) (v := ?_) (a' := ?_) (mb_ 9 255) rfl rfl (any_of HT_.out (by kernel_rfl)) (fun _ _ _ h => h) (Or.inl ⟨by rfl, ?_⟩) ?_ ?_
 rotate_left
 ·intro w'
  go_simp
  with_reducible rfl
 rotate_left
 ·simp only [Act.put, setIfInBounds_toArray, set_cons_zero, set_cons_succ, i64_w, i32_w]
  rfl
 refine pure_ (i := 8) (N := some 6) (v := ?_) (a' := ?_) (mb_ 9 511) rfl rfl (any_of HT_.out (by kernel_rfl)) (fun _ _ _ h => h) (Or.inl ⟨by rfl, ?_⟩) ?_ ?_
 rotate_left
 ·intro w'
  go_simp
  with_reducible rfl
 rotate_left
 ·simp only [Act.put, setIfInBounds_toArray, set_cons_zero, set_cons_succ, i64_w, i32_w]
  rfl
 refine done_ (done_of HT_.out (by kernel_rfl)) ?_
 try go_wp2
 refine bodyPost_ret (results_ctt rfl _ _ gb4 68 #[.int .i64 (grN ts.length), .func (.func 133) #[] #[.pointer (some ⟨Bn, 0, none⟩), .pointer (some ⟨Bc, 0, none⟩), .pointer (some ⟨Bl, 0, none⟩)]] (0, 0) _ rfl B41.out Try.underlying68 rfl (by kernel_rfl)) rfl ?_
 exact ⟨133, #[.pointer (some ⟨Bn, 0, none⟩), .pointer (some ⟨Bc, 0, none⟩), .pointer (some ⟨Bl, 0, none⟩)], gd, cd, rfl, enters_of Try.func133 (by kernel_rfl) rfl, HA.out, HE.out w14 HB1.out Bn Bc Bl K1.out, D1.out, HB1.out⟩
attribute [local go_sem] run_store_fn_
def impl_CountBest.f (k : Nat) (ts : List Int) (se : Int) : Option (Int × Bool) := (impl_IsParty.f ts se).bind fun b => if b = true then (impl_Party_costs.f k ts se).bind fun p => if p.2 = true then (coG (ptG k ts se) (grN ts.length) 0 p.1).bind fun r => some (r, true) else some (0, true) else some (0, false)
theorem impl_CountBest.mono : ∀ ts se k, LeO (impl_CountBest.f k ts se) (impl_CountBest.f (k + 1) ts se) := fun ts se k => LeO.bind (LeO.refl _) (fun _ => LeO.ite (LeO.bind (impl_Party_costs.mono ts se k) (fun _ => LeO.ite (LeO.bind (coG_mono (fun s => ptG_mono k ts se s) _ _ _) (fun _ => LeO.refl _)) (LeO.refl _))) (LeO.refl _))
theorem impl_CountBest.calls (k : Nat) (At : Option Addr) (ct : Nat) (ts : List Int) (se : Int) (r1 : Int) (r2 : Bool) (w : World) (ht : Kd.C (Kd.int .i64) w At ts.length ts) (hct : ts.length ≤ ct) (h : impl_CountBest.f k ts se = some (r1, r2)) :
  Calls Try.prog 16 #[.agg #[.slice At ts.length ct, .int .i64 se]] w fun e w' => e = .returned (.tuple #[.int .i64 r1, .bool r2]) ∧ Below w.heap.size w w' := by
 have hu := Try.underlying34
 have hu2 := Try.underlying68
 unfold impl_CountBest.f at h
 obtain ⟨b1, h1, h⟩ := Option.bind_eq_some_iff.mp h
 have A1 := ak_ fun (W : World) (hb : Below w.heap.size w W) => impl_IsParty.calls At ct ts se b1 W (Kd.C_below ht hb) hct h1
 have HB := ak_ (Below.refl w.heap.size w)
 cases b1
 ·rw [if_neg (by simp)] at h
  obtain ⟨rfl, rfl⟩ : (0 : Int) = r1 ∧ false = r2 := by simpa using h
  clear h h1 ht hct
  go_enter Try.func16, Try.ntmps16
  go_upto_region 1 with (first | ((with_reducible refine gate_dst (N := 1) rfl ?_); refine box_event ?hg (N := 1) ?hd (cs := #[.slice At ts.length ct, .int .i64 se]) (t := 34) ?hr ?_; (case hd => rfl); (case hg => rfl); (case hr => go_simp <;> rfl); intro gb1 hg w1 hbox hb; have nb_ := ak_ (bs_ (bb_ HB.out) hb); have nc_ := ak_ hbox; have nd_ := ak_ ((by rw [hg]; exact (bz_ (bb_ HB.out)) : w.heap.size ≤ gb1)); clear HB hb hbox hg; have HB := nb_; have BK1 := nc_; have GE1 := nd_; clear nb_ nc_ nd_; have hz1_0 := (blk_cell BK1.out 0); have hf1_0 := (blk_frozen BK1.out 0); simp at hz1_0; have hz1_1 := (blk_cell BK1.out 1); have hf1_1 := (blk_frozen BK1.out 1); simp at hz1_1; skip))
  have hq0 := blk_cell BK1.out 0
  have hq1 := blk_cell BK1.out 1
  simp at hq0
  simp at hq1
  go_wp2_with (go_at_call 49; refine (A1.out _ (bb_ HB.out)).mono ?_; rintro e w8 ⟨rfl, hb⟩; clear hq0 hq1 A1; have n0_ := ak_ (blk_below (pk BK1.out) hb); have n1_ := ak_ (bs_ (bb_ HB.out) hb); clear BK1 HB hb; have BK1 := n0_; have HB := n1_; clear n0_ n1_)
  first | go_ret2 | go_ret
  exact ⟨rfl, (bb_ HB.out)⟩
 ·rw [if_pos rfl] at h
  skip
  obtain ⟨⟨dist, b2⟩, h2, h⟩ := Option.bind_eq_some_iff.mp h
  have A2 := ak_ fun (W : World) (hb : Below w.heap.size w W) => impl_Party_costs.calls k At ct ts se dist b2 W (Kd.C_below ht hb) hct h2
  have H := ak_ h
  have HN := ak_ h1
  clear h h1 h2 ht hct
  go_enter Try.func16, Try.ntmps16
  go_upto_region 1 with (first | ((with_reducible refine gate_dst (N := 1) rfl ?_); refine box_event ?hg (N := 1) ?hd (cs := #[.slice At ts.length ct, .int .i64 se]) (t := 34) ?hr ?_; (case hd => rfl); (case hg => rfl); (case hr => go_simp <;> rfl); intro gb1 hg w1 hbox hb; have nb_ := ak_ (bs_ (bb_ HB.out) hb); have nc_ := ak_ hbox; have nd_ := ak_ ((by rw [hg]; exact (bz_ (bb_ HB.out)) : w.heap.size ≤ gb1)); clear HB hb hbox hg; have HB := nb_; have BK1 := nc_; have GE1 := nd_; clear nb_ nc_ nd_; have hz1_0 := (blk_cell BK1.out 0); have hf1_0 := (blk_frozen BK1.out 0); simp at hz1_0; have hz1_1 := (blk_cell BK1.out 1); have hf1_1 := (blk_frozen BK1.out 1); simp at hz1_1; skip))
  have hq0 := blk_cell BK1.out 0
  have hq1 := blk_cell BK1.out 1
  simp at hq0
  simp at hq1
  go_upto_region 3 with (go_at_call 49; refine (A1.out _ (bb_ HB.out)).mono ?_; rintro e w8 ⟨rfl, hb⟩; clear hq0 hq1 A1; have n0_ := ak_ (blk_below (pk BK1.out) hb); have n1_ := ak_ (bs_ (bb_ HB.out) hb); clear BK1 HB hb; have BK1 := n0_; have HB := n1_; clear n0_ n1_)
  have hq0 := blk_cell BK1.out 0
  have hq1 := blk_cell BK1.out 1
  simp at hq0
  simp at hq1
  go_upto_region 4 with (first | (go_at_call 50; refine (A2.out _ (bb_ HB.out)).mono ?_; rintro e w12 ⟨fo, cb, gd, cd, rfl, hen, hga, hgo, hdi, hb⟩; have HEN := ak_ hen; have HGA := ak_ hga; have HGO := ak_ hgo; have HD := ak_ hdi; have HB12 := ak_ (Below.refl w12.heap.size w12); clear hq0 hq1 A2; have n0_ := ak_ (blk_below (pk BK1.out) hb); have n1_ := ak_ (bs_ (bb_ HB.out) hb); clear BK1 HB hb hen hga hgo hdi; have BK1 := n0_; have HB := n1_; clear n0_ n1_) | ((with_reducible refine gate_dst (N := 4) rfl ?_); refine box_event ?hg (N := 4) ?hd (cs := #[.int .i64 0, .nilFunc]) (t := 68) ?hr ?_; (case hd => rfl); (case hg => rfl); (case hr => go_simp <;> rfl); intro gb4 hg w4 hbox hb; have n0_ := ak_ (blk_below (pk BK1.out) hb); have m0_ := ak_ ((by rw [hg]; exact Nat.ne_of_lt (blk_lt (pk BK1.out)) : gb1 ≠ gb4)); have nb_ := ak_ (bs_ (bb_ HB.out) hb); have nc_ := ak_ hbox; have nd_ := ak_ ((by rw [hg]; exact (bz_ (bb_ HB.out)) : w.heap.size ≤ gb4)); have n12_ := ak_ hb; have HG12 := ak_ (by rw [hg]; exact Nat.le_refl _ : w12.heap.size ≤ gb4); clear HB HB12 hb hbox hg; have HB12 := n12_; clear n12_; clear BK1; have BK1 := n0_; have NE1_4 := m0_; have HB := nb_; have BK4 := nc_; have GE4 := nd_; clear nb_ nc_ nd_ n0_ m0_; have hz4_0 := (blk_cell BK4.out 0); have hf4_0 := (blk_frozen BK4.out 0); simp at hz4_0; have hz4_1 := (blk_cell BK4.out 1); have hf4_1 := (blk_frozen BK4.out 1); simp at hz4_1; skip))
  have B41 := ak_ (blk_put (cs' := #[.int .i64 (grN ts.length), .func (.func fo) #[] cb]) (blk_put (cs' := #[.int .i64 (grN ts.length), .nilFunc]) BK4.out 0 (.int .i64 (grN ts.length)) rfl) 1 (.func (.func fo) #[] cb) rfl)
  have HB1 := ak_ (below_set (v := (.func (.func fo) #[] cb)) (j := 1) (below_set (v := (.int .i64 (grN ts.length))) (j := 0) HB.out GE4.out) GE4.out)
  have HB2 := ak_ (below_set (v := (.func (.func fo) #[] cb)) (j := 1) (below_set (v := (.int .i64 (grN ts.length))) (j := 0) HB12.out HG12.out) HG12.out)
  generalize (w4.setCell ⟨gb4, 0, none⟩ (.int .i64 (grN ts.length))).setCell ⟨gb4, 1, none⟩ (.func (.func fo) #[] cb) = w5 at B41 HB1 HB2 ⊢
  clear BK4 HB HB12 hz4_0 hz4_1 hf4_0 hf4_1
  have HB := HB1; clear HB1
  have h := H.out
  cases b2
  ·rw [if_neg (by simp)] at h
   obtain ⟨rfl, rfl⟩ : (0 : Int) = r1 ∧ true = r2 := by simpa using h
   clear h H
   go_wp2
   first | go_ret2 | go_ret
   exact ⟨rfl, (bb_ HB.out)⟩
  ·rw [if_pos rfl] at h
   obtain ⟨r, h3, h⟩ := Option.bind_eq_some_iff.mp h
   obtain ⟨rfl, rfl⟩ : r = r1 ∧ true = r2 := by simpa using h
   unfold coG at h3
   rw [if_pos HGA.out] at h3
   have A3 := ak_ fun (W : World) (hb : Below w12.heap.size w12 W) => impl_graph_int_count.calls fo cb (grN ts.length) (grE (ptG k ts se)) w12 W HEN.out HGO.out hb 0 (some ⟨gd, 0, none⟩) cd dist r (Kd.C_below (Kd.R_reads' HD.out).2.2 hb) h3
   have hz0 := blk_cell B41.out 0
   have hz1 := blk_cell B41.out 1
   simp at hz0
   simp at hz1
   clear h h3 H
   go_wp2_with (go_at_call 43; refine (A3.out _ (by repeat (first | (with_reducible first | exact HB2.out | apply ba_ | apply bN_ | apply b1_) | exact HB2.out))).mono ?_; rintro e w20 ⟨rfl, hb⟩; have n0_ := ak_ (bs_ (bb_ HB.out) hb); clear HB HB2 hb; have HB := n0_; clear n0_)
   first | go_ret2 | go_ret
   exact ⟨rfl, (bb_ HB.out)⟩
def laws_eqIntS.l0 : Nat → List Int → List Int → Int → Option (Bool)
 | 0, _, _, _ => none
 | k + 1, x0, x1, x5 => if x5 < (x0.length : Int) then (if 0 ≤ x5 then (if x5 < (x1.length : Int) then (if (rd x0 x5) = (rd x1 x5) then (laws_eqIntS.l0 k x0 x1 (wrap64 (x5 + 1))) else (some false)) else (none)) else (none)) else (some true)
def laws_eqIntS.f (k : Nat) (l0 : List Int) (l1 : List Int) : Option (Bool) := if (l0.length : Int) = (l1.length : Int) then (laws_eqIntS.l0 k l0 l1 0) else (some false)
theorem laws_eqIntS.mono_l : ∀ k, (∀ y0 y1 y2, LeO (laws_eqIntS.l0 k y0 y1 y2) (laws_eqIntS.l0 (k + 1) y0 y1 y2))
 | 0 => fun _ _ _ r h => by simp [laws_eqIntS.l0] at h
 | k + 1 => by
  have ih0 := laws_eqIntS.mono_l k
  ·intro y0 y1 y2
   unfold laws_eqIntS.l0
   repeat' first
   | (with_reducible first | exact ih0 _ _ _ | exact LeO.refl _ | exact LeO.none _ | refine LeO.ite ?_ ?_ | refine LeO.bind ?_ (fun _ => ?_))
   | exact ih0 _ _ _
   | exact LeO.none _
   | refine LeO.ite ?_ ?_
   | refine LeO.bind ?_ (fun _ => ?_)
theorem laws_eqIntS.mono : ∀ a0 a1 k, LeO (laws_eqIntS.f k a0 a1) (laws_eqIntS.f (k + 1) a0 a1) := by
 intro a0 a1 k
 have ih0 := laws_eqIntS.mono_l k
 unfold laws_eqIntS.f
 repeat' first
  | (with_reducible first | exact ih0 _ _ _ | exact LeO.refl _ | exact LeO.none _ | refine LeO.ite ?_ ?_ | refine LeO.bind ?_ (fun _ => ?_))
  | exact ih0 _ _ _
  | exact LeO.none _
  | refine LeO.ite ?_ ?_
  | refine LeO.bind ?_ (fun _ => ?_)
theorem laws_eqIntS.calls (k : Nat) (A0 : Option Addr) (c0 : Nat) (l0 : List Int) (A1 : Option Addr) (c1 : Nat) (l1 : List Int) (r : Bool) (w : World) (hr0 : Kd.C (Kd.int .i64) w A0 l0.length l0) (hc0 : l0.length ≤ c0) (hr1 : Kd.C (Kd.int .i64) w A1 l1.length l1) (hc1 : l1.length ≤ c1) (h : laws_eqIntS.f k l0 l1 = some r) :
  Calls Try.prog 51 #[.slice A0 l0.length c0, .slice A1 l1.length c1] w fun e w' => e = .returned (.bool r) ∧ Drawn0 w w' := by
 have HR0 := ak_ hr0
 have HC0 := ak_ hc0
 clear hr0 hc0
 have HR1 := ak_ hr1
 have HC1 := ak_ hc1
 clear hr1 hc1
 have H : (if (l0.length : Int) = (l1.length : Int) then (laws_eqIntS.l0 k l0 l1 0) else (some false)) = some r := h
 clear h
 by_cases c3 : (l0.length : Int) = (l1.length : Int)
 ·
  rw [if_pos c3] at H
  have c3b0 : ((l0.length : Int) == (l1.length : Int)) = true := beq_iff_eq.mpr c3
  have c3b1 : ((l0.length : Int) != (l1.length : Int)) = false := bne_eq_false_iff_eq.mpr c3
  have c3b2 : (l0.length == l1.length) = true := by first | simpa using c3 | (simp at c3 ⊢; omega)
  clear c3
  have H' := ak_ H
  clear H
  go_enter Try.func51, Try.ntmps51
  go_wp2
  repeat (go_quiet (fail); try go_wp2)
  go_loopg [5] k (fun kq v5 w' => ∃ (x5_1 : Int), v5 = .int .i64 x5_1 ∧ Aside0 (laws_eqIntS.l0 kq l0 l1 x5_1 = some r) ∧ Aside0 (kq ≤ k) ∧ Drawn0 w w')
  case atStart => exact ⟨(0), (by first | rfl | (simp; done) | (simp [*]; done)), H', ⟨Nat.le_refl _⟩, by repeat (first | exact Drawn0.refl _ | apply Drawn0.step)⟩
  case round =>
   clear H'
   try clear c1
   try clear p2
   try clear c3
   try clear c3b0
   try clear c3b1
   try clear c3b2
   obtain ⟨x5_1, rfl, HA, HK1, ⟨m1, rfl⟩⟩ := hrel
   cases gk with
   | zero => exact absurd HA.out (by simp [laws_eqIntS.l0])
   | succ k1 =>
    have H := HA.out
    clear HA
    simp only [laws_eqIntS.l0] at H
    by_cases c4 : x5_1 < (l0.length : Int)
    ·
     rw [if_pos c4] at H
     have c4b0 : decide (x5_1 < (l0.length : Int)) = true := decide_eq_true c4
     clear c4
     by_cases c5 : 0 ≤ x5_1
     ·
      rw [if_pos c5] at H
      have c5b0 : decide (0 ≤ x5_1) = true := decide_eq_true c5
      clear c5
      by_cases c6 : x5_1 < (l1.length : Int)
      ·
       rw [if_pos c6] at H
       have c6b0 : decide (x5_1 < (l1.length : Int)) = true := decide_eq_true c6
       clear c6
       by_cases c7 : (rd l0 x5_1) = (rd l1 x5_1)
       ·
        rw [if_pos c7] at H
        have c7b0 : ((rd l0 x5_1) == (rd l1 x5_1)) = true := beq_iff_eq.mpr c7
        have c7b1 : ((rd l0 x5_1) != (rd l1 x5_1)) = false := bne_eq_false_iff_eq.mpr c7
        clear c7
        have H' := ak_ H
        clear H
        have p517 : 0 ≤ (x5_1 : Int) := odt_ (by assumption)
        have q517 : x5_1 < (l0.length : Int) := odt_ (by assumption)
        obtain ⟨ad517, e517, hx517_0⟩ := Kd.at_int HR0.out x5_1 p517 q517
        cases e517
        replace p517 := eq_true p517
        replace q517 := eq_true q517
        have p518 : 0 ≤ (x5_1 : Int) := odt_ (by assumption)
        have q518 : x5_1 < (l1.length : Int) := odt_ (by assumption)
        obtain ⟨ad518, e518, hx518_0⟩ := Kd.at_int HR1.out x5_1 p518 q518
        cases e518
        replace p518 := eq_true p518
        replace q518 := eq_true q518
        go_wp2
        repeat (go_quiet (fail); try go_wp2)
        go_roundg k1
        case measure => have := HK1.out; omega
        case rel => exact ⟨(wrap64 (x5_1 + 1)), (by first | rfl | (simp; done) | (simp [*]; done)), H', ⟨by have := HK1.out; omega⟩, by repeat (first | exact Drawn0.refl _ | apply Drawn0.step)⟩
       ·
        rw [if_neg c7] at H
        have c7b0 : ((rd l0 x5_1) == (rd l1 x5_1)) = false := beq_eq_false_iff_ne.mpr c7
        have c7b1 : ((rd l0 x5_1) != (rd l1 x5_1)) = true := bne_iff_ne.mpr c7
        obtain rfl := Option.some.inj H
        have p517 : 0 ≤ (x5_1 : Int) := odt_ (by assumption)
        have q517 : x5_1 < (l0.length : Int) := odt_ (by assumption)
        obtain ⟨ad517, e517, hx517_0⟩ := Kd.at_int HR0.out x5_1 p517 q517
        cases e517
        replace p517 := eq_true p517
        replace q517 := eq_true q517
        have p518 : 0 ≤ (x5_1 : Int) := odt_ (by assumption)
        have q518 : x5_1 < (l1.length : Int) := odt_ (by assumption)
        obtain ⟨ad518, e518, hx518_0⟩ := Kd.at_int HR1.out x5_1 p518 q518
        cases e518
        replace p518 := eq_true p518
        replace q518 := eq_true q518
        go_wp2
        repeat (go_quiet (fail); try go_wp2)
        go_ret
        exact ⟨by first | rfl | (simp; done) | (simp [*]; done), by repeat (first | exact Drawn0.refl _ | apply Drawn0.step)⟩
      ·
       rw [if_neg c6] at H
       exact absurd H (by simp)
     ·
      rw [if_neg c5] at H
      exact absurd H (by simp)
    ·
     rw [if_neg c4] at H
     have c4b0 : decide (x5_1 < (l0.length : Int)) = false := decide_eq_false c4
     clear c4
     obtain rfl := Option.some.inj H
     go_wp2
     repeat (go_quiet (fail); try go_wp2)
     go_ret
     exact ⟨by first | rfl | (simp; done) | (simp [*]; done), by repeat (first | exact Drawn0.refl _ | apply Drawn0.step)⟩
 ·
  rw [if_neg c3] at H
  have c3b0 : ((l0.length : Int) == (l1.length : Int)) = false := beq_eq_false_iff_ne.mpr c3
  have c3b1 : ((l0.length : Int) != (l1.length : Int)) = true := bne_iff_ne.mpr c3
  have c3b2 : (l0.length == l1.length) = false := by first | simpa using c3 | (simp at c3 ⊢; omega)
  obtain rfl := Option.some.inj H
  go_enter Try.func51, Try.ntmps51
  go_wp2
  repeat (go_quiet (fail); try go_wp2)
  go_ret
  exact ⟨by first | rfl | (simp; done) | (simp [*]; done), by repeat (first | exact Drawn0.refl _ | apply Drawn0.step)⟩
end Go.Proofs.Ythkchdfkeieabaa.QGr
