/- Contracts of functions of the given program, walked: each call returns what its Lean function says. Conditions: those that stand at each theorem. (Written by a program of this session.) -/
import Derived.Test.YthkchdfkeieabaaQGrx0
import Derived.Test.YthkchdfkeieabaaQGrx1
import Derived.Test.YthkchdfkeieabaaQGrx10
import Derived.Test.YthkchdfkeieabaaQGrx11
import Derived.Test.YthkchdfkeieabaaQGrx13
import Derived.Test.YthkchdfkeieabaaQGrx17
namespace Go.Proofs.Ythkchdfkeieabaa.QGr
open Go.RowKit Go.Proofs.YthkchdfkeieabaaW.PrintWords Go.Proofs.YthkchdfkeieabaaW.PrintLast Go.Proofs.YthkchdfkeieabaaW.PrintMore
open List (setIfInBounds_toArray set_cons_zero set_cons_succ map_toArray map_cons map_nil)
attribute [local go_sem] max2_int min2_int max_two min_two max_three min_three max_four min_four
set_option linter.unusedVariables false
set_option maxHeartbeats 8000000
set_option maxRecDepth 100000
set_option linter.unusedSimpArgs false
attribute [local go_sem] run_store_fn_
def impl_Crew_plans.f (k : Nat) (ws : List Int) (rs : List Bool) (most : Int) : Option Bool := (impl_Crew_costs.f k ws rs most).bind fun p => some p.2
theorem impl_Crew_plans.calls (k : Nat) (Aw : Option Addr) (cw : Nat) (ws : List Int) (Ar : Option Addr) (cr : Nat) (rs : List Bool) (most : Int) (r : Bool) (w : World)
  (hw : Kd.C (Kd.int .i64) w Aw ws.length ws) (hcw : ws.length ≤ cw) (hr : Kd.C Kd.bool w Ar rs.length rs) (hcr : rs.length ≤ cr) (h : impl_Crew_plans.f k ws rs most = some r) :
  Calls Try.prog 79 #[.agg #[.slice Aw ws.length cw, .slice Ar rs.length cr, .int .i64 most]] w fun e w' => e = .returned (.bool r) ∧ Below w.heap.size w w' := by
 have hu := Try.underlying43
 have hu2 := Try.underlying68
 unfold impl_Crew_plans.f at h
 obtain ⟨⟨dist, b2⟩, h2, h⟩ := Option.bind_eq_some_iff.mp h
 dsimp only at h
 obtain rfl := Option.some.inj h
 have A2 := ak_ fun (W : World) (hb : Below w.heap.size w W) => impl_Crew_costs.calls k Aw cw ws Ar cr rs most dist b2 W (Kd.C_below hw hb) hcw (Kd.C_below hr hb) hcr h2
 have HB := ak_ (Below.refl w.heap.size w)
 clear h h2 hw hcw hr hcr
 go_enter Try.func79, Try.ntmps79
 go_upto_region 1 with (first | ((with_reducible refine gate_dst (N := 1) rfl ?_); refine bx_ 1 #[.slice Aw ws.length cw, .slice Ar rs.length cr, .int .i64 most] 43 ?_; intro gb1 hg w1 hbox hb; have nb_ := ak_ (bs_ (bb_ HB.out) hb); have nc_ := ak_ hbox; have nd_ := ak_ ((by rw [hg]; exact (bz_ (bb_ HB.out)) : w.heap.size ≤ gb1)); clear HB hb hbox hg; have HB := nb_; have BK1 := nc_; have GE1 := nd_; clear nb_ nc_ nd_; have hz1_0 := (blk_cell BK1.out 0); have hf1_0 := (blk_frozen BK1.out 0); simp at hz1_0; have hz1_1 := (blk_cell BK1.out 1); have hf1_1 := (blk_frozen BK1.out 1); simp at hz1_1; have hz1_2 := (blk_cell BK1.out 2); have hf1_2 := (blk_frozen BK1.out 2); simp at hz1_2; skip))
 have hq0 := blk_cell BK1.out 0
 have hq1 := blk_cell BK1.out 1
 have hq2 := blk_cell BK1.out 2
 simp at hq0
 simp at hq1
 simp at hq2
 go_wp2_with (first | (go_at_call 58; refine (A2.out _ (bb_ HB.out)).mono ?_; rintro e w12 ⟨fo, cb, gd, cd, rfl, hen, hga, hgo, hdi, hb⟩; have HEN := ak_ hen; have HGA := ak_ hga; have HGO := ak_ hgo; have HD := ak_ hdi; have HB12 := ak_ (Below.refl w12.heap.size w12); clear hq0 hq1 hq2 A2; have n0_ := ak_ (blk_below (pk BK1.out) hb); have n1_ := ak_ (bs_ (bb_ HB.out) hb); clear BK1 HB hb hen hga hgo hdi; have BK1 := n0_; have HB := n1_; clear n0_ n1_))
 first | go_ret2 | go_ret
 exact ⟨rfl, (bb_ HB.out)⟩
def leRun (k : Nat) (ws : List Int) (rs : List Bool) (list : List Int) : Nat → Int → Int → Option Int
 | 0, _, _ => none
 | g + 1, low, high => if low < high then (if 0 ≤ low ∧ high < (list.length : Int) then (impl_Crew_plans.f k ws rs (rdOf 0 list (Int.tdiv (low + high) 2))).bind fun b => if b = true then leRun k ws rs list g low (Int.tdiv (low + high) 2) else leRun k ws rs list g (Int.tdiv (low + high) 2 + 1) high else none) else if 0 ≤ low ∧ low < (list.length : Int) then some (rdOf 0 list low) else none
def impl_LeastMost.f (k : Nat) (ws : List Int) (rs : List Bool) (most : Int) : Option (Int × Bool) := (impl_IsCrew.f ws rs most).bind fun b => if b = true then (slices_Contains_bool_bool.f k rs true).bind fun b2 => if b2 = true then (impl_Crew_loads.f k ws rs most).bind fun list => if list.length ≤ 1000 then (leRun k ws rs list (list.length + 1) 0 ((list.length : Int) - 1)).bind fun r => some (r, true) else none else some (0, false) else some (0, false)
theorem impl_LeastMost.calls (k : Nat) (Aw : Option Addr) (cw : Nat) (ws : List Int) (Ar : Option Addr) (cr : Nat) (rs : List Bool) (most : Int) (r1 : Int) (r2 : Bool) (w : World)
  (hw : Kd.C (Kd.int .i64) w Aw ws.length ws) (hcw : ws.length ≤ cw) (hr : Kd.C Kd.bool w Ar rs.length rs) (hcr : rs.length ≤ cr) (h : impl_LeastMost.f k ws rs most = some (r1, r2)) :
  Calls Try.prog 38 #[.agg #[.slice Aw ws.length cw, .slice Ar rs.length cr, .int .i64 most]] w fun e w' => e = .returned (.tuple #[.int .i64 r1, .bool r2]) ∧ Below w.heap.size w w' := by
 have hu := Try.underlying43
 unfold impl_LeastMost.f at h
 obtain ⟨b1, h1, h⟩ := Option.bind_eq_some_iff.mp h
 have A1 := ak_ fun (W : World) (hb : Below w.heap.size w W) => impl_IsCrew.calls Aw cw ws Ar cr rs most b1 W (Kd.C_below hw hb) hcw (Kd.C_below hr hb) hcr h1
 have HB := ak_ (Below.refl w.heap.size w)
 cases b1
 ·rw [if_neg (by simp)] at h
  obtain ⟨rfl, rfl⟩ : (0 : Int) = r1 ∧ false = r2 := by simpa using h
  clear h h1 hw hcw hr hcr
  go_enter Try.func38, Try.ntmps38
  go_upto_region 1 with (first | ((with_reducible refine gate_dst (N := 1) rfl ?_); refine bx_ 1 #[.slice Aw ws.length cw, .slice Ar rs.length cr, .int .i64 most] 43 ?_; intro gb1 hg w1 hbox hb; have nb_ := ak_ (bs_ (bb_ HB.out) hb); have nc_ := ak_ hbox; have nd_ := ak_ ((by rw [hg]; exact (bz_ (bb_ HB.out)) : w.heap.size ≤ gb1)); clear HB hb hbox hg; have HB := nb_; have BK1 := nc_; have GE1 := nd_; clear nb_ nc_ nd_; have hz1_0 := (blk_cell BK1.out 0); have hf1_0 := (blk_frozen BK1.out 0); simp at hz1_0; have hz1_1 := (blk_cell BK1.out 1); have hf1_1 := (blk_frozen BK1.out 1); simp at hz1_1; have hz1_2 := (blk_cell BK1.out 2); have hf1_2 := (blk_frozen BK1.out 2); simp at hz1_2; skip))
  have hq0 := blk_cell BK1.out 0
  have hq1 := blk_cell BK1.out 1
  have hq2 := blk_cell BK1.out 2
  simp at hq0
  simp at hq1
  simp at hq2
  go_wp2_with (go_at_call 57; refine (A1.out _ (bb_ HB.out)).mono ?_; rintro e w8 ⟨rfl, hb⟩; clear hq0 hq1 hq2 A1; have n0_ := ak_ (blk_below (pk BK1.out) hb); have n1_ := ak_ (bs_ (bb_ HB.out) hb); clear BK1 HB hb; have BK1 := n0_; have HB := n1_; clear n0_ n1_; have hq0 := blk_cell BK1.out 0; have hq1 := blk_cell BK1.out 1; have hq2 := blk_cell BK1.out 2; simp at hq0; simp at hq1; simp at hq2)
  first | go_ret2 | go_ret
  exact ⟨rfl, (bb_ HB.out)⟩
 rw [if_pos rfl] at h
 obtain ⟨b2, h2, h⟩ := Option.bind_eq_some_iff.mp h
 have A2 := ak_ fun (W : World) (hb : Below w.heap.size w W) => slices_Contains_bool_bool.calls k Ar cr rs true b2 W (Kd.C_below hr hb) hcr h2
 cases b2
 ·rw [if_neg (by simp)] at h
  obtain ⟨rfl, rfl⟩ : (0 : Int) = r1 ∧ false = r2 := by simpa using h
  clear h h1 h2 hw hcw hr hcr
  go_enter Try.func38, Try.ntmps38
  go_upto_region 1 with (first | ((with_reducible refine gate_dst (N := 1) rfl ?_); refine bx_ 1 #[.slice Aw ws.length cw, .slice Ar rs.length cr, .int .i64 most] 43 ?_; intro gb1 hg w1 hbox hb; have nb_ := ak_ (bs_ (bb_ HB.out) hb); have nc_ := ak_ hbox; have nd_ := ak_ ((by rw [hg]; exact (bz_ (bb_ HB.out)) : w.heap.size ≤ gb1)); clear HB hb hbox hg; have HB := nb_; have BK1 := nc_; have GE1 := nd_; clear nb_ nc_ nd_; have hz1_0 := (blk_cell BK1.out 0); have hf1_0 := (blk_frozen BK1.out 0); simp at hz1_0; have hz1_1 := (blk_cell BK1.out 1); have hf1_1 := (blk_frozen BK1.out 1); simp at hz1_1; have hz1_2 := (blk_cell BK1.out 2); have hf1_2 := (blk_frozen BK1.out 2); simp at hz1_2; skip))
  have hq0 := blk_cell BK1.out 0
  have hq1 := blk_cell BK1.out 1
  have hq2 := blk_cell BK1.out 2
  simp at hq0
  simp at hq1
  simp at hq2
  go_wp2_with (first | (go_at_call 57; refine (A1.out _ (bb_ HB.out)).mono ?_; rintro e w8 ⟨rfl, hb⟩; clear hq0 hq1 hq2 A1; have n0_ := ak_ (blk_below (pk BK1.out) hb); have n1_ := ak_ (bs_ (bb_ HB.out) hb); clear BK1 HB hb; have BK1 := n0_; have HB := n1_; clear n0_ n1_; have hq0 := blk_cell BK1.out 0; have hq1 := blk_cell BK1.out 1; have hq2 := blk_cell BK1.out 2; simp at hq0; simp at hq1; simp at hq2) | (go_at_call 77; refine (A2.out _ (bb_ HB.out)).mono ?_; rintro e w9 ⟨rfl, hd⟩; have hb := hd.below; clear hd hq0 hq1 hq2 A2; have n0_ := ak_ (blk_below (pk BK1.out) hb); have n1_ := ak_ (bs_ (bb_ HB.out) hb); clear BK1 HB hb; have BK1 := n0_; have HB := n1_; clear n0_ n1_; have hq0 := blk_cell BK1.out 0; have hq1 := blk_cell BK1.out 1; have hq2 := blk_cell BK1.out 2; simp at hq0; simp at hq1; simp at hq2))
  first | go_ret2 | go_ret
  exact ⟨rfl, (bb_ HB.out)⟩
 rw [if_pos rfl] at h
 obtain ⟨list, h3, h⟩ := Option.bind_eq_some_iff.mp h
 by_cases hlen : list.length ≤ 1000
 rotate_left
 ·rw [if_neg hlen] at h; exact absurd h (by simp)
 rw [if_pos hlen] at h
 obtain ⟨r, h4, h⟩ := Option.bind_eq_some_iff.mp h
 obtain ⟨rfl, rfl⟩ : r = r1 ∧ true = r2 := by simpa using h
 have A3 := ak_ fun (W : World) (hb : Below w.heap.size w W) => impl_Crew_loads.calls k Aw cw ws Ar cr rs most list W (Kd.C_below hw hb) hcw (Kd.C_below hr hb) hcr h3
 have AP := ak_ fun (m : Int) (b : Bool) (hm : impl_Crew_plans.f k ws rs m = some b) (W : World) (hb : Below w.heap.size w W) => impl_Crew_plans.calls k Aw cw ws Ar cr rs m b W (Kd.C_below hw hb) hcw (Kd.C_below hr hb) hcr hm
 have H := ak_ h4
 have HLEN := ak_ hlen
 clear h h1 h2 h3 h4 hlen hw hcw hr hcr
 go_enter Try.func38, Try.ntmps38
 go_upto_region 1 with (first | ((with_reducible refine gate_dst (N := 1) rfl ?_); refine bx_ 1 #[.slice Aw ws.length cw, .slice Ar rs.length cr, .int .i64 most] 43 ?_; intro gb1 hg w1 hbox hb; have nb_ := ak_ (bs_ (bb_ HB.out) hb); have nc_ := ak_ hbox; have nd_ := ak_ ((by rw [hg]; exact (bz_ (bb_ HB.out)) : w.heap.size ≤ gb1)); clear HB hb hbox hg; have HB := nb_; have BK1 := nc_; have GE1 := nd_; clear nb_ nc_ nd_; have hz1_0 := (blk_cell BK1.out 0); have hf1_0 := (blk_frozen BK1.out 0); simp at hz1_0; have hz1_1 := (blk_cell BK1.out 1); have hf1_1 := (blk_frozen BK1.out 1); simp at hz1_1; have hz1_2 := (blk_cell BK1.out 2); have hf1_2 := (blk_frozen BK1.out 2); simp at hz1_2; skip))
 have hq0 := blk_cell BK1.out 0
 have hq1 := blk_cell BK1.out 1
 have hq2 := blk_cell BK1.out 2
 simp at hq0
 simp at hq1
 simp at hq2
 go_upto_region 3 with (first | (go_at_call 57; refine (A1.out _ (bb_ HB.out)).mono ?_; rintro e w8 ⟨rfl, hb⟩; clear hq0 hq1 hq2 A1; have n0_ := ak_ (blk_below (pk BK1.out) hb); have n1_ := ak_ (bs_ (bb_ HB.out) hb); clear BK1 HB hb; have BK1 := n0_; have HB := n1_; clear n0_ n1_; have hq0 := blk_cell BK1.out 0; have hq1 := blk_cell BK1.out 1; have hq2 := blk_cell BK1.out 2; simp at hq0; simp at hq1; simp at hq2) | (go_at_call 77; refine (A2.out _ (bb_ HB.out)).mono ?_; rintro e w9 ⟨rfl, hd⟩; have hb := hd.below; clear hd hq0 hq1 hq2 A2; have n0_ := ak_ (blk_below (pk BK1.out) hb); have n1_ := ak_ (bs_ (bb_ HB.out) hb); clear BK1 HB hb; have BK1 := n0_; have HB := n1_; clear n0_ n1_; have hq0 := blk_cell BK1.out 0; have hq1 := blk_cell BK1.out 1; have hq2 := blk_cell BK1.out 2; simp at hq0; simp at hq1; simp at hq2))
 go_upto_region 4 with (first | (go_at_call 78; refine (A3.out _ (bb_ HB.out)).mono ?_; rintro e w10 ⟨v10, rfl, ho, hb⟩; obtain ⟨Al, cl, rfl⟩ := Kd.R_slice ho; have HL := ak_ (Kd.R_lower ho (bz_ (bb_ HB.out))); clear hq0 hq1 hq2 A3 ho; have n0_ := ak_ (blk_below (pk BK1.out) hb); have n1_ := ak_ (bs_ (bb_ HB.out) hb); clear BK1 HB hb; have BK1 := n0_; have HB := n1_; clear n0_ n1_))
 have hwl : IntKind.i64.wrap ((list.length : Int) - 1) = (list.length : Int) - 1 := by rw [IntWalk.i64_in _ ⟨by omega, by have := HLEN.out; omega⟩]
 go_wp2
 go_loopg [5, 6] (list.length + 1) (fun gg v5 v6 wr => ∃ (low high mo : Int), v5 = .int .i64 low ∧ v6 = .int .i64 high ∧ Aside0 (leRun k ws rs list gg low high = some r) ∧ Aside0 (-1 ≤ low ∧ low ≤ 1000 ∧ -1 ≤ high ∧ high ≤ 1000) ∧ Aside0 (wr.heap[gb1]? = some (.cells #[.slice Aw ws.length cw, .slice Ar rs.length cr, .int .i64 mo] 43 (0, 0))) ∧ Aside0 (Kd.R (Kd.int .i64) 3 wr w.heap.size (fun _ => True) (.slice Al list.length cl) list) ∧ Aside0 (Below w.heap.size w wr))
 case atStart => exact ⟨0, (list.length : Int) - 1, most, rfl, rfl, H, ⟨by have := HLEN.out; omega⟩, ⟨pk BK1.out⟩, ⟨Kd.pR HL.out⟩, ⟨(bb_ HB.out)⟩⟩
 case round =>
  clear H BK1 HL HB hwl
  obtain ⟨low, high, mo, rfl, rfl, H, HI, BK1, HL, HB⟩ := hrel
  cases gk with
  | zero => exact absurd H.out (by simp [leRun])
  | succ m =>
   have h := H.out
   have hi := HI.out
   simp only [leRun] at h
   by_cases hlt : low < high
   ·have v1 : decide (low < high) = true := decide_eq_true hlt
    rw [if_pos hlt] at h
    by_cases hr : 0 ≤ low ∧ high < (list.length : Int)
    rotate_left
    ·rw [if_neg hr] at h; exact absurd h (by simp)
    rw [if_pos hr] at h
    obtain ⟨b, h1, h⟩ := Option.bind_eq_some_iff.mp h
    obtain ⟨mid, hmid⟩ : ∃ mid, mid = Int.tdiv (low + high) 2 := ⟨_, rfl⟩
    have hm : low ≤ mid ∧ mid < high := by
     rw [hmid, Int.tdiv_eq_ediv_of_nonneg (by omega)]
     omega
    rw [← hmid] at h h1
    have hmid2 := hmid.symm
    clear hmid
    have w1 : IntKind.i64.wrap (low + high) = low + high := by rw [IntWalk.i64_in _ ⟨by omega, by omega⟩]
    have w2 : IntKind.i64.wrap mid = mid := by rw [IntWalk.i64_in _ ⟨by omega, by omega⟩]
    have w3 : IntKind.i64.wrap (mid + 1) = mid + 1 := by rw [IntWalk.i64_in _ ⟨by omega, by omega⟩]
    have m0 : 0 ≤ mid := by omega
    have m1 : mid < (list.length : Int) := by omega
    obtain ⟨ad, rfl, hx⟩ := Kd.at_int (Kd.R_reads' HL.out).2.2 mid m0 m1
    have e0 : rd list mid = rdOf 0 list mid := rfl
    rw [e0] at hx
    have p0 := eq_true m0
    have p1 := eq_true m1
    have A4 := ak_ (AP.out (rdOf 0 list mid) b h1)
    have H2 := ak_ h
    have HM := ak_ (And.intro hm hr)
    have hz1_2 := blk_cell BK1.out 2
    have hf1_2 := blk_frozen BK1.out 2
    simp at hz1_2
    clear h h1 H e0
    go_upto_region 8 with (fail)
    obtain ⟨w5, hw5⟩ : ∃ W, W = wr.setCell ⟨gb1, 2, none⟩ (.int .i64 (rdOf 0 list mid)) := ⟨_, rfl⟩
    have n0_ := ak_ (show w5.heap[gb1]? = some (.cells #[.slice Aw ws.length cw, .slice Ar rs.length cr, .int .i64 (rdOf 0 list mid)] 43 (0, 0)) by rw [hw5]; exact blk_put BK1.out 2 _ rfl)
    have n1_ := ak_ (show Below w.heap.size w w5 by rw [hw5]; exact below_set HB.out GE1.out)
    have n2_ := ak_ (show Kd.R (Kd.int .i64) 3 w5 w.heap.size (fun _ => True) (.slice (some ad) list.length cl) list by rw [hw5]; exact Kd.R_mono (Kd.R_far (p := ⟨gb1, 2, none⟩) (Kd.R_types HL.out BK1.out (by decide)) (fun _ hk => hk.2) (.int .i64 (rdOf 0 list mid))) (fun _ _ => trivial))
    rw [← hw5]
    clear hw5 BK1 HB HL hx hz1_2 hf1_2
    have BK1 := n0_; have HB := n1_; have HL := n2_; clear n0_ n1_ n2_
    have hq0 := blk_cell BK1.out 0
    have hq1 := blk_cell BK1.out 1
    have hq2 := blk_cell BK1.out 2
    simp at hq0
    simp at hq1
    simp at hq2
    cases b
    ·have H3 := ak_ (show leRun k ws rs list m (mid + 1) high = some r by have h := H2.out; rw [if_neg (by decide)] at h; exact h)
     clear H2
     go_wp2_with (first | (go_at_call 79; refine (A4.out _ (bb_ HB.out)).mono ?_; rintro e w11 ⟨rfl, hb⟩; clear hq0 hq1 hq2 A4; have n0_ := ak_ (blk_below (pk BK1.out) hb); have n1_ := ak_ (bs_ (bb_ HB.out) hb); have n2_ := ak_ (Kd.R_below (Kd.pR HL.out) hb); clear BK1 HB HL hb; have BK1 := n0_; have HB := n1_; have HL := n2_; clear n0_ n1_ n2_))
     go_roundg m
     case measure => omega
     case rel => exact ⟨mid + 1, high, rdOf 0 list mid, (by first | rfl | (rw [← w3]; rfl)), rfl, H3, ⟨by have := HM.out; omega⟩, ⟨pk BK1.out⟩, ⟨Kd.pR HL.out⟩, ⟨(bb_ HB.out)⟩⟩
    ·have H3 := ak_ (show leRun k ws rs list m low mid = some r by have h := H2.out; rw [if_pos rfl] at h; exact h)
     clear H2
     go_wp2_with (first | (go_at_call 79; refine (A4.out _ (bb_ HB.out)).mono ?_; rintro e w11 ⟨rfl, hb⟩; clear hq0 hq1 hq2 A4; have n0_ := ak_ (blk_below (pk BK1.out) hb); have n1_ := ak_ (bs_ (bb_ HB.out) hb); have n2_ := ak_ (Kd.R_below (Kd.pR HL.out) hb); clear BK1 HB HL hb; have BK1 := n0_; have HB := n1_; have HL := n2_; clear n0_ n1_ n2_))
     go_roundg m
     case measure => omega
     case rel => exact ⟨low, mid, rdOf 0 list mid, rfl, rfl, H3, ⟨by have := HM.out; omega⟩, ⟨pk BK1.out⟩, ⟨Kd.pR HL.out⟩, ⟨(bb_ HB.out)⟩⟩
   ·have v1 : decide (low < high) = false := decide_eq_false hlt
    rw [if_neg hlt] at h
    by_cases hr : 0 ≤ low ∧ low < (list.length : Int)
    rotate_left
    ·rw [if_neg hr] at h; exact absurd h (by simp)
    rw [if_pos hr] at h
    obtain rfl := Option.some.inj h
    obtain ⟨ad, rfl, hx⟩ := Kd.at_int (Kd.R_reads' HL.out).2.2 low hr.1 hr.2
    have e0 : rd list low = rdOf 0 list low := rfl
    rw [e0] at hx
    have p0 := eq_true hr.1
    have p1 := eq_true hr.2
    clear h H hr e0
    go_wp2
    first | go_ret2 | go_ret
    exact ⟨rfl, (bb_ HB.out)⟩
def laws_FnExactLeastMost.j0 : Nat → Bool → List Int → List Bool → Int → List Int → List Bool → Int → Option (Bool)
 | 0, _, _, _, _, _, _, _ => none
 | k + 1, x34, x439000, x439001, x439002, x457000, x457001, x457002 => if x34 = true then (none) else ((laws_toCrew.f k x439000 x439001 x439002).bind fun bt459 => ((laws_eqCrew.f k x457000 x457001 x457002 bt459.1 bt459.2.1 bt459.2.2).bind fun t466 => (if t466 = true then (some true) else (none))))
def laws_FnExactLeastMost.f (k : Nat) (l0_0 : List Int) (l0_1 : List Bool) (a0_2 : Int) : Option (Bool) := (laws_szCrew.f l0_0 l0_1 a0_2 1048576).bind fun t439 => (if t439 < 0 then (some true) else ((laws_toCrew.f k l0_0 l0_1 a0_2).bind fun bt440 => ((spec_LeastMost.f k bt440.1 bt440.2.1 bt440.2.2).bind fun bt447 => ((laws_toCrew.f k l0_0 l0_1 a0_2).bind fun bt449 => ((impl_LeastMost.f k bt449.1 bt449.2.1 bt449.2.2).bind fun bt457 => (if bt457.1 = bt447.1 then (laws_FnExactLeastMost.j0 k (bt457.2 != bt447.2) l0_0 l0_1 a0_2 bt449.1 bt449.2.1 bt449.2.2) else (laws_FnExactLeastMost.j0 k true l0_0 l0_1 a0_2 bt449.1 bt449.2.1 bt449.2.2)))))))
theorem laws_FnExactLeastMost.calls (k : Nat) (A0_0 : Option Addr) (c0_0 : Nat) (l0_0 : List Int) (A0_1 : Option Addr) (c0_1 : Nat) (l0_1 : List Bool) (a0_2 : Int) (r : Bool) (w : World) (hr0_0 : Kd.C (Kd.int .i64) w A0_0 l0_0.length l0_0) (hc0_0 : l0_0.length ≤ c0_0) (hr0_1 : Kd.C Kd.bool w A0_1 l0_1.length l0_1) (hc0_1 : l0_1.length ≤ c0_1) (h : laws_FnExactLeastMost.f k l0_0 l0_1 a0_2 = some r) :
  Calls Try.prog 9 #[.agg #[.slice A0_0 l0_0.length c0_0, .slice A0_1 l0_1.length c0_1, .int .i64 a0_2]] w fun e w' => e = .returned (.bool r) ∧ Below w.heap.size w w' := by
 have hu40 := Try.underlying40
 have hu43 := Try.underlying43
 have HR0_0 := ak_ hr0_0
 have HC0_0 := ak_ hc0_0
 clear hr0_0 hc0_0
 have HR0_1 := ak_ hr0_1
 have HC0_1 := ak_ hc0_1
 clear hr0_1 hc0_1
 have HB := ak_ (Below.refl w.heap.size w)
 have H : ((laws_szCrew.f l0_0 l0_1 a0_2 1048576).bind fun t439 => (if t439 < 0 then (some true) else ((laws_toCrew.f k l0_0 l0_1 a0_2).bind fun bt440 => ((spec_LeastMost.f k bt440.1 bt440.2.1 bt440.2.2).bind fun bt447 => ((laws_toCrew.f k l0_0 l0_1 a0_2).bind fun bt449 => ((impl_LeastMost.f k bt449.1 bt449.2.1 bt449.2.2).bind fun bt457 => (if bt457.1 = bt447.1 then (laws_FnExactLeastMost.j0 k (bt457.2 != bt447.2) l0_0 l0_1 a0_2 bt449.1 bt449.2.1 bt449.2.2) else (laws_FnExactLeastMost.j0 k true l0_0 l0_1 a0_2 bt449.1 bt449.2.1 bt449.2.2)))))))) = some r := h
 clear h
 replace H := Option.bind_eq_some_iff.mp H
 obtain ⟨t439, A20, H⟩ := H
 replace H : (if t439 < 0 then (some true) else ((laws_toCrew.f k l0_0 l0_1 a0_2).bind fun bt440 => ((spec_LeastMost.f k bt440.1 bt440.2.1 bt440.2.2).bind fun bt447 => ((laws_toCrew.f k l0_0 l0_1 a0_2).bind fun bt449 => ((impl_LeastMost.f k bt449.1 bt449.2.1 bt449.2.2).bind fun bt457 => (if bt457.1 = bt447.1 then (laws_FnExactLeastMost.j0 k (bt457.2 != bt447.2) l0_0 l0_1 a0_2 bt449.1 bt449.2.1 bt449.2.2) else (laws_FnExactLeastMost.j0 k true l0_0 l0_1 a0_2 bt449.1 bt449.2.1 bt449.2.2))))))) = some r := H
 have A2 := ak_ A20
 clear A20
 by_cases c3 : t439 < 0
 ·
  rw [if_pos c3] at H
  have c3b0 : decide (t439 < 0) = true := decide_eq_true c3
  clear c3
  obtain rfl := Option.some.inj H
  go_enter Try.func9, Try.ntmps9
  go_wp2_with (first | ((with_reducible refine gate_dst (N := 1) rfl ?_); refine bx_ 1 #[.slice A0_0 l0_0.length c0_0, .slice A0_1 l0_1.length c0_1, .int .i64 a0_2] 40 ?_; intro gb438 hg w4 hbox hb; have n0_ := ak_ (bs_ (bb_ HB.out) hb); have n1_ := ak_ (hbox); have n2_ := ak_ ((by rw [hg]; exact (bz_ (bb_ HB.out)) : w.heap.size ≤ gb438)); have n3_ := n2_; clear HB; have HB := n0_; have BK438 := n1_; have GW438 := n2_; have GE438 := n3_; clear n0_ n1_ n2_ n3_; clear hb hbox hg; have hcz5_0 : w4.cell? ⟨gb438, 0, none⟩ = some (.slice A0_0 l0_0.length c0_0) := (blk_cell BK438.out 0).trans rfl; have hcz5_1 : w4.cell? ⟨gb438, 1, none⟩ = some (.slice A0_1 l0_1.length c0_1) := (blk_cell BK438.out 1).trans rfl; have hcz5_2 : w4.cell? ⟨gb438, 2, none⟩ = some (.int .i64 a0_2) := (blk_cell BK438.out 2).trans rfl; have hfz5_0 := blk_frozen BK438.out 0; have hfz5_1 := blk_frozen BK438.out 1; have hfz5_2 := blk_frozen BK438.out 2) | ((with_reducible refine gate_callee (f := 18) rfl ?_); refine goesL_ (some 11) rfl rfl Try.func18 (by kernel_rfl) rfl #[.agg #[.slice A0_0 l0_0.length c0_0, .slice A0_1 l0_1.length c0_1, .int .i64 a0_2], .int .i64 1048576] rfl (by first | rfl | (simp only [map_toArray, map_cons, map_nil]; try rfl)) ?_; (with_reducible refine (laws_szCrew.calls _ _ l0_0 _ _ l0_1 a0_2 1048576 t439 _ ?side1 ?side2 ?side3 ?side4 A2.out).mono ?_); (case side1 => repeat (first | exact (Kd.C_below HR0_0.out HB.out) | (with_reducible refine Kd.C_alloc ?_ _) | (with_reducible refine Kd.C_drewN ?_ _) | (with_reducible refine Kd.C_drew ?_))); (case side2 => exact HC0_0.out); (case side3 => repeat (first | exact (Kd.C_below HR0_1.out HB.out) | (with_reducible refine Kd.C_alloc ?_ _) | (with_reducible refine Kd.C_drewN ?_ _) | (with_reducible refine Kd.C_drew ?_))); (case side4 => exact HC0_1.out); rintro e w6 ⟨rfl, hb⟩; refine ⟨_, rfl, ?_⟩; have n0_ := ak_ (blk_below (pk BK438.out) hb); have n1_ := ak_ (bs_ bl_ hb); clear BK438; clear HB; have BK438 := n0_; have HB := n1_; clear n0_ n1_; (try clear hb); (try clear hb2); (try clear hk); (try clear hi)))
  go_ret
  exact ⟨rx_, by repeat (first | exact HB.out | apply ba_ | apply bN_ | apply b1_ | refine below_set ?_ GE438.out)⟩
 ·
  rw [if_neg c3] at H
  have c3b0 : decide (t439 < 0) = false := decide_eq_false c3
  clear c3
  replace H := Option.bind_eq_some_iff.mp H
  obtain ⟨⟨t440, t443, t446⟩, A70, H⟩ := H
  replace H : ((spec_LeastMost.f k t440 t443 t446).bind fun bt447 => ((laws_toCrew.f k l0_0 l0_1 a0_2).bind fun bt449 => ((impl_LeastMost.f k bt449.1 bt449.2.1 bt449.2.2).bind fun bt457 => (if bt457.1 = bt447.1 then (laws_FnExactLeastMost.j0 k (bt457.2 != bt447.2) l0_0 l0_1 a0_2 bt449.1 bt449.2.1 bt449.2.2) else (laws_FnExactLeastMost.j0 k true l0_0 l0_1 a0_2 bt449.1 bt449.2.1 bt449.2.2))))) = some r := H
  have A7 := ak_ A70
  clear A70
  replace H := Option.bind_eq_some_iff.mp H
  obtain ⟨⟨t447, t448⟩, A80, H⟩ := H
  replace H : ((laws_toCrew.f k l0_0 l0_1 a0_2).bind fun bt449 => ((impl_LeastMost.f k bt449.1 bt449.2.1 bt449.2.2).bind fun bt457 => (if bt457.1 = t447 then (laws_FnExactLeastMost.j0 k (bt457.2 != t448) l0_0 l0_1 a0_2 bt449.1 bt449.2.1 bt449.2.2) else (laws_FnExactLeastMost.j0 k true l0_0 l0_1 a0_2 bt449.1 bt449.2.1 bt449.2.2)))) = some r := H
  have A8 := ak_ A80
  clear A80
  replace H := Option.bind_eq_some_iff.mp H
  obtain ⟨⟨t449, t452, t455⟩, A90, H⟩ := H
  replace H : ((impl_LeastMost.f k t449 t452 t455).bind fun bt457 => (if bt457.1 = t447 then (laws_FnExactLeastMost.j0 k (bt457.2 != t448) l0_0 l0_1 a0_2 t449 t452 t455) else (laws_FnExactLeastMost.j0 k true l0_0 l0_1 a0_2 t449 t452 t455))) = some r := H
  have A9 := ak_ A90
  clear A90
  replace H := Option.bind_eq_some_iff.mp H
  obtain ⟨⟨t457, t458⟩, A100, H⟩ := H
  replace H : (if t457 = t447 then (laws_FnExactLeastMost.j0 k (t458 != t448) l0_0 l0_1 a0_2 t449 t452 t455) else (laws_FnExactLeastMost.j0 k true l0_0 l0_1 a0_2 t449 t452 t455)) = some r := H
  have A10 := ak_ A100
  clear A100
  have HC11 := ak_ H
  clear H
  go_enter Try.func9, Try.ntmps9
  go_upto_region 8 with (first | ((with_reducible refine gate_dst (N := 1) rfl ?_); refine bx_ 1 #[.slice A0_0 l0_0.length c0_0, .slice A0_1 l0_1.length c0_1, .int .i64 a0_2] 40 ?_; intro gb438 hg w12 hbox hb; have n0_ := ak_ (bs_ (bb_ HB.out) hb); have n1_ := ak_ (hbox); have n2_ := ak_ ((by rw [hg]; exact (bz_ (bb_ HB.out)) : w.heap.size ≤ gb438)); have n3_ := n2_; clear HB; have HB := n0_; have BK438 := n1_; have GW438 := n2_; have GE438 := n3_; clear n0_ n1_ n2_ n3_; clear hb hbox hg; have hcz13_0 : w12.cell? ⟨gb438, 0, none⟩ = some (.slice A0_0 l0_0.length c0_0) := (blk_cell BK438.out 0).trans rfl; have hcz13_1 : w12.cell? ⟨gb438, 1, none⟩ = some (.slice A0_1 l0_1.length c0_1) := (blk_cell BK438.out 1).trans rfl; have hcz13_2 : w12.cell? ⟨gb438, 2, none⟩ = some (.int .i64 a0_2) := (blk_cell BK438.out 2).trans rfl; have hfz13_0 := blk_frozen BK438.out 0; have hfz13_1 := blk_frozen BK438.out 1; have hfz13_2 := blk_frozen BK438.out 2) | ((with_reducible refine gate_callee (f := 18) rfl ?_); refine goesL_ (some 11) rfl rfl Try.func18 (by kernel_rfl) rfl #[.agg #[.slice A0_0 l0_0.length c0_0, .slice A0_1 l0_1.length c0_1, .int .i64 a0_2], .int .i64 1048576] rfl (by first | rfl | (simp only [map_toArray, map_cons, map_nil]; try rfl)) ?_; (with_reducible refine (laws_szCrew.calls _ _ l0_0 _ _ l0_1 a0_2 1048576 t439 _ ?side1 ?side2 ?side3 ?side4 A2.out).mono ?_); (case side1 => repeat (first | exact (Kd.C_below HR0_0.out HB.out) | (with_reducible refine Kd.C_alloc ?_ _) | (with_reducible refine Kd.C_drewN ?_ _) | (with_reducible refine Kd.C_drew ?_))); (case side2 => exact HC0_0.out); (case side3 => repeat (first | exact (Kd.C_below HR0_1.out HB.out) | (with_reducible refine Kd.C_alloc ?_ _) | (with_reducible refine Kd.C_drewN ?_ _) | (with_reducible refine Kd.C_drew ?_))); (case side4 => exact HC0_1.out); rintro e w14 ⟨rfl, hb⟩; refine ⟨_, rfl, ?_⟩; have n0_ := ak_ (blk_below (pk BK438.out) hb); have n1_ := ak_ (bs_ bl_ hb); clear BK438; clear HB; have BK438 := n0_; have HB := n1_; clear n0_ n1_; (try clear hb); (try clear hb2); (try clear hk); (try clear hi); have hcz15_0 : w14.cell? ⟨gb438, 0, none⟩ = some (.slice A0_0 l0_0.length c0_0) := (blk_cell BK438.out 0).trans rfl; have hcz15_1 : w14.cell? ⟨gb438, 1, none⟩ = some (.slice A0_1 l0_1.length c0_1) := (blk_cell BK438.out 1).trans rfl; have hcz15_2 : w14.cell? ⟨gb438, 2, none⟩ = some (.int .i64 a0_2) := (blk_cell BK438.out 2).trans rfl; have hfz15_0 := blk_frozen BK438.out 0; have hfz15_1 := blk_frozen BK438.out 1; have hfz15_2 := blk_frozen BK438.out 2) | ((with_reducible refine gate_callee (f := 20) rfl ?_); refine goesL_ (some 16) rfl rfl Try.func20 (by kernel_rfl) rfl #[.agg #[.slice A0_0 l0_0.length c0_0, .slice A0_1 l0_1.length c0_1, .int .i64 a0_2]] rfl (by first | rfl | (simp only [map_toArray, map_cons, map_nil]; try rfl)) ?_; (with_reducible refine (laws_toCrew.calls k _ _ l0_0 _ _ l0_1 a0_2 t440 t443 t446 _ ?side1 ?side2 ?side3 ?side4 A7.out).mono ?_); (case side1 => repeat (first | exact (Kd.C_below HR0_0.out HB.out) | (with_reducible refine Kd.C_alloc ?_ _) | (with_reducible refine Kd.C_drewN ?_ _) | (with_reducible refine Kd.C_drew ?_))); (case side2 => exact HC0_0.out); (case side3 => repeat (first | exact (Kd.C_below HR0_1.out HB.out) | (with_reducible refine Kd.C_alloc ?_ _) | (with_reducible refine Kd.C_drewN ?_ _) | (with_reducible refine Kd.C_drew ?_))); (case side4 => exact HC0_1.out); rintro e w16 ⟨v441, v444, rfl, ho0, ho1, hb⟩; refine ⟨_, rfl, ?_⟩; have n0_ := ak_ (Kd.R_lower ho0 (bz_ bl_)); have n1_ := ak_ (Kd.R_lower ho1 (bz_ bl_)); have n2_ := ak_ (blk_below (pk BK438.out) hb); have n3_ := ak_ (bs_ bl_ hb); clear BK438; clear HB; have HO442 := n0_; have HO445 := n1_; have BK438 := n2_; have HB := n3_; clear n0_ n1_ n2_ n3_; (try clear hb); (try clear hb2); (try clear hk); (try clear hi); (try clear ho0); (try clear ho1); obtain ⟨Ao17, co17, eo17⟩ := Kd.R_slice HO442.out; subst eo17; obtain ⟨Ao18, co18, eo18⟩ := Kd.R_slice HO445.out; subst eo18) | ((with_reducible refine gate_callee (f := 37) rfl ?_); refine goesL_ (some 17) rfl rfl Try.func37 (by kernel_rfl) rfl #[.agg #[.slice Ao17 t440.length co17, .slice Ao18 t443.length co18, .int .i64 t446]] rfl (by first | rfl | (simp only [map_toArray, map_cons, map_nil]; try rfl)) ?_; (with_reducible refine (spec_LeastMost.calls k _ _ t440 _ _ t443 t446 t447 t448 _ ?side1 ?side2 ?side3 ?side4 A8.out).mono ?_); (case side1 => repeat (first | exact (Kd.R_reads' HO442.out).2.2 | (with_reducible refine Kd.C_alloc ?_ _) | (with_reducible refine Kd.C_drewN ?_ _) | (with_reducible refine Kd.C_drew ?_))); (case side2 => exact (Kd.R_reads' HO442.out).2.1); (case side3 => repeat (first | exact (Kd.R_reads' HO445.out).2.2 | (with_reducible refine Kd.C_alloc ?_ _) | (with_reducible refine Kd.C_drewN ?_ _) | (with_reducible refine Kd.C_drew ?_))); (case side4 => exact (Kd.R_reads' HO445.out).2.1); rintro e w19 ⟨rfl, hb⟩; refine ⟨_, rfl, ?_⟩; have n0_ := ak_ (Kd.R_below (Kd.pR HO442.out) hb); have n1_ := ak_ (Kd.R_below (Kd.pR HO445.out) hb); have n2_ := ak_ (blk_below (pk BK438.out) hb); have n3_ := ak_ (bs_ bl_ hb); clear HO442; clear HO445; clear BK438; clear HB; have HO442 := n0_; have HO445 := n1_; have BK438 := n2_; have HB := n3_; clear n0_ n1_ n2_ n3_; (try clear hb); (try clear hb2); (try clear hk); (try clear hi); have hcz20_0 : w19.cell? ⟨gb438, 0, none⟩ = some (.slice A0_0 l0_0.length c0_0) := (blk_cell BK438.out 0).trans rfl; have hcz20_1 : w19.cell? ⟨gb438, 1, none⟩ = some (.slice A0_1 l0_1.length c0_1) := (blk_cell BK438.out 1).trans rfl; have hcz20_2 : w19.cell? ⟨gb438, 2, none⟩ = some (.int .i64 a0_2) := (blk_cell BK438.out 2).trans rfl; have hfz20_0 := blk_frozen BK438.out 0; have hfz20_1 := blk_frozen BK438.out 1; have hfz20_2 := blk_frozen BK438.out 2) | ((with_reducible refine gate_callee (f := 20) rfl ?_); refine goesL_ (some 21) rfl rfl Try.func20 (by kernel_rfl) rfl #[.agg #[.slice A0_0 l0_0.length c0_0, .slice A0_1 l0_1.length c0_1, .int .i64 a0_2]] rfl (by first | rfl | (simp only [map_toArray, map_cons, map_nil]; try rfl)) ?_; (with_reducible refine (laws_toCrew.calls k _ _ l0_0 _ _ l0_1 a0_2 t449 t452 t455 _ ?side1 ?side2 ?side3 ?side4 A9.out).mono ?_); (case side1 => repeat (first | exact (Kd.C_below HR0_0.out HB.out) | (with_reducible refine Kd.C_alloc ?_ _) | (with_reducible refine Kd.C_drewN ?_ _) | (with_reducible refine Kd.C_drew ?_))); (case side2 => exact HC0_0.out); (case side3 => repeat (first | exact (Kd.C_below HR0_1.out HB.out) | (with_reducible refine Kd.C_alloc ?_ _) | (with_reducible refine Kd.C_drewN ?_ _) | (with_reducible refine Kd.C_drew ?_))); (case side4 => exact HC0_1.out); rintro e w21 ⟨v450, v453, rfl, ho0, ho1, hb⟩; refine ⟨_, rfl, ?_⟩; have n0_ := ak_ (Kd.R_elder' (Kd.pR HO442.out) (Kd.R_base ho0) hb); have n1_ := ak_ (Kd.R_elder' (Kd.pR HO445.out) (Kd.R_base ho1) hb); have n2_ := ak_ (Kd.R_lower (Kd.R_new' ho0 (Kd.R_lt (Kd.pR HO442.out))) (bz_ bl_)); have n3_ := ak_ (Kd.R_lower (Kd.R_new' ho1 (Kd.R_lt (Kd.pR HO445.out))) (bz_ bl_)); have n4_ := ak_ (blk_below (pk BK438.out) hb); have n5_ := ak_ (bs_ bl_ hb); clear HO442; clear HO445; clear BK438; clear HB; have HO442 := n0_; have HO445 := n1_; have HO451 := n2_; have HO454 := n3_; have BK438 := n4_; have HB := n5_; clear n0_ n1_ n2_ n3_ n4_ n5_; (try clear hb); (try clear hb2); (try clear hk); (try clear hi); (try clear ho0); (try clear ho1)) | ((with_reducible refine gate_dst (N := 6) rfl ?_); refine bx_ 6 #[.slice none 0 0, .slice none 0 0, .int .i64 0] 43 ?_; intro gb456 hg w22 hbox hb; have n0_ := ak_ (Kd.R_below (Kd.pR HO442.out) hb); have n1_ := ak_ (Kd.R_below (Kd.pR HO445.out) hb); have n2_ := ak_ (Kd.R_below (Kd.pR HO451.out) hb); have n3_ := ak_ (Kd.R_below (Kd.pR HO454.out) hb); have n4_ := ak_ (blk_below (pk BK438.out) hb); have n5_ := ak_ (bs_ bl_ hb); have n6_ := ak_ (hbox); have n7_ := ak_ ((by rw [hg]; exact (bz_ bl_) : w.heap.size ≤ gb456)); have n8_ := n7_; have n9_ := ak_ ((by rw [hg]; exact Nat.ne_of_lt (blk_lt (pk BK438.out)) : gb438 ≠ gb456)); have n10_ := ak_ n9_.out.symm; clear HO442; clear HO445; clear HO451; clear HO454; clear BK438; clear HB; have HO442 := n0_; have HO445 := n1_; have HO451 := n2_; have HO454 := n3_; have BK438 := n4_; have HB := n5_; have BK456 := n6_; have GW456 := n7_; have GE456 := n8_; have NB438_456 := n9_; have NB456_438 := n10_; clear n0_ n1_ n2_ n3_ n4_ n5_ n6_ n7_ n8_ n9_ n10_; clear hb hbox hg; obtain ⟨Ao23, co23, eo23⟩ := Kd.R_slice HO451.out; subst eo23; have hnb24 := NB456_438.out; have hnc24 := NB438_456.out; have hcz25_0 : w22.cell? ⟨gb456, 0, none⟩ = some (.slice none 0 0) := (blk_cell BK456.out 0).trans rfl; have hcz25_1 : w22.cell? ⟨gb456, 1, none⟩ = some (.slice none 0 0) := (blk_cell BK456.out 1).trans rfl; have hcz25_2 : w22.cell? ⟨gb456, 2, none⟩ = some (.int .i64 0) := (blk_cell BK456.out 2).trans rfl; have hfz25_0 := blk_frozen BK456.out 0; have hfz25_1 := blk_frozen BK456.out 1; have hfz25_2 := blk_frozen BK456.out 2; obtain ⟨Ao26, co26, eo26⟩ := Kd.R_slice HO454.out; subst eo26) | ((with_reducible refine gate_callee (f := 38) rfl ?_); refine goesL_ (some 24) rfl rfl Try.func38 (by kernel_rfl) rfl #[.agg #[.slice Ao23 t449.length co23, .slice Ao26 t452.length co26, .int .i64 t455]] rfl (by first | rfl | (simp only [map_toArray, map_cons, map_nil]; try rfl)) ?_; (with_reducible refine (impl_LeastMost.calls k _ _ t449 _ _ t452 t455 t457 t458 _ ?side1 ?side2 ?side3 ?side4 A10.out).mono ?_); (case side1 => refine (Kd.R_reads' (e := 3) (base := w.heap.size) (ok := fun k_ => (True ∧ some k_ ≠ (.slice Ao17 t440.length co17 : Value).ownBlock)) (n := t449.length) (c := co23) ?_).2.2; exact (by (with_reducible repeat (first | apply Kd.R_alloc | apply Kd.R_drewN | apply Kd.R_drew)); exact (Kd.R_mono (Kd.R_far (p := ⟨gb456, 2, none⟩) (Kd.R_far (p := ⟨gb456, 1, none⟩) (Kd.R_far (p := ⟨gb456, 0, none⟩) (Kd.R_types HO451.out BK456.out (by decide)) (fun _ hk => hk.2) (.slice Ao23 t449.length co23)) (fun _ hk => hk.2) (.slice Ao26 t452.length co26)) (fun _ hk => hk.2) (.int .i64 t455)) (fun _ h_ => h_.1)))); (case side2 => exact (Kd.R_reads' HO451.out).2.1); (case side3 => refine (Kd.R_reads' (e := 4) (base := w.heap.size) (ok := fun k_ => (True ∧ some k_ ≠ (.slice Ao18 t443.length co18 : Value).ownBlock)) (n := t452.length) (c := co26) ?_).2.2; exact (by (with_reducible repeat (first | apply Kd.R_alloc | apply Kd.R_drewN | apply Kd.R_drew)); exact (Kd.R_mono (Kd.R_far (p := ⟨gb456, 2, none⟩) (Kd.R_far (p := ⟨gb456, 1, none⟩) (Kd.R_far (p := ⟨gb456, 0, none⟩) (Kd.R_types HO454.out BK456.out (by decide)) (fun _ hk => hk.2) (.slice Ao23 t449.length co23)) (fun _ hk => hk.2) (.slice Ao26 t452.length co26)) (fun _ hk => hk.2) (.int .i64 t455)) (fun _ h_ => h_.1)))); (case side4 => exact (Kd.R_reads' HO454.out).2.1); rintro e w27 ⟨rfl, hb⟩; refine ⟨_, rfl, ?_⟩; have n0_ := ak_ (Kd.R_below (by (with_reducible repeat (first | apply Kd.R_alloc | apply Kd.R_drewN | apply Kd.R_drew)); exact (Kd.R_mono (Kd.R_far (p := ⟨gb456, 2, none⟩) (Kd.R_far (p := ⟨gb456, 1, none⟩) (Kd.R_far (p := ⟨gb456, 0, none⟩) (Kd.R_types HO442.out BK456.out (by decide)) (fun _ hk => hk.2) (.slice Ao23 t449.length co23)) (fun _ hk => hk.2) (.slice Ao26 t452.length co26)) (fun _ hk => hk.2) (.int .i64 t455)) (fun _ h_ => h_.1))) hb); have n1_ := ak_ (Kd.R_below (by (with_reducible repeat (first | apply Kd.R_alloc | apply Kd.R_drewN | apply Kd.R_drew)); exact (Kd.R_mono (Kd.R_far (p := ⟨gb456, 2, none⟩) (Kd.R_far (p := ⟨gb456, 1, none⟩) (Kd.R_far (p := ⟨gb456, 0, none⟩) (Kd.R_types HO445.out BK456.out (by decide)) (fun _ hk => hk.2) (.slice Ao23 t449.length co23)) (fun _ hk => hk.2) (.slice Ao26 t452.length co26)) (fun _ hk => hk.2) (.int .i64 t455)) (fun _ h_ => h_.1))) hb); have n2_ := ak_ (Kd.R_below (by (with_reducible repeat (first | apply Kd.R_alloc | apply Kd.R_drewN | apply Kd.R_drew)); exact (Kd.R_mono (Kd.R_far (p := ⟨gb456, 2, none⟩) (Kd.R_far (p := ⟨gb456, 1, none⟩) (Kd.R_far (p := ⟨gb456, 0, none⟩) (Kd.R_types HO451.out BK456.out (by decide)) (fun _ hk => hk.2) (.slice Ao23 t449.length co23)) (fun _ hk => hk.2) (.slice Ao26 t452.length co26)) (fun _ hk => hk.2) (.int .i64 t455)) (fun _ h_ => h_.1))) hb); have n3_ := ak_ (Kd.R_below (by (with_reducible repeat (first | apply Kd.R_alloc | apply Kd.R_drewN | apply Kd.R_drew)); exact (Kd.R_mono (Kd.R_far (p := ⟨gb456, 2, none⟩) (Kd.R_far (p := ⟨gb456, 1, none⟩) (Kd.R_far (p := ⟨gb456, 0, none⟩) (Kd.R_types HO454.out BK456.out (by decide)) (fun _ hk => hk.2) (.slice Ao23 t449.length co23)) (fun _ hk => hk.2) (.slice Ao26 t452.length co26)) (fun _ hk => hk.2) (.int .i64 t455)) (fun _ h_ => h_.1))) hb); have n4_ := ak_ (blk_below (g := gb438) (o := .cells #[.slice A0_0 l0_0.length c0_0, .slice A0_1 l0_1.length c0_1, .int .i64 a0_2] 40 (0, 0)) (by (with_reducible repeat (first | refine kN_ ?_ _ | refine k1_ ?_ | refine ka_ ?_ _)); refine blk_far ?_ NB438_456.out _; (with_reducible repeat (first | refine kN_ ?_ _ | refine k1_ ?_ | refine ka_ ?_ _)); refine blk_far ?_ NB438_456.out _; (with_reducible repeat (first | refine kN_ ?_ _ | refine k1_ ?_ | refine ka_ ?_ _)); refine blk_far ?_ NB438_456.out _; exact pk BK438.out) hb); have n5_ := ak_ (blk_below (g := gb456) (o := .cells #[.slice Ao23 t449.length co23, .slice Ao26 t452.length co26, .int .i64 t455] 43 (0, 0)) (by (with_reducible repeat (first | refine kN_ ?_ _ | refine k1_ ?_ | refine ka_ ?_ _)); refine blk_put (cs := #[.slice Ao23 t449.length co23, .slice Ao26 t452.length co26, .int .i64 0]) ?_ 2 _ rfl; (with_reducible repeat (first | refine kN_ ?_ _ | refine k1_ ?_ | refine ka_ ?_ _)); refine blk_put (cs := #[.slice Ao23 t449.length co23, .slice none 0 0, .int .i64 0]) ?_ 1 _ rfl; (with_reducible repeat (first | refine kN_ ?_ _ | refine k1_ ?_ | refine ka_ ?_ _)); refine blk_put (cs := #[.slice none 0 0, .slice none 0 0, .int .i64 0]) ?_ 0 _ rfl; exact pk BK456.out) hb); have n6_ := ak_ (bs_ bl_ hb); clear HO442; clear HO445; clear HO451; clear HO454; clear BK438; clear BK456; clear HB; have HO442 := n0_; have HO445 := n1_; have HO451 := n2_; have HO454 := n3_; have BK438 := n4_; have BK456 := n5_; have HB := n6_; clear n0_ n1_ n2_ n3_ n4_ n5_ n6_; (try clear hb); (try clear hb2); (try clear hk); (try clear hi)))
  (try simp only [Act.put, setIfInBounds_toArray, set_cons_zero, set_cons_succ])
  go_cut [34] (fun v34 wc => ∃ (kq : Nat) (x34_10 : Bool), v34 = .bool x34_10 ∧ Aside0 (laws_FnExactLeastMost.j0 kq x34_10 l0_0 l0_1 a0_2 t449 t452 t455 = some r) ∧ Aside0 (kq ≤ k) ∧ Aside0 (Kd.R (Kd.int .i64) 3 wc w.heap.size (fun _ => True) (.slice Ao23 t449.length co23) t449) ∧ Aside0 (Kd.R Kd.bool 4 wc w.heap.size (fun _ => True) (.slice Ao26 t452.length co26) t452) ∧ Aside0 (wc.heap[gb438]? = some (.cells #[(.slice A0_0 l0_0.length c0_0), (.slice A0_1 l0_1.length c0_1), .int .i64 a0_2] 40 (0, 0))) ∧ Aside0 (wc.heap[gb456]? = some (.cells #[(.slice Ao23 t449.length co23), (.slice Ao26 t452.length co26), .int .i64 t455] 43 (0, 0))) ∧ Aside0 (Below w.heap.size w wc))
  case first =>
   have H := HC11.out
   clear HC11
   by_cases c28 : t457 = t447
   ·
    rw [if_pos c28] at H
    have c28b0 : (t457 == t447) = true := beq_iff_eq.mpr c28
    have c28b1 : (t457 != t447) = false := bne_eq_false_iff_eq.mpr c28
    clear c28
    (first | rw [c28b0] | (simp only [i64_w, i32_w]; rw [c28b0]) | rw [c28b1] | skip)
    have H' := ak_ H
    clear H
    go_wp2
    go_meet
    case rel => exact ⟨_, ((t458 != t448)), (ry_), H', ⟨by first | omega | exact Nat.le_refl _⟩, ⟨by (with_reducible repeat (first | apply Kd.R_alloc | apply Kd.R_drewN | apply Kd.R_drew)); exact Kd.R_mono HO451.out (fun _ hk => trivial)⟩, ⟨by (with_reducible repeat (first | apply Kd.R_alloc | apply Kd.R_drewN | apply Kd.R_drew)); exact Kd.R_mono HO454.out (fun _ hk => trivial)⟩, ⟨pk BK438.out⟩, ⟨pk BK456.out⟩, ⟨by repeat (first | exact HB.out | apply ba_ | apply bN_ | apply b1_ | refine below_set ?_ (Aside0.out (by assumption)))⟩⟩
   ·
    rw [if_neg c28] at H
    have c28b0 : (t457 == t447) = false := beq_eq_false_iff_ne.mpr c28
    have c28b1 : (t457 != t447) = true := bne_iff_ne.mpr c28
    (first | rw [c28b0] | (simp only [i64_w, i32_w]; rw [c28b0]) | rw [c28b1] | skip)
    have H' := ak_ H
    clear H
    go_wp2
    go_meet
    case rel => exact ⟨_, (true), (ry_), H', ⟨by first | omega | exact Nat.le_refl _⟩, ⟨by (with_reducible repeat (first | apply Kd.R_alloc | apply Kd.R_drewN | apply Kd.R_drew)); exact Kd.R_mono HO451.out (fun _ hk => trivial)⟩, ⟨by (with_reducible repeat (first | apply Kd.R_alloc | apply Kd.R_drewN | apply Kd.R_drew)); exact Kd.R_mono HO454.out (fun _ hk => trivial)⟩, ⟨pk BK438.out⟩, ⟨pk BK456.out⟩, ⟨by repeat (first | exact HB.out | apply ba_ | apply bN_ | apply b1_ | refine below_set ?_ (Aside0.out (by assumption)))⟩⟩
  case rest =>
   clear HC11
   try clear c1
   try clear c2
   try clear p2
   try clear c3
   try clear c3b0
   try clear c9
   try clear c18
   try clear c20
   try clear c24
   try clear c28
   try clear c28b0
   try clear c28b1
   try clear hcz13_0
   try clear hcz13_1
   try clear hcz13_2
   try clear hcz15_0
   try clear hcz15_1
   try clear hcz15_2
   try clear hcz20_0
   try clear hcz20_1
   try clear hcz20_2
   try clear hcz25_0
   try clear hcz25_1
   try clear hcz25_2
   try clear hcz5_0
   try clear hcz5_1
   try clear hcz5_2
   try clear hfz13_0
   try clear hfz13_1
   try clear hfz13_2
   try clear hfz15_0
   try clear hfz15_1
   try clear hfz15_2
   try clear hfz20_0
   try clear hfz20_1
   try clear hfz20_2
   try clear hfz25_0
   try clear hfz25_1
   try clear hfz25_2
   try clear hfz5_0
   try clear hfz5_1
   try clear hfz5_2
   obtain ⟨kq, x34_10, rfl, HA, HJ10, HO_457000, HO_457001, BK438, BK456, HB⟩ := hcut
   cases kq with
   | zero => exact absurd HA.out (by simp [laws_FnExactLeastMost.j0])
   | succ kj10 =>
    have H := HA.out
    clear HA
    simp only [laws_FnExactLeastMost.j0] at H
    by_cases c29 : x34_10 = true
    ·
     subst c29
     have H1 : (none) = some r := by rw [if_pos rfl] at H; exact H
     clear H
     have H := H1
     clear H1
     exact absurd H (by simp)
    ·
     replace c29 := Bool.eq_false_iff.mpr c29
     subst c29
     have H1 : ((laws_toCrew.f kj10 l0_0 l0_1 a0_2).bind fun bt459 => ((laws_eqCrew.f kj10 t449 t452 t455 bt459.1 bt459.2.1 bt459.2.2).bind fun t466 => (if t466 = true then (some true) else (none)))) = some r := by rw [if_neg (show ¬ (false = true) by decide)] at H; exact H
     clear H
     have H := H1
     clear H1
     replace H := Option.bind_eq_some_iff.mp H
     obtain ⟨⟨t459, t462, t465⟩, A300, H⟩ := H
     replace H : ((laws_eqCrew.f kj10 t449 t452 t455 t459 t462 t465).bind fun t466 => (if t466 = true then (some true) else (none))) = some r := H
     have A30 := ak_ A300
     clear A300
     replace H := Option.bind_eq_some_iff.mp H
     obtain ⟨t466, A310, H⟩ := H
     replace H : (if t466 = true then (some true) else (none)) = some r := H
     have A31 := ak_ A310
     clear A310
     by_cases c32 : t466 = true
     ·
      subst c32
      have H1 : (some true) = some r := by rw [if_pos rfl] at H; exact H
      clear H
      have H := H1
      clear H1
      obtain rfl := Option.some.inj H
      try go_wp2
      have n0_ := ak_ (Kd.R_drew HO_457000.out)
      have n1_ := ak_ (Kd.R_drew HO_457001.out)
      have n2_ := ak_ (k1_ BK438.out)
      have n3_ := ak_ (k1_ BK456.out)
      have n4_ := ak_ (b1_ HB.out)
      clear HO_457000 HO_457001 BK438 BK456 HB
      have HO_457000 := n0_; have HO_457001 := n1_; have BK438 := n2_; have BK456 := n3_; have HB := n4_
      clear n0_ n1_ n2_ n3_ n4_
      refine start_ (n := 5) (S := fun w' => w'.cell? ⟨gb456, 0, none⟩ = some (.slice Ao23 t449.length co23) ∧ w'.cell? ⟨gb456, 1, none⟩ = some (.slice Ao26 t452.length co26) ∧ w'.cell? ⟨gb456, 2, none⟩ = some (.int .i64 t455) ∧ w'.cell? ⟨gb438, 0, none⟩ = some (.slice A0_0 l0_0.length c0_0) ∧ w'.cell? ⟨gb438, 1, none⟩ = some (.slice A0_1 l0_1.length c0_1) ∧ w'.cell? ⟨gb438, 2, none⟩ = some (.int .i64 a0_2)) (ds := []) #[false, false, false, false, false] (by kernel_rfl) rfl rfl ⟨(blk_cell BK456.out 0).trans rfl, (blk_cell BK456.out 1).trans rfl, (blk_cell BK456.out 2).trans rfl, (blk_cell BK438.out 0).trans rfl, (blk_cell BK438.out 1).trans rfl, (blk_cell BK438.out 2).trans rfl⟩ (fun hHeld => ?_)
      generalize wc.drew = w33 at HO_457000 HO_457001 BK438 BK456 HB hHeld ⊢
      refine take_ (i := 0) (N := some 35) (v := ?_) (a' := ?_) #[true, false, false, false, false] rfl rfl (by kernel_rfl) (fun _ _ _ h => h) (Or.inl ⟨by rfl, ?_⟩) hHeld ?_ ?_
      rotate_left
      ·
       rintro w' ⟨s0, s1, s2, s3, s4, s5⟩
       go_simp
       with_reducible rfl
      rotate_left
      ·
       simp only [Act.put, setIfInBounds_toArray, set_cons_zero, set_cons_succ, i64_w, i32_w]
       rfl
      refine take_ (i := 1) (N := some 36) (v := ?_) (a' := ?_) #[true, true, false, false, false] rfl rfl (by kernel_rfl) (fun _ _ _ h => h) (Or.inl ⟨by rfl, ?_⟩) hHeld ?_ ?_
      rotate_left
      ·
       rintro w' ⟨s0, s1, s2, s3, s4, s5⟩
       go_simp
       with_reducible rfl
      rotate_left
      ·
       simp only [Act.put, setIfInBounds_toArray, set_cons_zero, set_cons_succ, i64_w, i32_w]
       rfl
      refine one_ (i := 2) (N := some 37) #[true, true, true, false, false] rfl rfl (by kernel_rfl) (by decide) (fun K hK => ?_)
      refine goes_ Try.func20 (by kernel_rfl) rfl #[.agg #[.slice A0_0 l0_0.length c0_0, .slice A0_1 l0_1.length c0_1, .int .i64 a0_2]] (by rfl) rfl rfl (by first | rfl | (simp only [map_toArray, map_cons, map_nil]; try rfl)) ?_
      with_reducible refine (laws_toCrew.calls kj10 _ _ l0_0 _ _ l0_1 a0_2 t459 t462 t465 _ ?side1 ?side2 ?side3 ?side4 A30.out).mono ?_
      (case side1 => repeat (first | exact (Kd.C_below HR0_0.out HB.out) | (with_reducible refine Kd.C_alloc ?_ _) | (with_reducible refine Kd.C_drewN ?_ _) | (with_reducible refine Kd.C_drew ?_)))
      (case side2 => exact HC0_0.out)
      (case side3 => repeat (first | exact (Kd.C_below HR0_1.out HB.out) | (with_reducible refine Kd.C_alloc ?_ _) | (with_reducible refine Kd.C_drewN ?_ _) | (with_reducible refine Kd.C_drew ?_)))
      (case side4 => exact HC0_1.out)
      rintro e w34 ⟨v460, v463, rfl, ho0, ho1, hb⟩
      refine ⟨_, rfl, ?_⟩
      have n0_ := ak_ (Kd.R_elder' (Kd.pR HO_457000.out) (Kd.R_base ho0) hb)
      have n1_ := ak_ (Kd.R_elder' (Kd.pR HO_457001.out) (Kd.R_base ho1) hb)
      have n2_ := ak_ (Kd.R_lower (Kd.R_new' ho0 (Kd.R_lt (Kd.pR HO_457000.out))) (bz_ bl_))
      have n3_ := ak_ (Kd.R_lower (Kd.R_new' ho1 (Kd.R_lt (Kd.pR HO_457001.out))) (bz_ bl_))
      have n4_ := ak_ (blk_below (pk BK438.out) hb)
      have n5_ := ak_ (blk_below (pk BK456.out) hb)
      have n6_ := ak_ (bs_ bl_ hb)
      clear HO_457000 HO_457001 BK438 BK456 HB
      have HO_457000 := n0_; have HO_457001 := n1_; have HO461 := n2_; have HO464 := n3_; have BK438 := n4_; have BK456 := n5_; have HB := n6_
      clear n0_ n1_ n2_ n3_ n4_ n5_ n6_
      (try clear hb)
      (try clear hb2)
      (try clear hk)
      (try clear hi)
      (try clear ho0)
      (try clear ho1)
      obtain ⟨Ao35, co35, eo35⟩ := Kd.R_slice HO461.out
      (first | subst eo35 | (injection eo35 with f1_ f2_ f3_; have f4_ := f1_.symm; have f5_ := f3_.symm; clear f1_ f2_ f3_; subst f4_; subst f5_))
      obtain ⟨Ao36, co36, eo36⟩ := Kd.R_slice HO464.out
      (first | subst eo36 | (injection eo36 with f1_ f2_ f3_; have f4_ := f1_.symm; have f5_ := f3_.symm; clear f1_ f2_ f3_; subst f4_; subst f5_))
      refine hK.out _ _ ⟨(blk_cell BK456.out 0).trans rfl, (blk_cell BK456.out 1).trans rfl, (blk_cell BK456.out 2).trans rfl, (blk_cell BK438.out 0).trans rfl, (blk_cell BK438.out 1).trans rfl, (blk_cell BK438.out 2).trans rfl⟩ (fun hHeld => ?_)
      clear hK K
      refine nm_ ?_
      refine one_ (i := 3) (N := some 38) #[true, true, true, true, false] rfl rfl (by kernel_rfl) (by decide) (fun K hK => ?_)
      refine goes_ Try.func22 (by kernel_rfl) rfl #[.agg #[.slice Ao23 t449.length co23, .slice Ao26 t452.length co26, .int .i64 t455], .agg #[.slice Ao35 t459.length co35, .slice Ao36 t462.length co36, .int .i64 t465]] (by rfl) rfl rfl (by first | rfl | (simp only [map_toArray, map_cons, map_nil]; try rfl)) ?_
      with_reducible refine (laws_eqCrew.calls kj10 _ _ t449 _ _ t452 t455 _ _ t459 _ _ t462 t465 true _ ?side1 ?side2 ?side3 ?side4 ?side5 ?side6 ?side7 ?side8 A31.out).mono ?_
      (case side1 => repeat (first | exact (Kd.R_reads' HO_457000.out).2.2 | (with_reducible refine Kd.C_alloc ?_ _) | (with_reducible refine Kd.C_drewN ?_ _) | (with_reducible refine Kd.C_drew ?_)))
      (case side2 => exact (Kd.R_reads' HO_457000.out).2.1)
      (case side3 => repeat (first | exact (Kd.R_reads' HO_457001.out).2.2 | (with_reducible refine Kd.C_alloc ?_ _) | (with_reducible refine Kd.C_drewN ?_ _) | (with_reducible refine Kd.C_drew ?_)))
      (case side4 => exact (Kd.R_reads' HO_457001.out).2.1)
      (case side5 => repeat (first | exact (Kd.R_reads' HO461.out).2.2 | (with_reducible refine Kd.C_alloc ?_ _) | (with_reducible refine Kd.C_drewN ?_ _) | (with_reducible refine Kd.C_drew ?_)))
      (case side6 => exact (Kd.R_reads' HO461.out).2.1)
      (case side7 => repeat (first | exact (Kd.R_reads' HO464.out).2.2 | (with_reducible refine Kd.C_alloc ?_ _) | (with_reducible refine Kd.C_drewN ?_ _) | (with_reducible refine Kd.C_drew ?_)))
      (case side8 => exact (Kd.R_reads' HO464.out).2.1)
      rintro e w37 ⟨rfl, hb⟩
      refine ⟨_, rfl, ?_⟩
      have n0_ := ak_ (Kd.R_below (Kd.pR HO_457000.out) hb)
      have n1_ := ak_ (Kd.R_below (Kd.pR HO_457001.out) hb)
      have n2_ := ak_ (Kd.R_below (Kd.pR HO461.out) hb)
      have n3_ := ak_ (Kd.R_below (Kd.pR HO464.out) hb)
      have n4_ := ak_ (blk_below (pk BK438.out) hb)
      have n5_ := ak_ (blk_below (pk BK456.out) hb)
      have n6_ := ak_ (bs_ bl_ hb)
      clear HO_457000 HO_457001 HO461 HO464 BK438 BK456 HB
      have HO_457000 := n0_; have HO_457001 := n1_; have HO461 := n2_; have HO464 := n3_; have BK438 := n4_; have BK456 := n5_; have HB := n6_
      clear n0_ n1_ n2_ n3_ n4_ n5_ n6_
      (try clear hb)
      (try clear hb2)
      (try clear hk)
      (try clear hi)
      refine hK.out _ _ ⟨(blk_cell BK456.out 0).trans rfl, (blk_cell BK456.out 1).trans rfl, (blk_cell BK456.out 2).trans rfl, (blk_cell BK438.out 0).trans rfl, (blk_cell BK438.out 1).trans rfl, (blk_cell BK438.out 2).trans rfl⟩ (fun hHeld => ?_)
      clear hK K
      refine nm_ ?_
      refine pure_ (i := 4) (N := some 39) (v := ?_) (a' := ?_) #[true, true, true, true, true] rfl rfl (by kernel_rfl) (fun _ _ _ h => h) (Or.inl ⟨by rfl, ?_⟩) ?_ ?_
      rotate_left
      ·
       intro w'
       go_simp
       with_reducible rfl
      rotate_left
      ·
       simp only [Act.put, setIfInBounds_toArray, set_cons_zero, set_cons_succ, i64_w, i32_w]
       rfl
      refine done_ (by kernel_rfl) ?_
      try go_wp2
      go_ret
      exact ⟨rx_, by repeat (first | exact HB.out | apply ba_ | apply bN_ | apply b1_ | refine below_set ?_ (Aside0.out (by assumption)))⟩
     ·
      replace c32 := Bool.eq_false_iff.mpr c32
      subst c32
      have H1 : (none) = some r := by rw [if_neg (show ¬ (false = true) by decide)] at H; exact H
      clear H
      have H := H1
      clear H1
      exact absurd H (by simp)
end Go.Proofs.Ythkchdfkeieabaa.QGr
