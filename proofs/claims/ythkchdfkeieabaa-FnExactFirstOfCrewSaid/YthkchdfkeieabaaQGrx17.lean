/- Contracts of functions of the given program, walked: each call returns what its Lean function says. Conditions: those that stand at each theorem. (Written by a program of this session.) -/
import Derived.Test.YthkchdfkeieabaaQGrx0
import Derived.Test.YthkchdfkeieabaaQGrx13
import Derived.Test.YthkchdfkeieabaaQGrx16
namespace Go.Proofs.Ythkchdfkeieabaa.QGr
open Go.RowKit Go.Proofs.YthkchdfkeieabaaW.PrintWords Go.Proofs.YthkchdfkeieabaaW.PrintLast Go.Proofs.YthkchdfkeieabaaW.PrintMore
open List (setIfInBounds_toArray set_cons_zero set_cons_succ map_toArray map_cons map_nil)
attribute [local go_sem] max2_int min2_int max_two min_two max_three min_three max_four min_four
set_option linter.unusedVariables false
set_option maxHeartbeats 8000000
set_option maxRecDepth 100000
set_option linter.unusedSimpArgs false
def crewSt (k : Nat) (ws : List Int) (rs : List Bool) (most : Int) (l : List Int) (acc : List (List Int)) : Option (List (List Int)) :=
 (impl_Crew_carries.f k ws rs most l).bind fun b => if b = true then (if acc.length < 1000000 then some (acc ++ [l]) else none) else some acc
theorem gOn_mono {α : Type} {st st' : List Int → List α → Option (List α)} (h : ∀ l a, LeO (st l a) (st' l a)) (most : Int) : ∀ P l acc, LeO (gOn st most P l acc) (gOn st' most P l acc)
 | [], _, _ => LeO.refl _
 | x :: P, l, acc => LeO.ite (LeO.bind (h _ _) (fun _ => LeO.bind (gOn_mono h most P _ _) (fun _ => gOn_mono h most P _ _))) (LeO.refl _)
theorem gp_lit0 {α : Type} (d : Kd α) (e : Nat) (W : World) {base : Nat} (hb : base ≤ W.heap.size) : Kd.S d e (W.alloc (.cells #[] e)) base (fun _ => True) (.slice (some ⟨W.heap.size, 0, none⟩) 0 0) [] := by
 refine ⟨fun _ => 0, fun _ _ => trivial, [], ?_, Reps.none _ _⟩
 have h2 := World.ownsRow_lit (base := base) (e := e) (size := d.sz) W #[] 0 hb (by simp [maxLen]) (by simp)
 have h3 : (W.alloc (.cells #[] e)).ownsRow base e d.sz (.slice (some ⟨W.heap.size, 0, none⟩) 0 0) 0 [] := by simpa using h2
 exact h3
theorem gp_new2 (W : World) (o o2 : Obj) : ((W.alloc o).alloc o2).heap[W.heap.size + 1]? = some o2 := by
 have h := blk_new (W.alloc o) o2
 have e : (W.alloc o).heap.size = W.heap.size + 1 := Array.size_push ..
 rw [e] at h
 exact h
theorem ride_each (k : Nat) (B g : Nat) (w0 : World) (Aw : Option Addr) (cw : Nat) (ws : List Int) (Ar : Option Addr) (cr : Nat) (rs : List Bool) (most : Int) (hB : w0.heap[B]? = some (.cells #[.slice Aw ws.length cw, .slice Ar rs.length cr, .int .i64 most] 43 (0, 0)))
  (hw : Kd.C (Kd.int .i64) w0 Aw ws.length ws) (hcw : ws.length ≤ cw) (hr : Kd.C Kd.bool w0 Ar rs.length rs) (hcr : rs.length ≤ cr) : GpEach (Kd.slice 3 (Kd.int .i64)) 29 47 (crewSt k ws rs most) g 164 #[.pointer (some ⟨B, 0, none⟩), .pointer (some ⟨g, 0, none⟩)] w0 := by
 intro W v vL l acc a1 hst hl hs
 have hu := Try.underlying43
 unfold crewSt at hs
 obtain ⟨b, h1, hs⟩ := Option.bind_eq_some_iff.mp hs
 obtain ⟨A1, c1, rfl, hle, hl1⟩ := gp_row hl
 obtain ⟨A, c, rfl⟩ := Kd.S_slice hst.row
 have A2 := ak_ (impl_Crew_carries.calls k Aw cw ws Ar cr rs most A1 c1 l b W (Kd.C_below hw hst.bel) hcw (Kd.C_below hr hst.bel) hcr hl1 hle h1)
 have hB1 := blk_below hB hst.bel
 have hz0 := blk_cell hB1 0
 have hz1 := blk_cell hB1 1
 have hz2 := blk_cell hB1 2
 simp at hz0
 simp at hz1
 simp at hz2
 have ST := ak_ hst
 have RL := ak_ hl
 have FR := ak_ (GpFr.below (g := g) (v := .slice A acc.length c) (Below.refl W.heap.size W))
 cases b
 ·rw [if_neg (by simp)] at hs
  obtain rfl := Option.some.inj hs
  clear hs h1 hst hl hl1 hle hw hcw hr hcr hB hB1
  go_enter Try.func164, Try.ntmps164
  go_wp2_with (go_at_call 165; refine A2.out.mono ?_; rintro e w6 ⟨rfl, hb⟩; have n0_ := ak_ (ST.out.up hb); have n1_ := ak_ (Kd.R_below RL.out hb); have n2_ := ak_ (FR.out.trans (GpFr.below hb)); clear ST RL FR hb hz0 hz1 hz2 A2; have ST := n0_; have RL := n1_; have FR := n2_; clear n0_ n1_ n2_)
  go_end0
  exact ⟨rfl, _, ST.out.any, FR.out⟩
 ·rw [if_pos rfl] at hs
  by_cases hlen : acc.length < 1000000
  rotate_left
  ·rw [if_neg hlen] at hs; exact absurd hs (by simp)
  rw [if_pos hlen] at hs
  obtain rfl := Option.some.inj hs
  have HLEN := ak_ hlen
  clear hs h1 hst hl hl1 hle hw hcw hr hcr hB hB1 hlen
  go_enter Try.func164, Try.ntmps164
  go_upto_region 1 with (go_at_call 165; refine A2.out.mono ?_; rintro e w6 ⟨rfl, hb⟩; have n0_ := ak_ (ST.out.up hb); have n1_ := ak_ (Kd.R_below RL.out hb); have n2_ := ak_ (FR.out.trans (GpFr.below hb)); clear ST RL FR hb hz0 hz1 hz2 A2; have ST := n0_; have RL := n1_; have FR := n2_; clear n0_ n1_ n2_)
  have hy5 := (blk_cell ST.out.out 0)
  have hf5 := (blk_frozen ST.out.out 0)
  simp at hy5
  go_wp2_with (first | ((with_reducible refine gate_builtin (b := .append) (xs := #[.tmp 7, .tmp 9]) rfl ?_); at_builtin; refine Kd.S_append (Kd.slice 3 (Kd.int .i64)) (w0 := w0) w0.heap.size rfl (.tmp 7) (.tmp 9) 47 29 (.slice none 0 0) 24 rfl Try.underlying47 info29 rfl (by decide) (by omega) (.slice A acc.length c) acc l [.slice A1 l.length c1] (fun _ => True) (fun k_ => some k_ = (Value.slice A1 l.length c1).ownBlock) rfl rfl ?aP ?aK (fun _ _ => trivial) ?aO ?aB ?aS ?aL ?_; (case aP => exact ⟨_, rfl, Kd.R_tight rfl (Kd.pR RL.out)⟩); (case aK => (intro k_ hk_; exact ⟨trivial, (RL.out.1 k_ hk_.symm).2⟩)); (case aO => exact Kd.S_mono (Kd.pS ST.out.row) (fun k_ hk_ => ⟨trivial, hk_⟩)); (case aB => exact (ST.out.up be_).bel); (case aS => exact bz_ (ST.out.up be_).bel); (case aL => have := HLEN.out; omega); intro v9 w9 ho hb hg hat; obtain ⟨Ao, co, rfl⟩ := Kd.S_slice ho; have HO := ak_ ho; have HB9 := ak_ hb; have HG := ak_ hg; have HAT := ak_ hat; have n0_ := ak_ (blk_grown (pk ST.out.out) hg (Kd.S_ne ST.out.row ST.out.out (by decide))); have hf9 := (blk_frozen n0_.out 0); have hy9 := (blk_cell n0_.out 0); simp at hy9; clear ho hb hg hat))
  go_end0
  refine ⟨rfl, .slice Ao (acc.length + 1) co, ⟨?_, ?_, ?_, ST.out.ge⟩, ?_⟩
  rotate_left
  ·exact (by (with_reducible repeat (first | apply Kd.S_alloc | apply Kd.S_drewN | apply Kd.S_drew)); have h_ := Kd.S_set HO.out n0_.out (by decide) 0 (.slice Ao (acc.length + 1) co); rw [List.length_append, List.length_singleton] at h_; exact h_)
  ·exact (by repeat (first | (with_reducible first | exact HB9.out | apply ba_ | apply bN_ | apply b1_ | refine below_set ?_ ST.out.ge) | exact HB9.out))
  ·refine FR.out.trans ⟨?_, fun k_ hk_ hg_ ht_ => ?_, ?_⟩
   ·have h2_ := HG.out.size
    first | (simp; omega) | (simp at h2_ ⊢; omega)
   ·have e2_ : w9.heap[k_]? = w6.heap[k_]? := HG.out.block k_ hk_ ht_
    exact (Below.heap_setCell w9 ⟨g, 0, none⟩ _ k_ hg_).trans e2_
   ·rcases HAT.out with e_ | ⟨b_, e_, h_⟩
    ·left
     rw [List.length_append, List.length_singleton] at e_
     exact e_
    ·right
     intro b2_ h2_
     rw [List.length_append, List.length_singleton] at e_
     rw [e_] at h2_
     injection h2_ with h2_
     omega
  ·exact (by (with_reducible repeat (first | refine kN_ ?_ _ | refine k1_ ?_ | refine ka_ ?_ _)); exact blk_put n0_.out 0 _ rfl)
def impl_Crew_rides.T2 : Bool × List (List Nat × List Nat) := (true, [([], []), ([], []), ([1], [1]), ([0, 2], [0, 2]), ([], []), ([4], [4]), ([5], [5]), ([], []), ([3, 6, 7, 3], [3, 6, 7])])
def impl_Crew_rides.B2 : List Nat := [0, 0, 2, 7, 0, 16, 48, 0, 255]
theorem impl_Crew_rides.T2_ : rtab .any (opsOf Try.f139 2) = impl_Crew_rides.T2 := by kernel_rfl
theorem impl_Crew_rides.B2_ : waitsOk impl_Crew_rides.T2.2 impl_Crew_rides.B2 = true := by kernel_rfl
def impl_Crew_rides.f (k : Nat) (ws : List Int) (rs : List Bool) (most : Int) (over : List Bool) (torch : Bool) : Option (List (List Int)) := (impl_State_side.f k over torch torch).bind fun P => if P.length ≤ 100 then gOn (crewSt k ws rs most) (ws.length : Int) P [] [] else none
theorem impl_Crew_rides.mono : ∀ ws rs most over torch k, LeO (impl_Crew_rides.f k ws rs most over torch) (impl_Crew_rides.f (k + 1) ws rs most over torch) := fun ws rs most over torch k =>
 LeO.bind (impl_State_side.mono _ _ _ _) (fun _ => LeO.ite (gOn_mono (fun _ _ => LeO.bind (impl_Crew_carries.mono _ _ _ _ _) (fun _ => LeO.refl _)) _ _ _ _) (LeO.refl _))
theorem impl_Crew_rides.calls (k : Nat) (Aw : Option Addr) (cw : Nat) (ws : List Int) (Ar : Option Addr) (cr : Nat) (rs : List Bool) (most : Int) (Ao : Option Addr) (co : Nat) (over : List Bool) (torch : Bool) (r : List (List Int)) (w : World)
  (hw : Kd.C (Kd.int .i64) w Aw ws.length ws) (hcw : ws.length ≤ cw) (hr : Kd.C Kd.bool w Ar rs.length rs) (hcr : rs.length ≤ cr) (ho : Kd.C Kd.bool w Ao over.length over) (hco : over.length ≤ co) (h : impl_Crew_rides.f k ws rs most over torch = some r) :
  Calls Try.prog 139 #[.agg #[.slice Aw ws.length cw, .slice Ar rs.length cr, .int .i64 most], .agg #[.slice Ao over.length co, .bool torch]] w fun e w' => ∃ v0_ : Value, e = .returned v0_ ∧ Kd.S (Kd.slice 3 (Kd.int .i64)) 29 w' w.heap.size (fun _ => True) v0_ r ∧ Below w.heap.size w w' := by
 have hu := Try.underlying43
 have hu2 := Try.underlying115
 unfold impl_Crew_rides.f at h
 obtain ⟨P, h1, h⟩ := Option.bind_eq_some_iff.mp h
 by_cases hP : P.length ≤ 100
 rotate_left
 ·rw [if_neg hP] at h; exact absurd h (by simp)
 rw [if_pos hP] at h
 have A1 := ak_ fun (W : World) (hb : Below w.heap.size w W) => impl_State_side.calls k Ao co over torch torch P W (Kd.C_below ho hb) hco h1
 have A2 := ak_ fun (B g : Nat) (w0 W : World) (Ap : Option Addr) (cp : Nat) (v : Value) (h0 : Below w.heap.size w w0) (hB : w0.heap[B]? = some (.cells #[.slice Aw ws.length cw, .slice Ar rs.length cr, .int .i64 most] 43 (0, 0))) (hst : GpSt (Kd.slice 3 (Kd.int .i64)) 29 47 g w0 W v (fun _ => True) []) (hp : (Kd.int .i64).R 3 W w0.heap.size (fun k => k ≠ g ∧ some k ≠ v.ownBlock) (.slice Ap P.length cp) P) =>
  groups_calls (Kd.slice 3 (Kd.int .i64)) 29 47 (crewSt k ws rs most) g 164 #[.pointer (some ⟨B, 0, none⟩), .pointer (some ⟨g, 0, none⟩)] w0 Ap cp P (ws.length : Int) (enters_of Try.func164 (by kernel_rfl) rfl) (ride_each k B g w0 Aw cw ws Ar cr rs most hB (Kd.C_below hw h0) hcw (Kd.C_below hr h0) hcr) hP v r W hst hp h
 have HB := ak_ (Below.refl w.heap.size w)
 clear h h1 hP hw hcw hr hcr ho hco
 go_enter Try.func139, Try.ntmps139
 go_upto_region 2 with (first | ((with_reducible refine gate_dst (N := 2) rfl ?_); refine bx_ 2 #[.slice Aw ws.length cw, .slice Ar rs.length cr, .int .i64 most] 43 ?_; intro gb2 hg w2 hbox hb; have nb_ := ak_ (bs_ (bb_ HB.out) hb); have nc_ := ak_ hbox; have nd_ := ak_ ((by rw [hg]; exact (bz_ (bb_ HB.out)) : w.heap.size ≤ gb2)); clear HB hb hbox hg; have HB := nb_; have BK2 := nc_; have GE2 := nd_; clear nb_ nc_ nd_; have hz2_0 := (blk_cell BK2.out 0); have hf2_0 := (blk_frozen BK2.out 0); simp at hz2_0; have hz2_1 := (blk_cell BK2.out 1); have hf2_1 := (blk_frozen BK2.out 1); simp at hz2_1; have hz2_2 := (blk_cell BK2.out 2); have hf2_2 := (blk_frozen BK2.out 2); simp at hz2_2; skip) | ((with_reducible refine gate_dst (N := 3) rfl ?_); refine bx_ 3 #[.slice Ao over.length co, .bool torch] 115 ?_; intro gb3 hg w3 hbox hb; have n0_ := ak_ (blk_below (pk BK2.out) hb); have m0_ := ak_ ((by rw [hg]; exact Nat.ne_of_lt (blk_lt (pk BK2.out)) : gb2 ≠ gb3)); have nb_ := ak_ (bs_ (bb_ HB.out) hb); have nc_ := ak_ hbox; have nd_ := ak_ ((by rw [hg]; exact (bz_ (bb_ HB.out)) : w.heap.size ≤ gb3)); clear HB hb hbox hg; clear BK2; have BK2 := n0_; have NE2_3 := m0_; have HB := nb_; have BK3 := nc_; have GE3 := nd_; clear nb_ nc_ nd_ n0_ m0_; have hz3_0 := (blk_cell BK3.out 0); have hf3_0 := (blk_frozen BK3.out 0); simp at hz3_0; have hz3_1 := (blk_cell BK3.out 1); have hf3_1 := (blk_frozen BK3.out 1); simp at hz3_1; skip))
 have HB3 := ak_ HB.out
 have hst := (show GpSt (Kd.slice 3 (Kd.int .i64)) 29 47 (w3.heap.size + 1) w3 ((w3.alloc (.cells #[] 29)).alloc (.cells #[.slice (some ⟨w3.heap.size, 0, none⟩) 0 0] 47)) (.slice (some ⟨w3.heap.size, 0, none⟩) 0 0) (fun _ => True) [] from ⟨gp_new2 w3 _ _, Kd.S_alloc (gp_lit0 _ _ w3 (Nat.le_refl _)) _, ba_ (ba_ (Below.refl _ _) _) _, Nat.le_succ _⟩)
 have n0_ := ak_ (ka_ (ka_ BK2.out (.cells #[] 29)) (.cells #[.slice (some ⟨w3.heap.size, 0, none⟩) 0 0] 47))
 have n1_ := ak_ (ka_ (ka_ BK3.out (.cells #[] 29)) (.cells #[.slice (some ⟨w3.heap.size, 0, none⟩) 0 0] 47))
 have B3 := ak_ BK2.out
 have HL3 := ak_ (blk_lt BK3.out)
 have ST := ak_ hst
 clear BK2 BK3 HB hst hz2_0 hz2_1 hz2_2 hf2_0 hf2_1 hf2_2 hz3_0 hz3_1 hf3_0 hf3_1
 have BK2 := n0_; have BK3 := n1_; clear n0_ n1_
 generalize (w3.alloc (.cells #[] 29)).alloc (.cells #[.slice (some ⟨w3.heap.size, 0, none⟩) 0 0] 47) = w5 at BK2 BK3 ST ⊢
 generalize Value.slice (some ⟨w3.heap.size, 0, none⟩) 0 0 = v5 at ST ⊢
 generalize w3.heap.size + 1 = gb5 at ST ⊢
 have n0_ := ak_ (k1_ BK2.out); have n1_ := ak_ (k1_ BK3.out); have n2_ := ak_ (ST.out.up (below_drew (Below.refl _ _))); clear BK2 BK3 ST; have BK2 := n0_; have BK3 := n1_; have ST := n2_; clear n0_ n1_ n2_
 refine start_ (n := 9) (S := fun w' => w'.cell? ⟨gb3, 0, none⟩ = some (.slice Ao over.length co) ∧ w'.cell? ⟨gb3, 1, none⟩ = some (.bool torch) ∧ w'.cell? ⟨gb2, 0, none⟩ = some (.slice Aw ws.length cw)) (ds := []) (mb_ 9 0) (by kernel_rfl) rfl rfl ⟨(blk_cell BK3.out 0).trans rfl, (blk_cell BK3.out 1).trans rfl, (blk_cell BK2.out 0).trans rfl⟩ (fun hHeld => ?_); refine with_tabW impl_Crew_rides.T2_ impl_Crew_rides.B2_ (fun HT_ HW_ => ?_)
 generalize w5.drew = w9 at BK2 BK3 ST hHeld ⊢
 refine tk_ 0 7 9 1 ?_ (hy := by rintro w' ⟨s0, s1, s2⟩; go_simp; with_reducible rfl)
 refine pu_ 1 8 9 3 ?_
 refine tk_ 2 9 9 7 ?_ (hy := by rintro w' ⟨s0, s1, s2⟩; go_simp; with_reducible rfl)
 refine pu_ 4 11 9 23 ?_
 refine tk_ 5 12 9 55 ?_ (hy := by rintro w' ⟨s0, s1, s2⟩; go_simp; with_reducible rfl)
 refine pu_ 6 13 9 119 ?_
 refine pu_ 7 14 9 247 ?_
 refine on_ 3 10 9 255 (fun K hK => ?_)
 refine goes_ Try.func115 (by kernel_rfl) rfl #[.agg #[.slice Ao over.length co, .bool torch], .bool torch] (by rfl) rfl rfl (by first | rfl | (simp only [map_toArray, map_cons, map_nil]; try rfl)) ?_
 refine (A1.out _ (below_then HB3.out HB3.out.size ST.out.bel)).mono ?_
 rintro e_ w10 ⟨v10, rfl, hp, hb⟩
 obtain ⟨Ap, cp, rfl⟩ := Kd.R_slice hp
 refine ⟨_, rfl, ?_⟩
 have PL := ak_ (Kd.R_lower (ST.out.new (Nat.le_refl _) hp) (bz_ ST.out.bel))
 have n0_ := ak_ (blk_below BK2.out hb); have n1_ := ak_ (blk_below BK3.out hb); have n2_ := ak_ (ST.out.up hb); clear BK2 BK3 ST hb hp; have BK2 := n0_; have BK3 := n1_; have ST := n2_; clear n0_ n1_ n2_
 refine hK.out _ _ ⟨(blk_cell BK3.out 0).trans rfl, (blk_cell BK3.out 1).trans rfl, (blk_cell BK2.out 0).trans rfl⟩ (fun hHeld => ?_)
 clear hK K
 refine nm_ ?_
 refine on_ 8 15 9 511 (fun K hK => ?_)
 refine goes_ Try.func113 (by kernel_rfl) rfl #[.slice Ap P.length cp, .int .i64 (ws.length : Int), .func (.func 164) #[] #[.pointer (some ⟨gb2, 0, none⟩), .pointer (some ⟨gb5, 0, none⟩)]] (by rfl) rfl rfl (by first | rfl | (simp only [map_toArray, map_cons, map_nil]; try rfl)) ?_
 refine (A2.out gb2 gb5 w3 _ Ap cp v5 HB3.out B3.out ST.out PL.out).mono ?_
 rintro e_ w11 ⟨rfl, v11, hst, hfr⟩
 refine ⟨_, rfl, ?_⟩
 have n0_ := ak_ hst; have n1_ := ak_ ((hfr.at_ (blk_lt BK2.out) (fun e_ => by have := ST.out.ge; have := blk_lt B3.out; omega) (fun e_ => by have := Kd.S_base ST.out.row _ e_.symm; have := blk_lt B3.out; omega)).trans BK2.out); have n2_ := ak_ ((hfr.at_ (blk_lt BK3.out) (fun e_ => by have := ST.out.ge; have := HL3.out; omega) (fun e_ => by have := Kd.S_base ST.out.row _ e_.symm; have := HL3.out; omega)).trans BK3.out); clear ST BK2 BK3 hst hfr; have ST := n0_; have BK2 := n1_; have BK3 := n2_; clear n0_ n1_ n2_
 refine hK.out _ _ ⟨(blk_cell BK3.out 0).trans rfl, (blk_cell BK3.out 1).trans rfl, (blk_cell BK2.out 0).trans rfl⟩ (fun hHeld => ?_)
 clear hK K
 refine nm_ ?_
 refine done_ (done_of HT_.out (by kernel_rfl)) ?_
 have hy5 := (blk_cell ST.out.out 0)
 simp at hy5
 go_wp2
 first | go_ret | go_ret2
 exact ⟨_, rfl, Kd.S_lower (Kd.S_below ST.out.row be_) (bz_ HB3.out), below_then HB3.out HB3.out.size (ST.out.up be_).bel⟩
structure REdge where
 f0 : Int
 f1 : Int
 A : Option Addr
 n : Nat
 c : Nat
def REdge.enc (r : REdge) : List Value := [.int .i64 r.f0, .int .i64 r.f1, .slice r.A r.n r.c]
def zRE : REdge := ⟨0, 0, none, 0, 0⟩
def kre : Kd REdge := Kd.iso (Kd.raw 3) REdge.enc
theorem kre_M (W : World) (base : Nat) (ok : Nat → Prop) (r : REdge) : kre.M W base ok r [.int .i64 r.f0, .int .i64 r.f1, .slice r.A r.n r.c] := ⟨rfl, rfl, by
 intro u hu
 simp only [List.mem_cons, List.not_mem_nil, or_false] at hu
 rcases hu with rfl | rfl | rfl <;> rfl⟩
theorem kre_get {W : World} {base g n cap : Nat} {ok : Nat → Prop} {res : List REdge} (h : kre.R 110 W base ok (.slice (some ⟨g, 0, none⟩) n cap) res) (i : Nat) (hi : i < res.length) :
  W.cell? ⟨g, i * 3, none⟩ = some (.int .i64 res[i].f0) ∧ W.cell? ⟨g, i * 3 + 1, none⟩ = some (.int .i64 res[i].f1) ∧ W.cell? ⟨g, i * 3 + 2, none⟩ = some (.slice res[i].A res[i].n res[i].c) := by
 obtain ⟨ad, c, e, -, hK, hcell⟩ := Kd.C_get (Kd.R_reads' h).2.2 zRE (i : Int) (by omega) (by omega)
 obtain rfl := Option.some.inj e
 rw [Int.toNat_natCast, List.getD_eq_getElem?_getD, List.getElem?_eq_getElem hi] at hK
 obtain rfl := hK.1
 have hsz : kre.sz = 3 := rfl
 refine ⟨?_, ?_, ?_⟩
 ·have h_ := hcell 0 _ rfl
  rw [add_at, hsz, Nat.zero_add, Nat.add_zero, Int.toNat_natCast] at h_; exact h_
 ·have h_ := hcell 1 _ rfl
  rw [add_at, hsz, Nat.zero_add, Int.toNat_natCast] at h_; exact h_
 ·have h_ := hcell 2 _ rfl
  rw [add_at, hsz, Nat.zero_add, Int.toNat_natCast] at h_; exact h_
theorem kre_cc {W : World} {base g n cap : Nat} {ok : Nat → Prop} {res : List REdge} (h : kre.R 110 W base ok (.slice (some ⟨g, 0, none⟩) n cap) res) (i : Nat) (hi : i < res.length) :
  ∃ o : REdge, ∀ j u, ([.int .i64 o.f0, .int .i64 o.f1, .slice o.A o.n o.c] : List Value)[j]? = some u → W.cell? ⟨g, (i : Int).toNat * kre.sz + j, none⟩ = some u := by
 obtain ⟨h0, h1, h2⟩ := kre_get h i hi
 refine ⟨res[i], fun j u hu => ?_⟩
 have e : (i : Int).toNat * kre.sz = i * 3 := rfl
 rw [e]
 rcases j with _ | _ | _ | j
 ·obtain rfl := Option.some.inj hu; exact h0
 ·obtain rfl := Option.some.inj hu; exact h1
 ·obtain rfl := Option.some.inj hu; exact h2
 ·simp at hu
theorem gr_below {w W w' : World} {row : Option Nat} (h : w.grownBy W row) (hb : Below W.heap.size W w') : w.grownBy w' row :=
 ⟨hb.os.trans h.os, hb.tape.trans h.tape, hb.output.trans h.output, Nat.le_trans h.size hb.size, fun k hk hn => (hb.block k (Nat.lt_of_lt_of_le hk h.size)).trans (h.block k hk hn)⟩
theorem gr_gr {w W w' : World} {row : Option Nat} (h : w.grownBy W row) (hb : W.grownBy w' row) : w.grownBy w' row :=
 ⟨hb.os.trans h.os, hb.tape.trans h.tape, hb.output.trans h.output, Nat.le_trans h.size hb.size, fun k hk hn => (hb.block k (Nat.lt_of_lt_of_le hk h.size) hn).trans (h.block k hk hn)⟩
def ixFrom (P : Int → Int → Bool) (i : Int) : List REdge → Int
 | [] => -1
 | r :: rs => if P r.f0 r.f1 = true then i else ixFrom P (i + 1) rs
theorem ix_spec (P : Int → Int → Bool) : ∀ (rs : List REdge) (i : Nat), (ixFrom P (i : Int) rs = -1 ∧ rs.filter (fun r => !P r.f0 r.f1) = rs) ∨ ∃ k, k < rs.length ∧ ixFrom P (i : Int) rs = ((i + k : Nat) : Int) ∧ (rs.take k).filter (fun r => !P r.f0 r.f1) = rs.take k ∧ (rs.take (k + 1)).filter (fun r => !P r.f0 r.f1) = rs.take k
 | [], _ => .inl ⟨rfl, rfl⟩
 | r :: rs, i => by
  by_cases h : P r.f0 r.f1 = true
  ·exact .inr ⟨0, by simp, by simp [ixFrom, h], rfl, by simp [h]⟩
  ·have hf : P r.f0 r.f1 = false := by simpa using h
   rcases ix_spec P rs (i + 1) with ⟨e, ha⟩ | ⟨k, hk, e, ha, hb⟩
   ·refine .inl ⟨?_, by rw [List.filter_cons, hf, ha]; rfl⟩
    show (if P r.f0 r.f1 = true then (i : Int) else ixFrom P ((i : Int) + 1) rs) = -1
    rw [if_neg h]; exact e
   ·refine .inr ⟨k + 1, by simpa using hk, ?_, ?_, ?_⟩
    ·show (if P r.f0 r.f1 = true then (i : Int) else ixFrom P ((i : Int) + 1) rs) = _
     rw [if_neg h, show ((i : Int) + 1) = ((i + 1 : Nat) : Int) from rfl, e]; congr 1; omega
    ·rw [List.take_succ_cons, List.filter_cons, hf, ha]; rfl
    ·rw [List.take_succ_cons, List.filter_cons, hf, hb]; rfl
def REAsk (pn : Nat) (pb : Array Value) (P : Int → Int → Bool) (ok : REdge → Prop) (S : World → Prop) : Prop :=
 ∀ (W : World) (r : REdge), S W → ok r → Calls Try.prog pn (#[.agg #[.int .i64 r.f0, .int .i64 r.f1, .slice r.A r.n r.c]] ++ pb) W fun e w' => e = .returned (.bool (P r.f0 r.f1)) ∧ Below W.heap.size W w'
theorem impl_edge_int_169.calls_re (pn : Nat) (pb : Array Value) (P : Int → Int → Bool) (ok : REdge → Prop) (S : World → Prop) (ep : ∀ args w, (callFunc pn args).run Try.prog w = .ok (.enter pn args) w) (hp : REAsk pn pb P ok S) (w : World) (base : Nat) (okr : Nat → Prop) (v : Value) (res : List REdge)
  (hv : kre.R 110 w base okr v res) (hl : res.length < 1000000) (hok : ∀ r ∈ res, ok r) (hS : ∀ W, Below w.heap.size w W → S W) :
  Calls Try.prog 169 #[v, .func (.func pn) #[] pb] w fun e w' => e = .returned (.int .i64 (ixFrom P 0 res)) ∧ Below w.heap.size w w' := by
 have hu := Try.underlying110
 obtain ⟨A, c, rfl⟩ := Kd.R_slice hv
 have HR := ak_ hv
 have HL := ak_ hl
 have HOK := ak_ hok
 have HS := ak_ hS
 have HP := ak_ hp
 clear hv hl hok hS hp
 go_enter Try.func169, Try.ntmps169
 go_wp2
 go_loopg [5, 8] res.length (fun gg _ s8 wr => ∃ kk : Nat, kk ≤ res.length ∧ res.length - kk ≤ gg ∧ s8 = .int .i64 (kk : Int) ∧ Aside0 (ixFrom P (kk : Int) (res.drop kk) = ixFrom P 0 res) ∧ Aside0 (kre.R 110 wr base okr (.slice A res.length c) res) ∧ Aside0 (Below w.heap.size w wr))
 case atStart => exact ⟨0, Nat.zero_le _, by omega, rfl, ⟨by rw [List.drop_zero]; rfl⟩, ⟨Kd.R_below HR.out be_⟩, ⟨be_⟩⟩
 case round =>
  clear HR
  obtain ⟨kk, hkk, hg, rfl, H, HR, HB⟩ := hrel
  by_cases hlt : kk < res.length
  ·have q1 : decide ((kk : Int) < (res.length : Int)) = true := decide_eq_true (by omega)
   have q1n : decide (kk < res.length) = true := decide_eq_true hlt
   have q0 : ((0 : Int) ≤ (kk : Int)) = True := eq_true (by omega)
   have q1p : ((kk : Int) < (res.length : Int)) = True := eq_true (by omega)
   obtain ⟨g, cap, ev, -, -, -⟩ := Kd.R_form HR.out (by omega)
   injection ev with eA _ ec
   subst eA
   subst ec
   obtain ⟨hx0, hx1, hx2⟩ := kre_get HR.out kk hlt
   have h := H.out
   rw [List.drop_eq_getElem_cons hlt] at h
   obtain ⟨r, hr⟩ : ∃ r, r = res[kk] := ⟨_, rfl⟩
   rw [← hr] at hx0 hx1 hx2 h
   have HOKr := ak_ (HOK.out r (by rw [hr]; exact List.getElem_mem hlt))
   have hw : IntKind.i64.wrap ((kk : Int) + 1) = ((kk + 1 : Nat) : Int) := by have := HL.out; rw [IntWalk.i64_in _ ⟨by omega, by omega⟩]; omega
   have HG := ak_ (And.intro hg hlt)
   simp only [ixFrom] at h
   clear hr H hkk hg hlt
   cases hP : P r.f0 r.f1
   ·rw [hP] at h
    have H := ak_ h
    clear h
    go_wp2_with (go_at_fn pn; refine (HP.out _ r (HS.out _ (bb_ HB.out)) HOKr.out).mono ?_; rw [hP]; rintro e w16 ⟨rfl, hb⟩; have n0_ := ak_ (Kd.R_below (Kd.pR HR.out) hb); have n1_ := ak_ (bs_ (bb_ HB.out) hb); clear HR HB hb; have HR := n0_; have HB := n1_; clear n0_ n1_)
    go_roundg (res.length - (kk + 1))
    case measure => have := HG.out; omega
    case rel => exact ⟨kk + 1, by have := HG.out; omega, Nat.le_refl _, (by first | rfl | (simp; done)), ⟨by have h_ := H.out; rw [if_neg (by decide)] at h_; exact h_⟩, ⟨Kd.R_below HR.out be_⟩, ⟨(bb_ HB.out)⟩⟩
   ·rw [hP, if_pos rfl] at h
    have H := ak_ h
    clear h
    go_wp2_with (go_at_fn pn; refine (HP.out _ r (HS.out _ (bb_ HB.out)) HOKr.out).mono ?_; rw [hP]; rintro e w16 ⟨rfl, hb⟩; have n0_ := ak_ (Kd.R_below (Kd.pR HR.out) hb); have n1_ := ak_ (bs_ (bb_ HB.out) hb); clear HR HB hb; have HR := n0_; have HB := n1_; clear n0_ n1_)
    first | go_ret | go_ret2
    exact ⟨by rw [← H.out]; rfl, (bb_ HB.out)⟩
  ·have q1 : decide ((kk : Int) < (res.length : Int)) = false := decide_eq_false (by omega)
   have q1n : decide (kk < res.length) = false := decide_eq_false hlt
   have h := H.out
   rw [List.drop_of_length_le (by omega)] at h
   have H2 := ak_ h
   clear h H hkk hg hlt
   go_wp2
   first | go_ret | go_ret2
   exact ⟨by rw [← H2.out]; rfl, (bb_ HB.out)⟩
structure DelInv (keep : REdge → Bool) (res cur : List REdge) (i j : Nat) : Prop where
 lt : i < j
 le : j ≤ res.length
 len : cur.length = res.length
 low : cur.take i = (res.take j).filter keep
 high : cur.drop j = res.drop j
theorem DelInv.at_ {keep : REdge → Bool} {res cur : List REdge} {i j : Nat} (h : DelInv keep res cur i j) (hj : j < res.length) : cur[j]'(by have := h.len; omega) = res[j] := by
 have hc : j < cur.length := by have := h.len; omega
 have e := h.high
 rw [List.drop_eq_getElem_cons hc, List.drop_eq_getElem_cons hj] at e
 exact (List.cons.inj e).1
theorem DelInv.skip {keep : REdge → Bool} {res cur : List REdge} {i j : Nat} (h : DelInv keep res cur i j) (hj : j < res.length) (hk : keep res[j] = false) : DelInv keep res cur i (j + 1) where
 lt := Nat.lt_succ_of_lt h.lt
 le := hj
 len := h.len
 low := by rw [List.take_succ_eq_append_getElem hj, List.filter_append, h.low, List.filter_cons, hk]; simp
 high := by rw [← List.drop_drop, h.high, List.drop_drop]
theorem DelInv.keep_ {keep : REdge → Bool} {res cur : List REdge} {i j : Nat} (h : DelInv keep res cur i j) (hj : j < res.length) (hk : keep res[j] = true) : DelInv keep res (cur.set i res[j]) (i + 1) (j + 1) where
 lt := Nat.succ_lt_succ h.lt
 le := hj
 len := by rw [List.length_set]; exact h.len
 low := by
  have hi : i < cur.length := by have := h.len; have := h.lt; omega
  rw [List.take_succ_eq_append_getElem (by rw [List.length_set]; exact hi), List.getElem_set_self, List.take_set_of_le (Nat.le_refl i), h.low, List.take_succ_eq_append_getElem hj, List.filter_append, List.filter_cons, hk]
  rfl
 high := by rw [List.drop_set_of_lt (by have := h.lt; omega), ← List.drop_drop, h.high, List.drop_drop]
theorem impl_edge_int_146.calls (pn : Nat) (pb : Array Value) (P : Int → Int → Bool) (ok : REdge → Prop) (S : World → Prop) (ep : ∀ args w, (callFunc pn args).run Try.prog w = .ok (.enter pn args) w) (hp : REAsk pn pb P ok S) (w w0 : World) (okr : Nat → Prop) (v : Value) (res : List REdge)
  (hb0 : Below w.heap.size w w0) (hv : kre.R 110 w0 w.heap.size okr v res) (hl : res.length < 1000000) (hok : ∀ r ∈ res, ok r) (hS : ∀ W, Below w.heap.size w W → S W) :
  Calls Try.prog 146 #[v, .func (.func pn) #[] pb] w0 fun e w' => ∃ v' : Value, e = .returned v' ∧ kre.R 110 w' w.heap.size okr v' (res.filter fun r => !P r.f0 r.f1) ∧ v'.ownBlock = v.ownBlock ∧ w0.grownBy w' v.ownBlock ∧ Below w.heap.size w w' := by
 have hu := Try.underlying110
 have HIX := ak_ fun (W : World) (h1 : Below w0.heap.size w0 W) => impl_edge_int_169.calls_re pn pb P ok S ep hp W w.heap.size okr v res (Kd.R_below hv h1) hl hok (fun W' h2 => hS W' (below_then hb0 hb0.size (below_then h1 h1.size h2)))
 have HL := ak_ hl
 have HOK := ak_ hok
 have HS := ak_ hS
 have HP := ak_ hp
 have HB := ak_ hb0
 have HR := ak_ hv
 have HGR := ak_ (World.grownBy.refl w0 v.ownBlock)
 have HBX := ak_ (Below.refl w0.heap.size w0)
 rcases ix_spec P res 0 with ⟨e1, hall⟩ | ⟨k0, hk0, e1, ha, hb⟩
 ·have e2 : ixFrom P 0 res = -1 := e1
  have HF := ak_ hall
  rw [e2] at HIX
  clear e1 e2 hall hl hok hS hp hb0 hv
  go_enter Try.func146, Try.ntmps146
  go_wp2_with (go_at_call 169; refine (HIX.out _ be_).mono ?_; rintro e w10 ⟨rfl, hb⟩; have n0_ := ak_ (Kd.R_below (Kd.pR HR.out) hb); have n1_ := ak_ (bs_ (bb_ HB.out) hb); have n2_ := ak_ (gr_below HGR.out hb); clear HR HB HGR hb HIX; have HR := n0_; have HB := n1_; have HGR := n2_; clear n0_ n1_ n2_)
  first | go_ret | go_ret2
  exact ⟨v, rfl, by rw [HF.out]; exact Kd.R_below HR.out be_, rfl, HGR.out, (bb_ HB.out)⟩
 ·obtain ⟨g, cap, rfl, -, -, -⟩ := Kd.R_form hv (by omega)
  have e2 : ixFrom P 0 res = (k0 : Int) := by have e3 := e1; simp only [Nat.zero_add] at e3; exact e3
  rw [e2] at HIX
  have hne1 : ((k0 : Int) == -1) = false := beq_eq_false_iff_ne.2 (by omega)
  have HI := ak_ (show DelInv (fun r => !P r.f0 r.f1) res res k0 (k0 + 1) from ⟨Nat.lt_succ_self _, hk0, rfl, hb.symm, rfl⟩)
  have hw4 : IntKind.i64.wrap ((k0 : Int) + 1) = ((k0 + 1 : Nat) : Int) := by rw [IntWalk.i64_in _ ⟨by omega, by omega⟩]; omega
  clear e1 e2 ha hb hl hok hS hp hb0 hv hk0
  go_enter Try.func146, Try.ntmps146
  go_wp2_with (go_at_call 169; refine (HIX.out _ be_).mono ?_; rintro e w10 ⟨rfl, hb⟩; have n0_ := ak_ (Kd.R_below (Kd.pR HR.out) hb); have n1_ := ak_ (bs_ (bb_ HB.out) hb); have n2_ := ak_ (gr_below HGR.out hb); clear HR HB HGR hb HIX; have HR := n0_; have HB := n1_; have HGR := n2_; clear n0_ n1_ n2_)
  go_loopg [5, 6] res.length (fun gg v5 v6 wr => ∃ (i j : Nat) (cur : List REdge), v5 = .int .i64 (i : Int) ∧ v6 = .int .i64 (j : Int) ∧ res.length - j ≤ gg ∧ Aside0 (DelInv (fun r => !P r.f0 r.f1) res cur i j) ∧ Aside0 (kre.R 110 wr w.heap.size okr (.slice (some ⟨g, 0, none⟩) res.length cap) cur) ∧ Aside0 (w0.grownBy wr (some g)) ∧ Aside0 (Below w.heap.size w wr))
  case atStart => exact ⟨k0, k0 + 1, res, rfl, (by first | rfl | (simp; done)), by omega, HI, ⟨Kd.R_below HR.out be_⟩, ⟨HGR.out⟩, ⟨(bb_ HB.out)⟩⟩
  case round =>
   clear HI HR HGR HB HBX hw4 hne1
   obtain ⟨i, j, cur, rfl, rfl, hg, HI, HR, HGR, HB⟩ := hrel
   have i0 : ((0 : Int) ≤ (i : Int)) = True := eq_true (by omega)
   have j0 : ((0 : Int) ≤ (j : Int)) = True := eq_true (by omega)
   have i1 : ((i : Int) < (res.length : Int)) = True := eq_true (by have := HI.out.lt; have := HI.out.le; omega)
   have hwi : IntKind.i64.wrap ((i : Int) + 1) = ((i + 1 : Nat) : Int) := by have := HI.out.lt; have := HI.out.le; have := HL.out; rw [IntWalk.i64_in _ ⟨by omega, by omega⟩]; omega
   have hwj : IntKind.i64.wrap ((j : Int) + 1) = ((j + 1 : Nat) : Int) := by have := HI.out.lt; have := HI.out.le; have := HL.out; rw [IntWalk.i64_in _ ⟨by omega, by omega⟩]; omega
   by_cases hlt : j < res.length
   ·have j1 : decide ((j : Int) < (res.length : Int)) = true := decide_eq_true (by omega)
    have j1n : decide (j < res.length) = true := decide_eq_true hlt
    have j1p : ((j : Int) < (res.length : Int)) = True := eq_true (by omega)
    obtain ⟨hx0, hx1, hx2⟩ := kre_get HR.out j (by have := HI.out.len; omega)
    obtain ⟨r, hr⟩ : ∃ r, r = res[j] := ⟨_, rfl⟩
    rw [HI.out.at_ hlt, ← hr] at hx0 hx1 hx2
    have HOKr := ak_ (HOK.out r (by rw [hr]; exact List.getElem_mem hlt))
    have HG := ak_ (And.intro hg hlt)
    have HIN := ak_ (And.intro (fun (h : P r.f0 r.f1 = true) => HI.out.skip hlt (by rw [← hr]; simp [h])) (fun (h : P r.f0 r.f1 = false) => (by have h_ := HI.out.keep_ hlt (by rw [← hr]; simp [h]); rw [← hr] at h_; exact h_ : DelInv (fun r => !P r.f0 r.f1) res (cur.set i r) (i + 1) (j + 1))))
    clear hg hlt hr
    go_upto_region 8 with (fail)
    obtain ⟨w7, hw7⟩ : ∃ W, W = wr.alloc (.cells #[.int .i64 r.f0, .int .i64 r.f1, .slice r.A r.n r.c] 110) := ⟨_, rfl⟩
    have hb : Below wr.heap.size wr w7 := (by rw [hw7]; exact ba_ (Below.refl _ _) _)
    have hbk : w7.heap[wr.heap.size]? = some (.cells #[.int .i64 r.f0, .int .i64 r.f1, .slice r.A r.n r.c] 110 (0, 0)) := (by rw [hw7]; exact blk_new wr _)
    rw [← hw7]
    clear hw7 hx0 hx1 hx2
    have n0_ := ak_ (Kd.R_below HR.out hb); have n1_ := ak_ (bs_ HB.out hb); have n2_ := ak_ (gr_below HGR.out hb); clear HR HB HGR hb; have HR := n0_; have HB := n1_; have HGR := n2_; clear n0_ n1_ n2_
    obtain ⟨gb7, hg7⟩ : ∃ g, g = wr.heap.size := ⟨_, rfl⟩
    rw [← hg7] at hbk ⊢
    have BK7 := ak_ hbk
    clear hbk hg7
    have hz0 := (blk_cell BK7.out 0)
    have hz1 := (blk_cell BK7.out 1)
    have hz2 := (blk_cell BK7.out 2)
    simp at hz0
    simp at hz1
    simp at hz2
    cases hP : P r.f0 r.f1
    ·have HI2 := ak_ (HIN.out.2 hP)
     have HII := ak_ (And.intro HI.out.lt HI.out.le)
     clear HIN
     go_wp2_with (first | (go_at_fn pn; refine (HP.out _ r (HS.out _ (bb_ HB.out)) HOKr.out).mono ?_; rw [hP]; rintro e w28 ⟨rfl, hb⟩; have n0_ := ak_ (Kd.R_below HR.out hb); have n1_ := ak_ (bs_ HB.out hb); have n2_ := ak_ (gr_below HGR.out hb); have n3_ := ak_ (blk_below BK7.out hb); clear HR HB HGR BK7 hb; have HR := n0_; have HB := n1_; have HGR := n2_; have BK7 := n3_; clear n0_ n1_ n2_ n3_; have hz0 := (blk_cell BK7.out 0); have hz1 := (blk_cell BK7.out 1); have hz2 := (blk_cell BK7.out 2); simp at hz0; simp at hz1; simp at hz2) | ((with_reducible refine gate_store (t := 110) (p := 33) rfl ?_); go_loud (obtain ⟨o, hcc⟩ := kre_cc HR.out i (by have := HI.out.len; have := HII.out; omega); refine Kd.R_store kre (w0 := w) (g := g) (n := res.length) (cap := cap) (o' := i * 3) w.heap.size rfl rfl 110 (.tmp 33) (.tmp 32) rfl 110 (i : Int) 0 cur r (.agg #[.int .i64 r.f0, .int .i64 r.f1, .slice r.A r.n r.c]) [.int .i64 r.f0, .int .i64 r.f1, .slice r.A r.n r.c] [.int .i64 o.f0, .int .i64 o.f1, .slice o.A o.n o.c] okr (fun _ => False) ?sa ?so ?sx ?su ?st ?s1 HR.out ?s0 ?si rfl hcc ?sj ?sm (fun _ hk => hk.elim) HB.out ?_; (case sa => rfl); (case so => rfl); (case sx => rfl); (case su => rfl); (case st => kernel_rfl); (case s1 => exact (kre_M wr w.heap.size (fun _ => True) r).2.2); (case s0 => omega); (case si => have := HII.out; omega); (case sj => exact Nat.le_refl 3); (case sm => exact kre_M _ _ _ r); intro w33 hr hb hg; have n0_ := ak_ hr; have n1_ := ak_ hb; have n2_ := ak_ (gr_gr HGR.out hg); clear HR HB HGR hr hb hg hcc; have HR := n0_; have HB := n1_; have HGR := n2_; clear n0_ n1_ n2_)))
     go_roundg (res.length - (j + 1))
     case measure => have := HG.out; omega
     case rel => exact ⟨i + 1, j + 1, cur.set i r, (by first | rfl | (simp; done)), (by first | rfl | (simp; done)), Nat.le_refl _, HI2, ⟨Kd.R_below HR.out be_⟩, ⟨HGR.out⟩, ⟨(bb_ HB.out)⟩⟩
    ·have HI2 := ak_ (HIN.out.1 hP)
     clear HIN
     go_wp2_with (go_at_fn pn; refine (HP.out _ r (HS.out _ (bb_ HB.out)) HOKr.out).mono ?_; rw [hP]; rintro e w28 ⟨rfl, hb⟩; have n0_ := ak_ (Kd.R_below HR.out hb); have n1_ := ak_ (bs_ HB.out hb); have n2_ := ak_ (gr_below HGR.out hb); have n3_ := ak_ (blk_below BK7.out hb); clear HR HB HGR BK7 hb; have HR := n0_; have HB := n1_; have HGR := n2_; have BK7 := n3_; clear n0_ n1_ n2_ n3_; have hz0 := (blk_cell BK7.out 0); have hz1 := (blk_cell BK7.out 1); have hz2 := (blk_cell BK7.out 2); simp at hz0; simp at hz1; simp at hz2)
     go_roundg (res.length - (j + 1))
     case measure => have := HG.out; omega
     case rel => exact ⟨i, j + 1, cur, (by first | rfl | (simp; done)), (by first | rfl | (simp; done)), Nat.le_refl _, HI2, ⟨Kd.R_below HR.out be_⟩, ⟨HGR.out⟩, ⟨(bb_ HB.out)⟩⟩
   ·have j1 : decide ((j : Int) < (res.length : Int)) = false := decide_eq_false (by omega)
    have j1n : decide (j < res.length) = false := decide_eq_false hlt
    have hlow := HI.out.low
    have hje : j = res.length := by have := HI.out.le; omega
    rw [hje, List.take_length] at hlow
    have HLOW := ak_ hlow
    have HT := ak_ (Kd.R_take HR.out (m := i) (by have := HI.out.len; have := HI.out.lt; have := HI.out.le; omega))
    obtain ⟨hn1, hn2, -⟩ := Kd.R_reads' HR.out
    have hq1 : i ≤ res.length := by have := HI.out.lt; have := HI.out.le; omega
    have hq2 : (cap = i) = False := by have := HI.out.lt; have := HI.out.le; simp; omega
    have hq3 : res.length ≤ cap := hn2
    have HII := ak_ (And.intro HI.out.lt (And.intro HI.out.le hn2))
    clear hlow hje hn1 hn2 hlt hg HR HI
    go_wp2_with (((with_reducible refine gate_builtin (b := .clear) (xs := #[.tmp 38]) rfl ?_); refine Kd.R_clear kre (w0 := w) w.heap.size ?hgd (.tmp 38) 130 110 ?ho Try.underlying130 (.agg #[(.int .i64 0), (.int .i64 0), (.slice none 0 0)]) ?hz rfl ?hz1 ?hd (g := g) (n := i) (m := res.length - i) (c2 := ?c2) (off := i * 3) ?hs rfl HT.out ?hm ?hm0 HB.out ?hbase ?_; (case hgd => rfl); (case ho => rfl); (case hz => rfl); (case hz1 => decide); (case hd => decide); (case hs => rfl); (case hm => (have hx_ := HII.out); omega); (case hm0 => (have hx_ := HII.out); omega); (case hbase => exact HB.out.size); intro w38 ho2 hb2 hg2; have n0_ := ak_ ho2; have n1_ := ak_ hb2; have n2_ := ak_ (gr_gr HGR.out hg2); clear HT HB HGR ho2 hb2 hg2; have HT := n0_; have HB := n1_; have HGR := n2_; clear n0_ n1_ n2_))
    first | go_ret | go_ret2
    exact ⟨_, rfl, by rw [← HLOW.out]; exact Kd.R_below HT.out be_, rfl, HGR.out, (bb_ HB.out)⟩
def leadR (W : World) (base : Nat) (okl : Nat → Prop) (f : Nat → Nat) (z : S110 × Nat) (r : REdge) : Prop := r.f0 = z.1.f0 ∧ r.f1 = z.1.f1 ∧ (Kd.int .i64).R 3 W base (fun k => okl k ∧ f k = z.2) (.slice r.A r.n r.c) z.1.f2
def LeadT (W : World) (base : Nat) (okl : Nat → Prop) (f : Nat → Nat) : List (S110 × Nat) → List REdge → Prop
 | [], [] => True
 | z :: zs, r :: rs => leadR W base okl f z r ∧ LeadT W base okl f zs rs
 | _, _ => False
section
variable {W W' : World} {base : Nat} {okl : Nat → Prop} {f : Nat → Nat}
theorem LeadT.len : ∀ {zs : List (S110 × Nat)} {rs : List REdge}, LeadT W base okl f zs rs → zs.length = rs.length
 | [], [], _ => rfl
 | _ :: _, _ :: _, h => congrArg (· + 1) (LeadT.len h.2)
 | [], _ :: _, h => h.elim
 | _ :: _, [], h => h.elim
theorem LeadT.at_ : ∀ {zs : List (S110 × Nat)} {rs : List REdge}, LeadT W base okl f zs rs → ∀ (j : Nat) (z : S110 × Nat) (r : REdge), zs[j]? = some z → rs[j]? = some r → leadR W base okl f z r
 | [], _, _, _, _, _, h, _ => by simp at h
 | _ :: _, [], h, _, _, _, _, _ => h.elim
 | _ :: _, _ :: _, h, 0, z, r, hz, hr => by obtain rfl := Option.some.inj hz; obtain rfl := Option.some.inj hr; exact h.1
 | _ :: _, _ :: _, h, j + 1, z, r, hz, hr => LeadT.at_ h.2 j z r hz hr
theorem LeadT.of : ∀ {zs : List (S110 × Nat)} {rs : List REdge}, zs.length = rs.length → (∀ (j : Nat) (z : S110 × Nat) (r : REdge), zs[j]? = some z → rs[j]? = some r → leadR W base okl f z r) → LeadT W base okl f zs rs
 | [], [], _, _ => trivial
 | _ :: _, _ :: _, hl, h => ⟨h 0 _ _ rfl rfl, LeadT.of (Nat.succ.inj hl) (fun j z r hz hr => h (j + 1) z r hz hr)⟩
 | [], _ :: _, hl, _ => by simp at hl
 | _ :: _, [], hl, _ => by simp at hl
theorem LeadT.move (hm : ∀ k, okl k → k < W.heap.size → W'.heap[k]? = W.heap[k]?) : ∀ {zs : List (S110 × Nat)} {rs : List REdge}, LeadT W base okl f zs rs → LeadT W' base okl f zs rs
 | [], [], _ => trivial
 | _ :: _, _ :: _, h => ⟨⟨h.1.1, h.1.2.1, Kd.R_step h.1.2.2 (fun k hk hl => hm k hk.1 hl)⟩, LeadT.move hm h.2⟩
 | [], _ :: _, h => h.elim
 | _ :: _, [], h => h.elim
theorem LeadT.filter (q : Int → Int → Bool) : ∀ {zs : List (S110 × Nat)} {rs : List REdge}, LeadT W base okl f zs rs → LeadT W base okl f (zs.filter fun z => q z.1.f0 z.1.f1) (rs.filter fun r => q r.f0 r.f1)
 | [], [], _ => trivial
 | z :: zs, r :: rs, h => by
  have ih := LeadT.filter q h.2
  rw [List.filter_cons, List.filter_cons, h.1.1, h.1.2.1]
  split
  ·exact ⟨h.1, ih⟩
  ·exact ih
 | [], _ :: _, h => h.elim
 | _ :: _, [], h => h.elim
theorem LeadT.all {p : Int → Int → Prop} : ∀ {zs : List (S110 × Nat)} {rs : List REdge}, LeadT W base okl f zs rs → (∀ z ∈ zs, p z.1.f0 z.1.f1) → ∀ r ∈ rs, p r.f0 r.f1
 | [], [], _, _ => by simp
 | z :: zs, r :: rs, h, hp => by
  intro r' hr
  rcases List.mem_cons.1 hr with rfl | hr
  ·rw [h.1.1, h.1.2.1]; exact hp z List.mem_cons_self
  ·exact LeadT.all h.2 (fun z hz => hp z (List.mem_cons_of_mem _ hz)) r' hr
 | [], _ :: _, h, _ => h.elim
 | _ :: _, [], h, _ => h.elim
end
theorem lead_list {α : Type} {p : Nat → α → Prop} : ∀ (n : Nat), (∀ i, i < n → ∃ x, p i x) → ∃ l : List α, l.length = n ∧ ∀ i x, l[i]? = some x → p i x
 | 0, _ => ⟨[], rfl, fun i x hx => by simp at hx⟩
 | n + 1, h => by
  obtain ⟨l, hl, hp⟩ := lead_list n (fun i hi => h i (Nat.lt_succ_of_lt hi))
  obtain ⟨x, hx⟩ := h n (Nat.lt_succ_self n)
  refine ⟨l ++ [x], by rw [List.length_append, hl]; rfl, fun i y hy => ?_⟩
  rcases Nat.lt_or_ge i l.length with hi | hi
  ·rw [List.getElem?_append_left hi] at hy
   exact hp i y hy
  ·have hi' := (List.getElem?_eq_some_iff.1 hy).1
   rw [List.length_append, List.length_singleton] at hi'
   have e : i = l.length := by omega
   subst e
   rw [List.getElem?_append_right (Nat.le_refl _), Nat.sub_self] at hy
   obtain rfl : x = y := by simpa using hy
   rw [hl]; exact hx
theorem lead_open {W : World} {base : Nat} {ok : Nat → Prop} {v : Value} {es : List S110} (h : Kd.S k110 110 W base ok v es) :
  ∃ f res, kre.R 110 W base (fun k => some k = v.ownBlock) v res ∧ LeadT W base (fun k => ok k ∧ some k ≠ v.ownBlock) f es.zipIdx res := by
 obtain ⟨f, hown, inner, ho, hl, hr⟩ := h
 obtain ⟨res, hres, hp⟩ := lead_list (p := fun i (r : REdge) => ∃ z, es.zipIdx[i]? = some z ∧ (inner.drop (i * 3)).take 3 = r.enc ∧ leadR W base (fun k => ok k ∧ some k ≠ v.ownBlock) f z r) es.zipIdx.length (fun i hi => by
  obtain ⟨z, hz⟩ : ∃ z, es.zipIdx[i]? = some z := ⟨_, List.getElem?_eq_getElem hi⟩
  have hM := hr i z hz
  obtain ⟨v2, hc, hR⟩ := k110_openM (show k110.M W base (fun k => (ok k ∧ some k ≠ v.ownBlock) ∧ f k = z.2) z.1 ((inner.drop (i * 3)).take 3) from hM)
  obtain ⟨A, c, rfl⟩ := Kd.R_slice hR
  exact ⟨⟨z.1.f0, z.1.f1, A, z.1.f2.length, c⟩, z, hz, hc, rfl, rfl, hR⟩)
 refine ⟨f, res, ⟨fun k hk => hk.symm, inner, by rw [hres]; exact ho, ?_, fun j r hj => ?_⟩, LeadT.of hres.symm (fun j z r hz hr => ?_)⟩
 ·rw [hres]; exact hl
 ·obtain ⟨z, hz, hc, -⟩ := hp j r hj
  have hc' : (inner.drop (j * kre.sz)).take kre.sz = r.enc := hc
  rw [hc']
  exact kre_M _ _ _ r
 ·obtain ⟨z', hz', -, hL⟩ := hp j r hr
  rw [hz] at hz'
  obtain rfl := Option.some.inj hz'
  exact hL
theorem lead_shut {W : World} {base : Nat} {okr okl : Nat → Prop} {f : Nat → Nat} {v : Value} {zs : List (S110 × Nat)} {res : List REdge} (hR : kre.R 110 W base okr v res) (hL : LeadT W base okl f zs res) (hnd : (zs.map (·.2)).Nodup) (hne : ∀ k, okl k → some k ≠ v.ownBlock) :
  Kd.S k110 110 W base (fun _ => True) v (zs.map (·.1)) := by
 obtain ⟨hown, inner, ho, hl, hr⟩ := hR
 have hlen := hL.len
 refine ⟨fun k => (zs.map (·.2)).idxOf (f k), fun _ _ => trivial, inner, by rw [List.length_zipIdx, List.length_map, hlen]; exact ho, by rw [List.length_zipIdx, List.length_map, hlen]; exact hl, fun j z hz => ?_⟩
 rw [List.getElem?_zipIdx, Nat.zero_add] at hz
 obtain ⟨x, hx, rfl⟩ := Option.map_eq_some_iff.1 hz
 rw [List.getElem?_map] at hx
 obtain ⟨z0, hz0, rfl⟩ := Option.map_eq_some_iff.1 hx
 have hj : j < zs.length := (List.getElem?_eq_some_iff.1 hz0).1
 obtain ⟨r, hr0⟩ : ∃ r, res[j]? = some r := ⟨_, List.getElem?_eq_getElem (by rw [← hlen]; exact hj)⟩
 have hc := (hr j r hr0).1
 obtain ⟨e0, e1, hR2⟩ := hL.at_ j z0 r hz0 hr0
 have hM := k110_mkM W base (fun k => okl k ∧ f k = z0.2) z0.1 hR2
 show k110.M W base (fun k => (True ∧ some k ≠ v.ownBlock) ∧ (zs.map (·.2)).idxOf (f k) = j) z0.1 ((inner.drop (j * 3)).take 3)
 have hc' : (inner.drop (j * 3)).take 3 = [.int .i64 z0.1.f0, .int .i64 z0.1.f1, .slice r.A r.n r.c] := by rw [← e0, ← e1]; exact hc
 rw [hc']
 refine Kd.M_mono _ (fun k hk => ⟨⟨trivial, hne k hk.1⟩, ?_⟩) hM
 rw [hk.2]
 have hjm : j < (zs.map (·.2)).length := by rw [List.length_map]; exact hj
 have e2 : z0.2 = (zs.map (·.2))[j] := by rw [List.getElem_map]; congr 1; rw [List.getElem?_eq_getElem hj] at hz0; exact (Option.some.inj hz0).symm
 rw [e2]
 exact hnd.idxOf_getElem j hjm
def offWay (dist : List Int) (s t c : Int) : Bool := decide (rdOf 0 dist t < 0) || (wrap64 (rdOf 0 dist t + c) != rdOf 0 dist s)
theorem impl_graph_int_best.calls_1 (B1 B2 : Nat) (Ad : Option Addr) (cd : Nat) (dist : List Int) (s : Int) (r : REdge) (W : World) (h1 : W.cell? ⟨B1, 0, none⟩ = some (.slice Ad dist.length cd)) (h2 : W.cell? ⟨B2, 0, none⟩ = some (.int .i64 s)) (hr : (Kd.int .i64).C W Ad dist.length dist) (hs : 0 ≤ s ∧ s < (dist.length : Int)) (ht : 0 ≤ r.f0 ∧ r.f0 < (dist.length : Int)) :
  Calls Try.prog 147 #[.agg #[.int .i64 r.f0, .int .i64 r.f1, .slice r.A r.n r.c], .pointer (some ⟨B1, 0, none⟩), .pointer (some ⟨B2, 0, none⟩)] W fun e w' => e = .returned (.bool (offWay dist s r.f0 r.f1)) ∧ Below W.heap.size W w' := by
 have hu := Try.underlying110
 obtain ⟨ad, rfl, hxt⟩ := Kd.at_int hr r.f0 ht.1 ht.2
 obtain ⟨ad', e', hxs⟩ := Kd.at_int hr s hs.1 hs.2
 cases e'
 have t0 := eq_true ht.1
 have t1 := eq_true ht.2
 have s0 := eq_true hs.1
 have s1 := eq_true hs.2
 have HB := ak_ (Below.refl W.heap.size W)
 have hO : offWay dist s r.f0 r.f1 = (decide (rd dist r.f0 < 0) || (wrap64 (rd dist r.f0 + r.f1) != rd dist s)) := rfl
 rw [hO]
 clear hO hr hs ht
 generalize rd dist r.f0 = dt at hxt ⊢
 generalize rd dist s = ds at hxs ⊢
 by_cases hv : dt < 0
 ·have v1 : decide (dt < 0) = true := decide_eq_true hv
  rw [v1]
  clear hv
  go_enter Try.func147, Try.ntmps147
  go_wp2_with (first | ((with_reducible refine gate_dst (N := 3) rfl ?_); refine bx_ 3 #[.int .i64 r.f0, .int .i64 r.f1, .slice r.A r.n r.c] 110 ?_; intro gb3 hg w3 hbox hb; clear hg; have n0_ := pw_cell_below hb h1; have n1_ := pw_cell_below hb h2; have n2_ := pw_cell_below hb hxt; have n3_ := pw_cell_below hb hxs; have n4_ := ak_ hb; clear h1 h2 hxt hxs HB hb; have h1 := n0_; have h2 := n1_; have hxt := n2_; have hxs := n3_; have HB := n4_; clear n0_ n1_ n2_ n3_ n4_; have hz0 := blk_cell hbox 0; have hz1 := blk_cell hbox 1; simp at hz0; simp at hz1; clear hbox))
  repeat (go_quiet (first | ((with_reducible refine gate_dst (N := 3) rfl ?_); refine bx_ 3 #[.int .i64 r.f0, .int .i64 r.f1, .slice r.A r.n r.c] 110 ?_; intro gb3 hg w3 hbox hb; clear hg; have n0_ := pw_cell_below hb h1; have n1_ := pw_cell_below hb h2; have n2_ := pw_cell_below hb hxt; have n3_ := pw_cell_below hb hxs; have n4_ := ak_ hb; clear h1 h2 hxt hxs HB hb; have h1 := n0_; have h2 := n1_; have hxt := n2_; have hxs := n3_; have HB := n4_; clear n0_ n1_ n2_ n3_ n4_; have hz0 := blk_cell hbox 0; have hz1 := blk_cell hbox 1; simp at hz0; simp at hz1; clear hbox)))
  try go_wp2
  first | go_ret | go_ret2
  exact ⟨rfl, (bb_ HB.out)⟩
 ·have v1 : decide (dt < 0) = false := decide_eq_false hv
  rw [v1]
  clear hv
  go_enter Try.func147, Try.ntmps147
  go_wp2_with (first | ((with_reducible refine gate_dst (N := 3) rfl ?_); refine bx_ 3 #[.int .i64 r.f0, .int .i64 r.f1, .slice r.A r.n r.c] 110 ?_; intro gb3 hg w3 hbox hb; clear hg; have n0_ := pw_cell_below hb h1; have n1_ := pw_cell_below hb h2; have n2_ := pw_cell_below hb hxt; have n3_ := pw_cell_below hb hxs; have n4_ := ak_ hb; clear h1 h2 hxt hxs HB hb; have h1 := n0_; have h2 := n1_; have hxt := n2_; have hxs := n3_; have HB := n4_; clear n0_ n1_ n2_ n3_ n4_; have hz0 := blk_cell hbox 0; have hz1 := blk_cell hbox 1; simp at hz0; simp at hz1; clear hbox))
  repeat (go_quiet (first | ((with_reducible refine gate_dst (N := 3) rfl ?_); refine bx_ 3 #[.int .i64 r.f0, .int .i64 r.f1, .slice r.A r.n r.c] 110 ?_; intro gb3 hg w3 hbox hb; clear hg; have n0_ := pw_cell_below hb h1; have n1_ := pw_cell_below hb h2; have n2_ := pw_cell_below hb hxt; have n3_ := pw_cell_below hb hxs; have n4_ := ak_ hb; clear h1 h2 hxt hxs HB hb; have h1 := n0_; have h2 := n1_; have hxt := n2_; have hxs := n3_; have HB := n4_; clear n0_ n1_ n2_ n3_ n4_; have hz0 := blk_cell hbox 0; have hz1 := blk_cell hbox 1; simp at hz0; simp at hz1; clear hbox)))
  try go_wp2
  first | go_ret | go_ret2
  exact ⟨(by first | rfl | (simp; done)), (bb_ HB.out)⟩
def impl_graph_int_best.f (E : Int → List S110) (N : Int) (s : Int) (dist : List Int) : Option (List S110) :=
 if 0 ≤ s ∧ s < N ∧ (dist.length : Int) = N ∧ (E s).length < 1000000 then (if ((E s).all fun e => decide (0 ≤ e.f0) && decide (e.f0 < N)) = true then some ((E s).filter fun e => !offWay dist s e.f0 e.f1) else none) else none
theorem zip_filter {α : Type} (q : α → Bool) (l : List α) : (l.zipIdx.filter fun z => q z.1).map (·.1) = l.filter q := by
 rw [show (fun z : α × Nat => q z.1) = q ∘ Prod.fst from rfl, ← List.filter_map, List.zipIdx_map_fst]
theorem zip_nodup {α : Type} (q : α × Nat → Bool) (l : List α) : ((l.zipIdx.filter q).map (·.2)).Nodup := by
 have h1 : (l.zipIdx.map Prod.snd).Nodup := by rw [List.zipIdx_map_snd]; exact List.nodup_range'
 exact List.Nodup.sublist ((List.filter_sublist (p := q) (l := l.zipIdx)).map Prod.snd) h1
theorem impl_graph_int_best.calls (fo : Nat) (cb : Array Value) (N : Int) (E : Int → List S110) (w w0 : World) (ee : ∀ args w, (callFunc fo args).run Try.prog w = .ok (.enter fo args) w) (hE : GOut fo cb N E w) (hb0 : Below w.heap.size w w0)
  (s : Int) (Ad : Option Addr) (cd : Nat) (dist : List Int) (r : List S110) (hd : (Kd.int .i64).C w0 Ad dist.length dist) (h : impl_graph_int_best.f E N s dist = some r) :
  Calls Try.prog 111 #[.agg #[.int .i64 N, .func (.func fo) #[] cb], .int .i64 s, .slice Ad dist.length cd] w0 fun e w' => ∃ v0_ : Value, e = .returned v0_ ∧ Kd.S k110 110 w' w0.heap.size (fun _ => True) v0_ r ∧ Below w0.heap.size w0 w' := by
 have hu := Try.underlying68
 have hu2 := Try.underlying110
 unfold impl_graph_int_best.f at h
 by_cases hc : 0 ≤ s ∧ s < N ∧ (dist.length : Int) = N ∧ (E s).length < 1000000
 rotate_left
 ·rw [if_neg hc] at h; exact absurd h (by simp)
 rw [if_pos hc] at h
 by_cases hall : ((E s).all fun e => decide (0 ≤ e.f0) && decide (e.f0 < N)) = true
 rotate_left
 ·rw [if_neg hall] at h; exact absurd h (by simp)
 rw [if_pos hall] at h
 obtain rfl := Option.some.inj h
 have hall2 : ∀ z ∈ (E s).zipIdx, 0 ≤ z.1.f0 ∧ z.1.f0 < (dist.length : Int) := fun z hz => by
  have h1 : z.1 ∈ E s := by
   have h2 := List.mem_map_of_mem (f := Prod.fst) hz
   rw [List.zipIdx_map_fst] at h2
   exact h2
  have h3 := List.all_eq_true.mp hall z.1 h1
  simp only [Bool.and_eq_true, decide_eq_true_eq] at h3
  exact ⟨h3.1, by rw [hc.2.2.1]; exact h3.2⟩
 have HA := ak_ hall2
 have HC := ak_ hc
 have HE := ak_ hE
 have HB0 := ak_ hb0
 have HB := ak_ (Below.refl w0.heap.size w0)
 have HD := ak_ hd
 clear h hall hall2 hc hE hb0 hd
 go_enter Try.func111, Try.ntmps111
 go_wp2_with (first | ((with_reducible refine gate_dst (N := 3) rfl ?_); refine box_event ?hg (N := 3) ?hd (cs := #[.int .i64 N, .func (.func fo) #[] cb]) (t := 68) ?hr ?_; (case hd => rfl); (case hg => rfl); (case hr => go_simp <;> rfl); intro gb3 hg w3 hbox hb; have ns_ := ak_ (Kd.C_below (HD.out) hb); have nb_ := ak_ (bs_ (bb_ HB.out) hb); have nc_ := ak_ hbox; have nd_ := ak_ ((by rw [hg]; exact (bz_ (bb_ HB.out)) : w0.heap.size ≤ gb3)); clear HD HB hb hbox hg; have HD := ns_; have HB := nb_; have BK3 := nc_; have GE3 := nd_; clear ns_ nb_ nc_ nd_; have hz3_0 := (blk_cell BK3.out 0); have hf3_0 := (blk_frozen BK3.out 0); simp at hz3_0; have hz3_1 := (blk_cell BK3.out 1); have hf3_1 := (blk_frozen BK3.out 1); simp at hz3_1; skip) | ((with_reducible refine gate_dst (N := 4) rfl ?_); refine bx_ 4 #[.int .i64 s] 3 ?_; intro gb4 hg w4 hbox hb; have n0_ := ak_ (blk_below (pk BK3.out) hb); have m0_ := ak_ ((by rw [hg]; exact Nat.ne_of_lt (blk_lt (pk BK3.out)) : gb3 ≠ gb4)); have ns_ := ak_ (Kd.C_below (HD.out) hb); have nb_ := ak_ (bs_ (bb_ HB.out) hb); have nc_ := ak_ hbox; have nd_ := ak_ ((by rw [hg]; exact (bz_ (bb_ HB.out)) : w0.heap.size ≤ gb4)); clear HD HB hb hbox hg; clear BK3; have BK3 := n0_; have NE3_4 := m0_; have HD := ns_; have HB := nb_; have BK4 := nc_; have GE4 := nd_; clear ns_ nb_ nc_ nd_ n0_ m0_; have hz4_0 := (blk_cell BK4.out 0); have hf4_0 := (blk_frozen BK4.out 0); simp at hz4_0; skip) | ((with_reducible refine gate_dst (N := 5) rfl ?_); refine bx_ 5 #[.slice Ad dist.length cd] 29 ?_; intro gb5 hg w5 hbox hb; have n0_ := ak_ (blk_below (pk BK3.out) hb); have m0_ := ak_ ((by rw [hg]; exact Nat.ne_of_lt (blk_lt (pk BK3.out)) : gb3 ≠ gb5)); have n1_ := ak_ (blk_below (pk BK4.out) hb); have m1_ := ak_ ((by rw [hg]; exact Nat.ne_of_lt (blk_lt (pk BK4.out)) : gb4 ≠ gb5)); have ns_ := ak_ (Kd.C_below (HD.out) hb); have nb_ := ak_ (bs_ (bb_ HB.out) hb); have nc_ := ak_ hbox; have nd_ := ak_ ((by rw [hg]; exact (bz_ (bb_ HB.out)) : w0.heap.size ≤ gb5)); clear HD HB hb hbox hg; clear BK3 BK4; have BK3 := n0_; have NE3_5 := m0_; have BK4 := n1_; have NE4_5 := m1_; have HD := ns_; have HB := nb_; have BK5 := nc_; have GE5 := nd_; clear ns_ nb_ nc_ nd_ n0_ m0_ n1_ m1_; have hz5_0 := (blk_cell BK5.out 0); have hf5_0 := (blk_frozen BK5.out 0); simp at hz5_0; have hq3_0 := (blk_cell BK3.out 0); have hq3_1 := (blk_cell BK3.out 1); have hq4_0 := (blk_cell BK4.out 0); simp at hq3_0; simp at hq3_1; simp at hq4_0; skip) | (go_at_fn fo; go_loud (refine (HE.out _ s (below_then HB0.out HB0.out.size (bb_ HB.out)) HC.out.1 HC.out.2.1).mono ?_; rintro e w10 ⟨v10, rfl, ho, hb⟩; obtain ⟨f, res, hR, hL⟩ := lead_open ho; have hcd_ : res.length < 1000000 := (by rw [← hL.len, List.length_zipIdx]; exact HC.out.2.2.2); have hsl_ : 0 ≤ s ∧ s < (dist.length : Int) := (And.intro HC.out.1 (by rw [HC.out.2.2.1]; exact HC.out.2.1)); have HDEL := ak_ (impl_edge_int_146.calls 147 #[.pointer (some ⟨gb5, 0, none⟩), .pointer (some ⟨gb4, 0, none⟩)] (offWay dist s) (fun r => 0 ≤ r.f0 ∧ r.f0 < (dist.length : Int)) (fun W => Below w5.heap.size w5 W) (enters_of Try.func147 (by kernel_rfl) rfl) (fun W r hS hok => impl_graph_int_best.calls_1 gb5 gb4 Ad cd dist s r W (pw_cell_below hS ((blk_cell BK5.out 0).trans rfl)) (pw_cell_below hS ((blk_cell BK4.out 0).trans rfl)) (Kd.C_below HD.out hS) hsl_ hok) w5 w10 (fun k => some k = v10.ownBlock) v10 res hb hR hcd_ (LeadT.all (p := fun a _ => 0 ≤ a ∧ a < (dist.length : Int)) hL HA.out) (fun W h => h)); have HL := ak_ hL; have HB2 := ak_ hb; clear ho hR hL hb hcd_ hsl_)))
 go_wp2_with (go_at_call 146; refine HDEL.out.mono ?_; rintro e w12 ⟨v12, rfl, hR2, hv, hg, hb2⟩; have HO := ak_ (Kd.S_lower (lead_shut hR2 ((LeadT.move (fun k hk hl => hg.block k hl hk.2) HL.out).filter (fun a b => !offWay dist s a b)) (zip_nodup _ _) (fun k hk => (by rw [hv]; exact hk.2))) (bz_ HB.out)); rw [zip_filter (fun e : S110 => !offWay dist s e.f0 e.f1)] at HO; have n0_ := ak_ (bs_ HB.out hb2); clear HB HDEL HL HB2 hR2 hv hg hb2; have HB := n0_; clear n0_)
 first | go_ret | go_ret2
 exact ⟨_, rfl, HO.out, HB.out⟩
end Go.Proofs.Ythkchdfkeieabaa.QGr
