/- Contracts of functions of the given program, walked: each call returns what its Lean function says. Conditions: those that stand at each theorem. (Written by a program of this session.) -/
import Derived.Test.YthkchdfkeieabaaQGrx0
import Derived.Test.YthkchdfkeieabaaQGrx11
import Derived.Test.YthkchdfkeieabaaQGrx12
import Derived.Test.YthkchdfkeieabaaQGrx13
import Derived.Test.YthkchdfkeieabaaQGrx14
import Derived.Test.YthkchdfkeieabaaQGrx15
import Derived.Test.YthkchdfkeieabaaQGrx16
namespace Go.Proofs.Ythkchdfkeieabaa.QGr
open Go.RowKit Go.Proofs.YthkchdfkeieabaaW.PrintWords Go.Proofs.YthkchdfkeieabaaW.PrintLast Go.Proofs.YthkchdfkeieabaaW.PrintMore
open List (setIfInBounds_toArray set_cons_zero set_cons_succ map_toArray map_cons map_nil)
attribute [local go_sem] max2_int min2_int max_two min_two max_three min_three max_four min_four
set_option linter.unusedVariables false
set_option maxHeartbeats 8000000
set_option maxRecDepth 100000
set_option linter.unusedSimpArgs false
def crewSt (k : Nat) (ws : List Int) (rs : List Bool) (most : Int) (l : List Int) (acc : List (List Int)) : Option (List (List Int)) :=
 (impl_Crew_carries.f k ws rs most l).bind fun b => if b = true then (if acc.length < 1000000 then some (acc ++ [l]) else none) else some acc
theorem ride_each (k : Nat) (B g : Nat) (w0 : World) (Aw : Option Addr) (cw : Nat) (ws : List Int) (Ar : Option Addr) (cr : Nat) (rs : List Bool) (most : Int) (hB : w0.heap[B]? = some (.cells #[.slice Aw ws.length cw, .slice Ar rs.length cr, .int .i64 most] 43 (0, 0)))
  (hw : Kd.C (Kd.int .i64) w0 Aw ws.length ws) (hcw : ws.length ≤ cw) (hr : Kd.C Kd.bool w0 Ar rs.length rs) (hcr : rs.length ≤ cr) : GpEach (Kd.slice 3 (Kd.int .i64)) 29 47 (crewSt k ws rs most) g 164 #[.pointer (some ⟨B, 0, none⟩), .pointer (some ⟨g, 0, none⟩)] w0 := by
 intro W v vL l acc a1 hst hl hs
 have hu := Try.underlying43
 unfold crewSt at hs
 obtain ⟨b, h1, hs⟩ := Option.bind_eq_some_iff.mp hs
 obtain ⟨A1, c1, rfl, hle, hl1⟩ := gp_row hl
 obtain ⟨A, c, rfl⟩ := Kd.S_slice hst.row
 have A2 := ak_ (impl_Crew_carries.calls k Aw cw ws Ar cr rs most A1 c1 l b W (Kd.C_below hw hst.bel) hcw (Kd.C_below hr hst.bel) hcr hl1 hle h1)
 have hB1 := blk_below hB hst.bel
 have hz0 := blk_cell hB1 0
 have hz1 := blk_cell hB1 1
 have hz2 := blk_cell hB1 2
 simp at hz0
 simp at hz1
 simp at hz2
 have ST := ak_ hst
 have RL := ak_ hl
 have FR := ak_ (GpFr.below (g := g) (v := .slice A acc.length c) (Below.refl W.heap.size W))
 cases b
 ·rw [if_neg (by simp)] at hs
  obtain rfl := Option.some.inj hs
  clear hs h1 hst hl hl1 hle hw hcw hr hcr hB hB1
  go_enter Try.func164, Try.ntmps164
  go_wp2_with (go_at_call 165; refine A2.out.mono ?_; rintro e w6 ⟨rfl, hb⟩; have n0_ := ak_ (ST.out.up hb); have n1_ := ak_ (Kd.R_below RL.out hb); have n2_ := ak_ (FR.out.trans (GpFr.below hb)); clear ST RL FR hb hz0 hz1 hz2 A2; have ST := n0_; have RL := n1_; have FR := n2_; clear n0_ n1_ n2_)
  go_end0
  exact ⟨rfl, _, ST.out.any, FR.out⟩
 ·rw [if_pos rfl] at hs
  by_cases hlen : acc.length < 1000000
  rotate_left
  ·rw [if_neg hlen] at hs; exact absurd hs (by simp)
  rw [if_pos hlen] at hs
  obtain rfl := Option.some.inj hs
  have HLEN := ak_ hlen
  clear hs h1 hst hl hl1 hle hw hcw hr hcr hB hB1 hlen
  go_enter Try.func164, Try.ntmps164
  go_upto_region 1 with (go_at_call 165; refine A2.out.mono ?_; rintro e w6 ⟨rfl, hb⟩; have n0_ := ak_ (ST.out.up hb); have n1_ := ak_ (Kd.R_below RL.out hb); have n2_ := ak_ (FR.out.trans (GpFr.below hb)); clear ST RL FR hb hz0 hz1 hz2 A2; have ST := n0_; have RL := n1_; have FR := n2_; clear n0_ n1_ n2_)
  have hy5 := (blk_cell ST.out.out 0)
  have hf5 := (blk_frozen ST.out.out 0)
  simp at hy5
  go_wp2_with (first | ((with_reducible refine gate_builtin (b := .append) (xs := #[.tmp 7, .tmp 9]) rfl ?_); at_builtin; refine Kd.S_append (Kd.slice 3 (Kd.int .i64)) (w0 := w0) w0.heap.size rfl (.tmp 7) (.tmp 9) 47 29 (.slice none 0 0) 24 rfl Try.underlying47 info29 rfl (by decide) (by omega) (.slice A acc.length c) acc l [.slice A1 l.length c1] (fun _ => True) (fun k_ => some k_ = (Value.slice A1 l.length c1).ownBlock) rfl rfl ?aP ?aK (fun _ _ => trivial) ?aO ?aB ?aS ?aL ?_; (case aP => exact ⟨_, rfl, Kd.R_tight rfl (Kd.pR RL.out)⟩); (case aK => (intro k_ hk_; exact ⟨trivial, (RL.out.1 k_ hk_.symm).2⟩)); (case aO => exact Kd.S_mono (Kd.pS ST.out.row) (fun k_ hk_ => ⟨trivial, hk_⟩)); (case aB => exact (ST.out.up be_).bel); (case aS => exact bz_ (ST.out.up be_).bel); (case aL => have := HLEN.out; omega); intro v9 w9 ho hb hg hat; obtain ⟨Ao, co, rfl⟩ := Kd.S_slice ho; have HO := ak_ ho; have HB9 := ak_ hb; have HG := ak_ hg; have HAT := ak_ hat; have n0_ := ak_ (blk_grown (pk ST.out.out) hg (Kd.S_ne ST.out.row ST.out.out (by decide))); have hf9 := (blk_frozen n0_.out 0); have hy9 := (blk_cell n0_.out 0); simp at hy9; clear ho hb hg hat))
  go_end0
  refine ⟨rfl, .slice Ao (acc.length + 1) co, ⟨?_, ?_, ?_, ST.out.ge⟩, ?_⟩
  rotate_left
  ·exact (by (with_reducible repeat (first | apply Kd.S_alloc | apply Kd.S_drewN | apply Kd.S_drew)); have h_ := Kd.S_set HO.out n0_.out (by decide) 0 (.slice Ao (acc.length + 1) co); rw [List.length_append, List.length_singleton] at h_; exact h_)
  ·exact (by repeat (first | (with_reducible first | exact HB9.out | apply ba_ | apply bN_ | apply b1_ | refine below_set ?_ ST.out.ge) | exact HB9.out))
  ·refine FR.out.trans ⟨?_, fun k_ hk_ hg_ ht_ => ?_, ?_⟩
   ·have h2_ := HG.out.size
    first | (simp; omega) | (simp at h2_ ⊢; omega)
   ·have e2_ : w9.heap[k_]? = w6.heap[k_]? := HG.out.block k_ hk_ ht_
    exact (Below.heap_setCell w9 ⟨g, 0, none⟩ _ k_ hg_).trans e2_
   ·rcases HAT.out with e_ | ⟨b_, e_, h_⟩
    ·left
     rw [List.length_append, List.length_singleton] at e_
     exact e_
    ·right
     intro b2_ h2_
     rw [List.length_append, List.length_singleton] at e_
     rw [e_] at h2_
     injection h2_ with h2_
     omega
  ·exact (by (with_reducible repeat (first | refine kN_ ?_ _ | refine k1_ ?_ | refine ka_ ?_ _)); exact blk_put n0_.out 0 _ rfl)
def impl_Crew_rides.T2 : Bool × List (List Nat × List Nat) := (true, [([], []), ([], []), ([1], [1]), ([0, 2], [0, 2]), ([], []), ([4], [4]), ([5], [5]), ([], []), ([3, 6, 7, 3], [3, 6, 7])])
def impl_Crew_rides.B2 : List Nat := [0, 0, 2, 7, 0, 16, 48, 0, 255]
theorem impl_Crew_rides.T2_ : rtab .any (opsOf Try.f139 2) = impl_Crew_rides.T2 := by kernel_rfl
theorem impl_Crew_rides.B2_ : waitsOk impl_Crew_rides.T2.2 impl_Crew_rides.B2 = true := by kernel_rfl
def impl_Crew_rides.f (k : Nat) (ws : List Int) (rs : List Bool) (most : Int) (over : List Bool) (torch : Bool) : Option (List (List Int)) := (impl_State_side.f k over torch torch).bind fun P => if P.length ≤ 100 then gOn (crewSt k ws rs most) (ws.length : Int) P [] [] else none
theorem impl_Crew_rides.calls (k : Nat) (Aw : Option Addr) (cw : Nat) (ws : List Int) (Ar : Option Addr) (cr : Nat) (rs : List Bool) (most : Int) (Ao : Option Addr) (co : Nat) (over : List Bool) (torch : Bool) (r : List (List Int)) (w : World)
  (hw : Kd.C (Kd.int .i64) w Aw ws.length ws) (hcw : ws.length ≤ cw) (hr : Kd.C Kd.bool w Ar rs.length rs) (hcr : rs.length ≤ cr) (ho : Kd.C Kd.bool w Ao over.length over) (hco : over.length ≤ co) (h : impl_Crew_rides.f k ws rs most over torch = some r) :
  Calls Try.prog 139 #[.agg #[.slice Aw ws.length cw, .slice Ar rs.length cr, .int .i64 most], .agg #[.slice Ao over.length co, .bool torch]] w fun e w' => ∃ v0_ : Value, e = .returned v0_ ∧ Kd.S (Kd.slice 3 (Kd.int .i64)) 29 w' w.heap.size (fun _ => True) v0_ r ∧ Below w.heap.size w w' := by
 have hu := Try.underlying43
 have hu2 := Try.underlying115
 unfold impl_Crew_rides.f at h
 obtain ⟨P, h1, h⟩ := Option.bind_eq_some_iff.mp h
 by_cases hP : P.length ≤ 100
 rotate_left
 ·rw [if_neg hP] at h; exact absurd h (by simp)
 rw [if_pos hP] at h
 have A1 := ak_ fun (W : World) (hb : Below w.heap.size w W) => impl_State_side.calls k Ao co over torch torch P W (Kd.C_below ho hb) hco h1
 have A2 := ak_ fun (B g : Nat) (w0 W : World) (Ap : Option Addr) (cp : Nat) (v : Value) (h0 : Below w.heap.size w w0) (hB : w0.heap[B]? = some (.cells #[.slice Aw ws.length cw, .slice Ar rs.length cr, .int .i64 most] 43 (0, 0))) (hst : GpSt (Kd.slice 3 (Kd.int .i64)) 29 47 g w0 W v (fun _ => True) []) (hp : (Kd.int .i64).R 3 W w0.heap.size (fun k => k ≠ g ∧ some k ≠ v.ownBlock) (.slice Ap P.length cp) P) =>
  groups_calls (Kd.slice 3 (Kd.int .i64)) 29 47 (crewSt k ws rs most) g 164 #[.pointer (some ⟨B, 0, none⟩), .pointer (some ⟨g, 0, none⟩)] w0 Ap cp P (ws.length : Int) (enters_of Try.func164 (by kernel_rfl) rfl) (ride_each k B g w0 Aw cw ws Ar cr rs most hB (Kd.C_below hw h0) hcw (Kd.C_below hr h0) hcr) hP v r W hst hp h
 have HB := ak_ (Below.refl w.heap.size w)
 clear h h1 hP hw hcw hr hcr ho hco
 go_enter Try.func139, Try.ntmps139
 go_upto_region 2 with (first | ((with_reducible refine gate_dst (N := 2) rfl ?_); refine bx_ 2 #[.slice Aw ws.length cw, .slice Ar rs.length cr, .int .i64 most] 43 ?_; intro gb2 hg w2 hbox hb; have nb_ := ak_ (bs_ (bb_ HB.out) hb); have nc_ := ak_ hbox; have nd_ := ak_ ((by rw [hg]; exact (bz_ (bb_ HB.out)) : w.heap.size ≤ gb2)); clear HB hb hbox hg; have HB := nb_; have BK2 := nc_; have GE2 := nd_; clear nb_ nc_ nd_; have hz2_0 := (blk_cell BK2.out 0); have hf2_0 := (blk_frozen BK2.out 0); simp at hz2_0; have hz2_1 := (blk_cell BK2.out 1); have hf2_1 := (blk_frozen BK2.out 1); simp at hz2_1; have hz2_2 := (blk_cell BK2.out 2); have hf2_2 := (blk_frozen BK2.out 2); simp at hz2_2; skip) | ((with_reducible refine gate_dst (N := 3) rfl ?_); refine bx_ 3 #[.slice Ao over.length co, .bool torch] 115 ?_; intro gb3 hg w3 hbox hb; have n0_ := ak_ (blk_below (pk BK2.out) hb); have m0_ := ak_ ((by rw [hg]; exact Nat.ne_of_lt (blk_lt (pk BK2.out)) : gb2 ≠ gb3)); have nb_ := ak_ (bs_ (bb_ HB.out) hb); have nc_ := ak_ hbox; have nd_ := ak_ ((by rw [hg]; exact (bz_ (bb_ HB.out)) : w.heap.size ≤ gb3)); clear HB hb hbox hg; clear BK2; have BK2 := n0_; have NE2_3 := m0_; have HB := nb_; have BK3 := nc_; have GE3 := nd_; clear nb_ nc_ nd_ n0_ m0_; have hz3_0 := (blk_cell BK3.out 0); have hf3_0 := (blk_frozen BK3.out 0); simp at hz3_0; have hz3_1 := (blk_cell BK3.out 1); have hf3_1 := (blk_frozen BK3.out 1); simp at hz3_1; skip))
 have HB3 := ak_ HB.out
 have hst := (show GpSt (Kd.slice 3 (Kd.int .i64)) 29 47 (w3.heap.size + 1) w3 ((w3.alloc (.cells #[] 29)).alloc (.cells #[.slice (some ⟨w3.heap.size, 0, none⟩) 0 0] 47)) (.slice (some ⟨w3.heap.size, 0, none⟩) 0 0) (fun _ => True) [] from ⟨gp_new2 w3 _ _, Kd.S_alloc (gp_lit0 _ _ w3 (Nat.le_refl _)) _, ba_ (ba_ (Below.refl _ _) _) _, Nat.le_succ _⟩)
 have n0_ := ak_ (ka_ (ka_ BK2.out (.cells #[] 29)) (.cells #[.slice (some ⟨w3.heap.size, 0, none⟩) 0 0] 47))
 have n1_ := ak_ (ka_ (ka_ BK3.out (.cells #[] 29)) (.cells #[.slice (some ⟨w3.heap.size, 0, none⟩) 0 0] 47))
 have B3 := ak_ BK2.out
 have HL3 := ak_ (blk_lt BK3.out)
 have ST := ak_ hst
 clear BK2 BK3 HB hst hz2_0 hz2_1 hz2_2 hf2_0 hf2_1 hf2_2 hz3_0 hz3_1 hf3_0 hf3_1
 have BK2 := n0_; have BK3 := n1_; clear n0_ n1_
 generalize (w3.alloc (.cells #[] 29)).alloc (.cells #[.slice (some ⟨w3.heap.size, 0, none⟩) 0 0] 47) = w5 at BK2 BK3 ST ⊢
 generalize Value.slice (some ⟨w3.heap.size, 0, none⟩) 0 0 = v5 at ST ⊢
 generalize w3.heap.size + 1 = gb5 at ST ⊢
 have n0_ := ak_ (k1_ BK2.out); have n1_ := ak_ (k1_ BK3.out); have n2_ := ak_ (ST.out.up (below_drew (Below.refl _ _))); clear BK2 BK3 ST; have BK2 := n0_; have BK3 := n1_; have ST := n2_; clear n0_ n1_ n2_
 refine start_ (n := 9) (S := fun w' => w'.cell? ⟨gb3, 0, none⟩ = some (.slice Ao over.length co) ∧ w'.cell? ⟨gb3, 1, none⟩ = some (.bool torch) ∧ w'.cell? ⟨gb2, 0, none⟩ = some (.slice Aw ws.length cw)) (ds := []) (mb_ 9 0) (by kernel_rfl) rfl rfl ⟨(blk_cell BK3.out 0).trans rfl, (blk_cell BK3.out 1).trans rfl, (blk_cell BK2.out 0).trans rfl⟩ (fun hHeld => ?_); refine with_tabW impl_Crew_rides.T2_ impl_Crew_rides.B2_ (fun HT_ HW_ => ?_)
 generalize w5.drew = w9 at BK2 BK3 ST hHeld ⊢
 refine tk_ 0 7 9 1 ?_ (hy := by rintro w' ⟨s0, s1, s2⟩; go_simp; with_reducible rfl)
 refine pu_ 1 8 9 3 ?_
 refine tk_ 2 9 9 7 ?_ (hy := by rintro w' ⟨s0, s1, s2⟩; go_simp; with_reducible rfl)
 refine pu_ 4 11 9 23 ?_
 refine tk_ 5 12 9 55 ?_ (hy := by rintro w' ⟨s0, s1, s2⟩; go_simp; with_reducible rfl)
 refine pu_ 6 13 9 119 ?_
 refine pu_ 7 14 9 247 ?_
 refine on_ 3 10 9 255 (fun K hK => ?_)
 refine goes_ Try.func115 (by kernel_rfl) rfl #[.agg #[.slice Ao over.length co, .bool torch], .bool torch] (by rfl) rfl rfl (by first | rfl | (simp only [map_toArray, map_cons, map_nil]; try rfl)) ?_
 refine (A1.out _ (below_then HB3.out HB3.out.size ST.out.bel)).mono ?_
 rintro e_ w10 ⟨v10, rfl, hp, hb⟩
 obtain ⟨Ap, cp, rfl⟩ := Kd.R_slice hp
 refine ⟨_, rfl, ?_⟩
 have PL := ak_ (Kd.R_lower (ST.out.new (Nat.le_refl _) hp) (bz_ ST.out.bel))
 have n0_ := ak_ (blk_below BK2.out hb); have n1_ := ak_ (blk_below BK3.out hb); have n2_ := ak_ (ST.out.up hb); clear BK2 BK3 ST hb hp; have BK2 := n0_; have BK3 := n1_; have ST := n2_; clear n0_ n1_ n2_
 refine hK.out _ _ ⟨(blk_cell BK3.out 0).trans rfl, (blk_cell BK3.out 1).trans rfl, (blk_cell BK2.out 0).trans rfl⟩ (fun hHeld => ?_)
 clear hK K
 refine nm_ ?_
 refine on_ 8 15 9 511 (fun K hK => ?_)
 refine goes_ Try.func113 (by kernel_rfl) rfl #[.slice Ap P.length cp, .int .i64 (ws.length : Int), .func (.func 164) #[] #[.pointer (some ⟨gb2, 0, none⟩), .pointer (some ⟨gb5, 0, none⟩)]] (by rfl) rfl rfl (by first | rfl | (simp only [map_toArray, map_cons, map_nil]; try rfl)) ?_
 refine (A2.out gb2 gb5 w3 _ Ap cp v5 HB3.out B3.out ST.out PL.out).mono ?_
 rintro e_ w11 ⟨rfl, v11, hst, hfr⟩
 refine ⟨_, rfl, ?_⟩
 have n0_ := ak_ hst; have n1_ := ak_ ((hfr.at_ (blk_lt BK2.out) (fun e_ => by have := ST.out.ge; have := blk_lt B3.out; omega) (fun e_ => by have := Kd.S_base ST.out.row _ e_.symm; have := blk_lt B3.out; omega)).trans BK2.out); have n2_ := ak_ ((hfr.at_ (blk_lt BK3.out) (fun e_ => by have := ST.out.ge; have := HL3.out; omega) (fun e_ => by have := Kd.S_base ST.out.row _ e_.symm; have := HL3.out; omega)).trans BK3.out); clear ST BK2 BK3 hst hfr; have ST := n0_; have BK2 := n1_; have BK3 := n2_; clear n0_ n1_ n2_
 refine hK.out _ _ ⟨(blk_cell BK3.out 0).trans rfl, (blk_cell BK3.out 1).trans rfl, (blk_cell BK2.out 0).trans rfl⟩ (fun hHeld => ?_)
 clear hK K
 refine nm_ ?_
 refine done_ (done_of HT_.out (by kernel_rfl)) ?_
 have hy5 := (blk_cell ST.out.out 0)
 simp at hy5
 go_wp2
 first | go_ret | go_ret2
 exact ⟨_, rfl, Kd.S_lower (Kd.S_below ST.out.row be_) (bz_ HB3.out), below_then HB3.out HB3.out.size (ST.out.up be_).bel⟩
structure REdge where
 f0 : Int
 f1 : Int
 A : Option Addr
 n : Nat
 c : Nat
def REdge.enc (r : REdge) : List Value := [.int .i64 r.f0, .int .i64 r.f1, .slice r.A r.n r.c]
def zRE : REdge := ⟨0, 0, none, 0, 0⟩
def kre : Kd REdge := Kd.iso (Kd.raw 3) REdge.enc
theorem kre_M (W : World) (base : Nat) (ok : Nat → Prop) (r : REdge) : kre.M W base ok r [.int .i64 r.f0, .int .i64 r.f1, .slice r.A r.n r.c] := ⟨rfl, rfl, by
 intro u hu
 simp only [List.mem_cons, List.not_mem_nil, or_false] at hu
 rcases hu with rfl | rfl | rfl <;> rfl⟩
theorem kre_get {W : World} {base g n cap : Nat} {ok : Nat → Prop} {res : List REdge} (h : kre.R 110 W base ok (.slice (some ⟨g, 0, none⟩) n cap) res) (i : Nat) (hi : i < res.length) :
  W.cell? ⟨g, i * 3, none⟩ = some (.int .i64 res[i].f0) ∧ W.cell? ⟨g, i * 3 + 1, none⟩ = some (.int .i64 res[i].f1) ∧ W.cell? ⟨g, i * 3 + 2, none⟩ = some (.slice res[i].A res[i].n res[i].c) := by
 obtain ⟨ad, c, e, -, hK, hcell⟩ := Kd.C_get (Kd.R_reads' h).2.2 zRE (i : Int) (by omega) (by omega)
 obtain rfl := Option.some.inj e
 rw [Int.toNat_natCast, List.getD_eq_getElem?_getD, List.getElem?_eq_getElem hi] at hK
 obtain rfl := hK.1
 have hsz : kre.sz = 3 := rfl
 refine ⟨?_, ?_, ?_⟩
 ·have h_ := hcell 0 _ rfl
  rw [add_at, hsz, Nat.zero_add, Nat.add_zero, Int.toNat_natCast] at h_; exact h_
 ·have h_ := hcell 1 _ rfl
  rw [add_at, hsz, Nat.zero_add, Int.toNat_natCast] at h_; exact h_
 ·have h_ := hcell 2 _ rfl
  rw [add_at, hsz, Nat.zero_add, Int.toNat_natCast] at h_; exact h_
theorem kre_cc {W : World} {base g n cap : Nat} {ok : Nat → Prop} {res : List REdge} (h : kre.R 110 W base ok (.slice (some ⟨g, 0, none⟩) n cap) res) (i : Nat) (hi : i < res.length) :
  ∃ o : REdge, ∀ j u, ([.int .i64 o.f0, .int .i64 o.f1, .slice o.A o.n o.c] : List Value)[j]? = some u → W.cell? ⟨g, (i : Int).toNat * kre.sz + j, none⟩ = some u := by
 obtain ⟨h0, h1, h2⟩ := kre_get h i hi
 refine ⟨res[i], fun j u hu => ?_⟩
 have e : (i : Int).toNat * kre.sz = i * 3 := rfl
 rw [e]
 rcases j with _ | _ | _ | j
 ·obtain rfl := Option.some.inj hu; exact h0
 ·obtain rfl := Option.some.inj hu; exact h1
 ·obtain rfl := Option.some.inj hu; exact h2
 ·simp at hu
theorem gr_below {w W w' : World} {row : Option Nat} (h : w.grownBy W row) (hb : Below W.heap.size W w') : w.grownBy w' row :=
 ⟨hb.os.trans h.os, hb.tape.trans h.tape, hb.output.trans h.output, Nat.le_trans h.size hb.size, fun k hk hn => (hb.block k (Nat.lt_of_lt_of_le hk h.size)).trans (h.block k hk hn)⟩
theorem gr_gr {w W w' : World} {row : Option Nat} (h : w.grownBy W row) (hb : W.grownBy w' row) : w.grownBy w' row :=
 ⟨hb.os.trans h.os, hb.tape.trans h.tape, hb.output.trans h.output, Nat.le_trans h.size hb.size, fun k hk hn => (hb.block k (Nat.lt_of_lt_of_le hk h.size) hn).trans (h.block k hk hn)⟩
def leadR (W : World) (base : Nat) (okl : Nat → Prop) (f : Nat → Nat) (z : S110 × Nat) (r : REdge) : Prop := r.f0 = z.1.f0 ∧ r.f1 = z.1.f1 ∧ (Kd.int .i64).R 3 W base (fun k => okl k ∧ f k = z.2) (.slice r.A r.n r.c) z.1.f2
def LeadT (W : World) (base : Nat) (okl : Nat → Prop) (f : Nat → Nat) : List (S110 × Nat) → List REdge → Prop
 | [], [] => True
 | z :: zs, r :: rs => leadR W base okl f z r ∧ LeadT W base okl f zs rs
 | _, _ => False
section
variable {W W' : World} {base : Nat} {okl : Nat → Prop} {f : Nat → Nat}
theorem LeadT.len : ∀ {zs : List (S110 × Nat)} {rs : List REdge}, LeadT W base okl f zs rs → zs.length = rs.length
 | [], [], _ => rfl
 | _ :: _, _ :: _, h => congrArg (· + 1) (LeadT.len h.2)
 | [], _ :: _, h => h.elim
 | _ :: _, [], h => h.elim
theorem LeadT.at_ : ∀ {zs : List (S110 × Nat)} {rs : List REdge}, LeadT W base okl f zs rs → ∀ (j : Nat) (z : S110 × Nat) (r : REdge), zs[j]? = some z → rs[j]? = some r → leadR W base okl f z r
 | [], _, _, _, _, _, h, _ => by simp at h
 | _ :: _, [], h, _, _, _, _, _ => h.elim
 | _ :: _, _ :: _, h, 0, z, r, hz, hr => by obtain rfl := Option.some.inj hz; obtain rfl := Option.some.inj hr; exact h.1
 | _ :: _, _ :: _, h, j + 1, z, r, hz, hr => LeadT.at_ h.2 j z r hz hr
theorem LeadT.of : ∀ {zs : List (S110 × Nat)} {rs : List REdge}, zs.length = rs.length → (∀ (j : Nat) (z : S110 × Nat) (r : REdge), zs[j]? = some z → rs[j]? = some r → leadR W base okl f z r) → LeadT W base okl f zs rs
 | [], [], _, _ => trivial
 | _ :: _, _ :: _, hl, h => ⟨h 0 _ _ rfl rfl, LeadT.of (Nat.succ.inj hl) (fun j z r hz hr => h (j + 1) z r hz hr)⟩
 | [], _ :: _, hl, _ => by simp at hl
 | _ :: _, [], hl, _ => by simp at hl
theorem LeadT.move (hm : ∀ k, okl k → k < W.heap.size → W'.heap[k]? = W.heap[k]?) : ∀ {zs : List (S110 × Nat)} {rs : List REdge}, LeadT W base okl f zs rs → LeadT W' base okl f zs rs
 | [], [], _ => trivial
 | _ :: _, _ :: _, h => ⟨⟨h.1.1, h.1.2.1, Kd.R_step h.1.2.2 (fun k hk hl => hm k hk.1 hl)⟩, LeadT.move hm h.2⟩
 | [], _ :: _, h => h.elim
 | _ :: _, [], h => h.elim
theorem LeadT.filter (q : Int → Int → Bool) : ∀ {zs : List (S110 × Nat)} {rs : List REdge}, LeadT W base okl f zs rs → LeadT W base okl f (zs.filter fun z => q z.1.f0 z.1.f1) (rs.filter fun r => q r.f0 r.f1)
 | [], [], _ => trivial
 | z :: zs, r :: rs, h => by
  have ih := LeadT.filter q h.2
  rw [List.filter_cons, List.filter_cons, h.1.1, h.1.2.1]
  split
  ·exact ⟨h.1, ih⟩
  ·exact ih
 | [], _ :: _, h => h.elim
 | _ :: _, [], h => h.elim
theorem LeadT.all {p : Int → Int → Prop} : ∀ {zs : List (S110 × Nat)} {rs : List REdge}, LeadT W base okl f zs rs → (∀ z ∈ zs, p z.1.f0 z.1.f1) → ∀ r ∈ rs, p r.f0 r.f1
 | [], [], _, _ => by simp
 | z :: zs, r :: rs, h, hp => by
  intro r' hr
  rcases List.mem_cons.1 hr with rfl | hr
  ·rw [h.1.1, h.1.2.1]; exact hp z List.mem_cons_self
  ·exact LeadT.all h.2 (fun z hz => hp z (List.mem_cons_of_mem _ hz)) r' hr
 | [], _ :: _, h, _ => h.elim
 | _ :: _, [], h, _ => h.elim
end
theorem lead_list {α : Type} {p : Nat → α → Prop} : ∀ (n : Nat), (∀ i, i < n → ∃ x, p i x) → ∃ l : List α, l.length = n ∧ ∀ i x, l[i]? = some x → p i x
 | 0, _ => ⟨[], rfl, fun i x hx => by simp at hx⟩
 | n + 1, h => by
  obtain ⟨l, hl, hp⟩ := lead_list n (fun i hi => h i (Nat.lt_succ_of_lt hi))
  obtain ⟨x, hx⟩ := h n (Nat.lt_succ_self n)
  refine ⟨l ++ [x], by rw [List.length_append, hl]; rfl, fun i y hy => ?_⟩
  rcases Nat.lt_or_ge i l.length with hi | hi
  ·rw [List.getElem?_append_left hi] at hy
   exact hp i y hy
  ·have hi' := (List.getElem?_eq_some_iff.1 hy).1
   rw [List.length_append, List.length_singleton] at hi'
   have e : i = l.length := by omega
   subst e
   rw [List.getElem?_append_right (Nat.le_refl _), Nat.sub_self] at hy
   obtain rfl : x = y := by simpa using hy
   rw [hl]; exact hx
theorem lead_open {W : World} {base : Nat} {ok : Nat → Prop} {v : Value} {es : List S110} (h : Kd.S k110 110 W base ok v es) :
  ∃ f res, kre.R 110 W base (fun k => some k = v.ownBlock) v res ∧ LeadT W base (fun k => ok k ∧ some k ≠ v.ownBlock) f es.zipIdx res := by
 obtain ⟨f, hown, inner, ho, hl, hr⟩ := h
 obtain ⟨res, hres, hp⟩ := lead_list (p := fun i (r : REdge) => ∃ z, es.zipIdx[i]? = some z ∧ (inner.drop (i * 3)).take 3 = r.enc ∧ leadR W base (fun k => ok k ∧ some k ≠ v.ownBlock) f z r) es.zipIdx.length (fun i hi => by
  obtain ⟨z, hz⟩ : ∃ z, es.zipIdx[i]? = some z := ⟨_, List.getElem?_eq_getElem hi⟩
  have hM := hr i z hz
  obtain ⟨v2, hc, hR⟩ := k110_openM (show k110.M W base (fun k => (ok k ∧ some k ≠ v.ownBlock) ∧ f k = z.2) z.1 ((inner.drop (i * 3)).take 3) from hM)
  obtain ⟨A, c, rfl⟩ := Kd.R_slice hR
  exact ⟨⟨z.1.f0, z.1.f1, A, z.1.f2.length, c⟩, z, hz, hc, rfl, rfl, hR⟩)
 refine ⟨f, res, ⟨fun k hk => hk.symm, inner, by rw [hres]; exact ho, ?_, fun j r hj => ?_⟩, LeadT.of hres.symm (fun j z r hz hr => ?_)⟩
 ·rw [hres]; exact hl
 ·obtain ⟨z, hz, hc, -⟩ := hp j r hj
  have hc' : (inner.drop (j * kre.sz)).take kre.sz = r.enc := hc
  rw [hc']
  exact kre_M _ _ _ r
 ·obtain ⟨z', hz', -, hL⟩ := hp j r hr
  rw [hz] at hz'
  obtain rfl := Option.some.inj hz'
  exact hL
theorem lead_shut {W : World} {base : Nat} {okr okl : Nat → Prop} {f : Nat → Nat} {v : Value} {zs : List (S110 × Nat)} {res : List REdge} (hR : kre.R 110 W base okr v res) (hL : LeadT W base okl f zs res) (hnd : (zs.map (·.2)).Nodup) (hne : ∀ k, okl k → some k ≠ v.ownBlock) :
  Kd.S k110 110 W base (fun _ => True) v (zs.map (·.1)) := by
 obtain ⟨hown, inner, ho, hl, hr⟩ := hR
 have hlen := hL.len
 refine ⟨fun k => (zs.map (·.2)).idxOf (f k), fun _ _ => trivial, inner, by rw [List.length_zipIdx, List.length_map, hlen]; exact ho, by rw [List.length_zipIdx, List.length_map, hlen]; exact hl, fun j z hz => ?_⟩
 rw [List.getElem?_zipIdx, Nat.zero_add] at hz
 obtain ⟨x, hx, rfl⟩ := Option.map_eq_some_iff.1 hz
 rw [List.getElem?_map] at hx
 obtain ⟨z0, hz0, rfl⟩ := Option.map_eq_some_iff.1 hx
 have hj : j < zs.length := (List.getElem?_eq_some_iff.1 hz0).1
 obtain ⟨r, hr0⟩ : ∃ r, res[j]? = some r := ⟨_, List.getElem?_eq_getElem (by rw [← hlen]; exact hj)⟩
 have hc := (hr j r hr0).1
 obtain ⟨e0, e1, hR2⟩ := hL.at_ j z0 r hz0 hr0
 have hM := k110_mkM W base (fun k => okl k ∧ f k = z0.2) z0.1 hR2
 show k110.M W base (fun k => (True ∧ some k ≠ v.ownBlock) ∧ (zs.map (·.2)).idxOf (f k) = j) z0.1 ((inner.drop (j * 3)).take 3)
 have hc' : (inner.drop (j * 3)).take 3 = [.int .i64 z0.1.f0, .int .i64 z0.1.f1, .slice r.A r.n r.c] := by rw [← e0, ← e1]; exact hc
 rw [hc']
 refine Kd.M_mono _ (fun k hk => ⟨⟨trivial, hne k hk.1⟩, ?_⟩) hM
 rw [hk.2]
 have hjm : j < (zs.map (·.2)).length := by rw [List.length_map]; exact hj
 have e2 : z0.2 = (zs.map (·.2))[j] := by rw [List.getElem_map]; congr 1; rw [List.getElem?_eq_getElem hj] at hz0; exact (Option.some.inj hz0).symm
 rw [e2]
 exact hnd.idxOf_getElem j hjm
theorem ls_lead {α : Type} {d : Kd α} {eI e g n cap base : Nat} {ok : Nat → Prop} {W : World} {ls : List (List α)} {cl : Array Value} (h : Kd.S (Kd.slice eI d) e W base ok (.slice (some ⟨g, 0, none⟩) n cap) ls) (hb : W.heap[g]? = some (.cells cl e (0, 0))) :
  ∃ f : Nat → Nat, ∀ (j : Nat) (l : List α), ls[j]? = some l → ∃ u : Value, cl[j]? = some u ∧ d.R eI W base (fun k => (ok k ∧ k ≠ g) ∧ f k = j) u l := by
 obtain ⟨f, hown, inner, ho, hl, hr⟩ := h
 refine ⟨f, fun j l hj => ?_⟩
 obtain ⟨v, hc, hR⟩ := hr j (l, j) (Kd.zip_at hj)
 rcases ho.2 with ⟨hv, _⟩ | ⟨g', cap', cur, hv, -, hh, -, -, -, ht⟩
 ·cases hv
 cases hv
 rw [hb] at hh
 injection hh with hh
 injection hh with hh _
 subst hh
 have hjl := (List.getElem?_eq_some_iff.1 hj).1
 have hsz : (Kd.tag f (Kd.slice eI d)).sz = 1 := rfl
 rw [hsz] at hc ht
 refine ⟨v, ?_, Kd.R_mono hR (fun k hk => ⟨⟨hk.1.1, fun e_ => hk.1.2 (by rw [e_]; rfl)⟩, hk.2⟩)⟩
 have h2 : inner[j]? = some v := by
  have h3 := congrArg (fun l : List Value => l[0]?) hc
  simp only [List.getElem?_take, List.getElem?_drop, Nat.mul_one, Nat.add_zero] at h3
  simpa using h3
 rw [← ht, List.getElem?_take] at h2
 split at h2
 ·rw [Array.getElem?_toList] at h2
  exact h2
 ·exact absurd h2 (by simp)
def edRel (cl : Array Value) (ls : List (List Int)) (acc : List S110) (res : List REdge) : Prop := acc.length = res.length ∧ ∀ (i : Nat) (a : S110) (r : REdge), acc[i]? = some a → res[i]? = some r → r.f0 = a.f0 ∧ r.f1 = a.f1 ∧ ls[i]? = some a.f2 ∧ cl[i]? = some (.slice r.A r.n r.c)
theorem edRel.snoc {cl : Array Value} {ls : List (List Int)} {acc : List S110} {res : List REdge} (h : edRel cl ls acc res) {j : Nat} (hj : acc.length = j) {q c : Int} {l : (List Int)} {A : Option Addr} {n cc : Nat} (hl : ls[j]? = some l) (hc : cl[j]? = some (.slice A n cc)) : edRel cl ls (acc ++ [⟨q, c, l⟩]) (res ++ [⟨q, c, A, n, cc⟩]) := by
 refine ⟨by rw [List.length_append, List.length_append, h.1]; rfl, fun i a r ha hr => ?_⟩
 rcases Nat.lt_or_ge i acc.length with hi | hi
 ·rw [List.getElem?_append_left hi] at ha
  rw [List.getElem?_append_left (by rw [← h.1]; exact hi)] at hr
  exact h.2 i a r ha hr
 ·have hi' := (List.getElem?_eq_some_iff.1 ha).1
  rw [List.length_append, List.length_singleton] at hi'
  have e : i = acc.length := by omega
  subst e
  rw [List.getElem?_append_right (Nat.le_refl _), Nat.sub_self] at ha
  rw [h.1, List.getElem?_append_right (Nat.le_refl _), Nat.sub_self] at hr
  obtain rfl := Option.some.inj ha
  obtain rfl := Option.some.inj hr
  rw [hj]
  exact ⟨rfl, rfl, hl, hc⟩
theorem edRel.shut {W : World} {base g n cap : Nat} {ok okr : Nat → Prop} {ls : List (List Int)} {cl : Array Value} {v : Value} {es : List S110} {res : List REdge} (h : edRel cl ls es res) (hls : Kd.S (Kd.slice 3 (Kd.int .i64)) 29 W base ok (.slice (some ⟨g, 0, none⟩) n cap) ls) (hb : W.heap[g]? = some (.cells cl 29 (0, 0)))
  (hR : kre.R 110 W base okr v res) (hne : 110 ∉ 3 :: (Kd.int .i64).E) : Kd.S k110 110 W base (fun _ => True) v es := by
 obtain ⟨f, hf⟩ := ls_lead hls hb
 have hL : LeadT W base (fun k => some k ≠ v.ownBlock) f es.zipIdx res := LeadT.of (by rw [List.length_zipIdx]; exact h.1) (fun j z r hz hr => by
  rw [List.getElem?_zipIdx, Nat.zero_add] at hz
  obtain ⟨a, ha, rfl⟩ := Option.map_eq_some_iff.1 hz
  obtain ⟨e0, e1, hl, hc⟩ := h.2 j a r ha hr
  obtain ⟨u, hu, hR2⟩ := hf j a.f2 hl
  rw [hc] at hu
  obtain rfl := Option.some.inj hu
  refine ⟨e0, e1, Kd.R_mono (Kd.R_bound hR2) (fun k hk => ⟨fun e_ => ?_, hk.1.2⟩)⟩
  obtain ⟨_, _, _, q, hq, cells, hcq⟩ := hk
  obtain ⟨cells2, hc2⟩ := Kd.R_typed hR k e_.symm
  rw [hcq] at hc2
  injection hc2 with hc2
  injection hc2 with _ hc2
  exact hne (hc2 ▸ hq))
 have h2 := lead_shut hR hL (by rw [List.zipIdx_map_snd]; exact List.nodup_range') (fun k hk => hk)
 rw [List.zipIdx_map_fst] at h2
 exact h2
def crewEd (k : Nat) (ov : List Bool) (tq : Bool) : List (List Int) → List S110 → Option (List S110)
 | [], acc => some acc
 | l :: ls, acc => (impl_State_moved.f k ov tq l).bind fun st => (impl_State_code.f k st.1 st.2).bind fun q => if acc.length < 1000000 then crewEd k ov tq ls (acc ++ [⟨q, 1, l⟩]) else none
def crewG (k : Nat) (ws : List Int) (rs : List Bool) (most : Int) (s : Int) : Option (List S110) :=
 (impl_stateOf.f k (ws.length : Int) s).bind fun st => (impl_Crew_rides.f k ws rs most st.1 st.2).bind fun ls => if ls.length < 1000000 then crewEd k st.1 st.2 ls [] else none
theorem impl_Crew_graph.calls_1 (k : Nat) (Bn Bc Bl : Nat) (Aw : Option Addr) (cw : Nat) (ws : List Int) (Ar : Option Addr) (cr : Nat) (rs : List Bool) (most s : Int) (es : List S110) (w : World)
  (hBn : w.heap[Bn]? = some (.cells #[.int .i64 (ws.length : Int)] 3 (0, 0))) (hBc : w.heap[Bc]? = some (.cells #[.slice Aw ws.length cw, .slice Ar rs.length cr, .int .i64 most] 43 (0, 0))) (hBl : w.heap[Bl]? = some (.cells #[.bool false] 4 (0, 0)))
  (hw : Kd.C (Kd.int .i64) w Aw ws.length ws) (hcw : ws.length ≤ cw) (hr : Kd.C Kd.bool w Ar rs.length rs) (hcr : rs.length ≤ cr) (h : crewG k ws rs most s = some es) :
  Calls Try.prog 138 #[.int .i64 s, .pointer (some ⟨Bn, 0, none⟩), .pointer (some ⟨Bc, 0, none⟩), .pointer (some ⟨Bl, 0, none⟩)] w fun e w' => ∃ v : Value, e = .returned v ∧ Kd.S k110 110 w' w.heap.size (fun _ => True) v es ∧ Below w.heap.size w w' := by
 have hu := Try.underlying43
 have hu2 := Try.underlying110
 have hu3 := Try.underlying115
 unfold crewG at h
 obtain ⟨⟨ov, tq⟩, h1, h⟩ := Option.bind_eq_some_iff.mp h
 obtain ⟨ls, h2, h⟩ := Option.bind_eq_some_iff.mp h
 by_cases hls : ls.length < 1000000
 rotate_left
 ·rw [if_neg hls] at h; exact absurd h (by simp)
 rw [if_pos hls] at h
 have A1 := ak_ fun (W : World) => impl_stateOf.calls k (ws.length : Int) s ov tq W h1
 have A2 := ak_ fun (W : World) (hb : Below w.heap.size w W) (Ao : Option Addr) (co : Nat) (ho : Kd.C Kd.bool W Ao ov.length ov) (hco : ov.length ≤ co) => impl_Crew_rides.calls k Aw cw ws Ar cr rs most Ao co ov tq ls W (Kd.C_below hw hb) hcw (Kd.C_below hr hb) hcr ho hco h2
 have HLS := ak_ hls
 have H := ak_ h
 have HB := ak_ (Below.refl w.heap.size w)
 have hn0 := blk_cell hBn 0
 have hl0 := blk_cell hBl 0
 have hc0 := blk_cell hBc 0
 have hc1 := blk_cell hBc 1
 have hc2 := blk_cell hBc 2
 simp at hn0
 simp at hl0
 simp at hc0
 simp at hc1
 simp at hc2
 have BN := ak_ hBn
 have BC := ak_ hBc
 have BL := ak_ hBl
 clear h h1 h2 hls hw hcw hr hcr hBn hBc hBl
 go_enter Try.func138, Try.ntmps138
 go_upto_region 2 with (first | (go_at_call 123; refine (A1.out _).mono ?_; rintro e w13 ⟨v13, rfl, ho, hb⟩; obtain ⟨Ao, co, rfl⟩ := Kd.R_slice ho; have OV := ak_ ho; clear hn0 hl0 hc0 hc1 hc2; have n0_ := ak_ (blk_below BN.out hb); have n1_ := ak_ (blk_below BC.out hb); have n2_ := ak_ (blk_below BL.out hb); have n3_ := ak_ (bs_ HB.out hb); clear BN BC BL HB hb ho; have BN := n0_; have BC := n1_; have BL := n2_; have HB := n3_; clear n0_ n1_ n2_ n3_))
 have hkr := Kd.R_alloc (Kd.S_R (gp_lit0 kre 110 w13 (bz_ HB.out))) (.cells #[.slice Ao ov.length co, .bool tq] 115)
 have hk6 := gp_new2 w13 (.cells #[] 110) (.cells #[.slice Ao ov.length co, .bool tq] 115)
 have hb5 := (ba_ (ba_ (Below.refl w13.heap.size w13) (.cells #[] 110)) (.cells #[.slice Ao ov.length co, .bool tq] 115))
 generalize (w13.alloc (.cells #[] 110)).alloc (.cells #[.slice Ao ov.length co, .bool tq] 115) = w5 at hkr hk6 hb5 ⊢
 generalize Value.slice (some ⟨w13.heap.size, 0, none⟩) 0 0 = v5 at hkr ⊢
 generalize w13.heap.size + 1 = gb6 at hk6 ⊢
 have n0_ := ak_ (blk_below BN.out hb5); have n1_ := ak_ (blk_below BC.out hb5); have n2_ := ak_ (blk_below BL.out hb5); have n3_ := ak_ (bs_ HB.out hb5); have n4_ := ak_ (Kd.R_below OV.out hb5); clear BN BC BL HB OV hb5; have BN := n0_; have BC := n1_; have BL := n2_; have HB := n3_; have OV := n4_; clear n0_ n1_ n2_ n3_ n4_
 have HR := ak_ hkr
 have BK6 := ak_ hk6
 have hq0 := blk_cell BC.out 0
 have hq1 := blk_cell BC.out 1
 have hq2 := blk_cell BC.out 2
 have hq3 := blk_cell BK6.out 0
 have hq4 := blk_cell BK6.out 1
 simp at hq0
 simp at hq1
 simp at hq2
 simp at hq3
 simp at hq4
 clear hkr hk6
 go_wp2_with (first | (go_at_call 139; refine (A2.out _ (bb_ HB.out) Ao co (Kd.R_reads' OV.out).2.2 (Kd.R_reads' OV.out).2.1).mono ?_; rintro e w17 ⟨v17, rfl, ho, hb⟩; obtain ⟨Al, cl_, rfl⟩ := Kd.S_slice ho; have HLR := ak_ (Kd.S_lower ho (bz_ (bb_ HB.out))); clear hq0 hq1 hq2 hq3 hq4; have n0_ := ak_ (blk_below (pk BN.out) hb); have n1_ := ak_ (blk_below (pk BC.out) hb); have n2_ := ak_ (blk_below (pk BL.out) hb); have n3_ := ak_ (blk_below (pk BK6.out) hb); have n4_ := ak_ (bs_ (bb_ HB.out) hb); have n5_ := ak_ (Kd.R_below (Kd.pR OV.out) hb); have n6_ := ak_ (Kd.R_below (Kd.pR HR.out) hb); clear BN BC BL BK6 HB OV HR hb ho; have BN := n0_; have BC := n1_; have BL := n2_; have BK6 := n3_; have HB := n4_; have OV := n5_; have HR := n6_; clear n0_ n1_ n2_ n3_ n4_ n5_ n6_))
 obtain ⟨gl, cl, hAl⟩ : ∃ (gl : Nat) (cl : Array Value), ls.length = 0 ∨ (Al = some ⟨gl, 0, none⟩ ∧ w17.heap[gl]? = some (.cells cl 29 (0, 0))) := by
  rcases Nat.eq_zero_or_pos ls.length with h0 | h0
  ·exact ⟨0, #[], .inl h0⟩
  ·obtain ⟨g, cap, e, -, -, cl, hc⟩ := Kd.S_form HLR.out h0
   injection e with e1 _ e3
   exact ⟨g, cl, .inr ⟨e1, hc⟩⟩
 have HAL := ak_ hAl
 have HER := ak_ (show edRel cl ls [] [] from ⟨rfl, fun i a r h _ => by simp at h⟩)
 clear hAl
 go_loopg [7, 19] ls.length (fun gg v7 v19 wr => ∃ (j : Nat) (acc : List S110) (res : List REdge), v19 = .int .i64 (j : Int) ∧ Aside0 (j ≤ ls.length ∧ ls.length - j ≤ gg ∧ acc.length = j) ∧ Aside0 (crewEd k ov tq (ls.drop j) acc = some es) ∧ Aside0 (edRel cl ls acc res) ∧ Aside0 (kre.R 110 wr w.heap.size (fun _ => True) v7 res) ∧ Aside0 (Kd.S (Kd.slice 3 (Kd.int .i64)) 29 wr w.heap.size (fun _ => True) (.slice Al ls.length cl_) ls) ∧ Aside0 (ls.length = 0 ∨ (Al = some ⟨gl, 0, none⟩ ∧ wr.heap[gl]? = some (.cells cl 29 (0, 0)))) ∧ Aside0 (wr.heap[gb6]? = some (.cells #[.slice Ao ov.length co, .bool tq] 115 (0, 0))) ∧ Aside0 (Kd.R Kd.bool 4 wr w.heap.size (fun _ => True) (.slice Ao ov.length co) ov) ∧ Aside0 (wr.heap[Bl]? = some (.cells #[.bool false] 4 (0, 0))) ∧ Aside0 (Below w.heap.size w wr))
 case atStart => exact ⟨0, [], [], rfl, ⟨⟨Nat.zero_le _, Nat.le_refl _, rfl⟩⟩, H, HER, ⟨Kd.pR HR.out⟩, ⟨Kd.pS HLR.out⟩, HAL, ⟨pk BK6.out⟩, ⟨Kd.pR OV.out⟩, ⟨pk BL.out⟩, ⟨(bb_ HB.out)⟩⟩
 case round =>
  clear H HER HR HLR HAL BK6 OV BL HB BN BC
  obtain ⟨j, acc, res, rfl, HJ, H, HER, HR, HLR, HAL, BK6, OV, BL, HB⟩ := hrel
  by_cases hj : j < ls.length
  ·have j1 : decide ((j : Int) < (ls.length : Int)) = true := decide_eq_true (by omega)
   have j1n : decide (j < ls.length) = true := decide_eq_true hj
   have j0p : ((0 : Int) ≤ (j : Int)) = True := eq_true (by omega)
   have j1p : ((j : Int) < (ls.length : Int)) = True := eq_true (by omega)
   rcases HAL.out with h0 | ⟨rfl, hbl⟩
   ·exact absurd h0 (by omega)
   obtain ⟨vi, oki, hcell, -, hRi, -, -⟩ := fr_lend HLR.out (j : Int) (by omega) (by omega)
   rw [Int.toNat_natCast] at hcell hRi
   obtain ⟨Aj, cj, rfl⟩ := Kd.R_slice hRi
   have hcl : cl[j]? = some (.slice Aj (ls.getD j []).length cj) := by rw [← blk_cell hbl]; exact hcell
   obtain ⟨l, hl⟩ : ∃ l, l = ls.getD j [] := ⟨_, rfl⟩
   rw [← hl] at hcell hRi hcl
   have hlj : ls[j]? = some l := by rw [hl, List.getD_eq_getElem?_getD, List.getElem?_eq_getElem hj]; rfl
   have h := H.out
   rw [List.drop_eq_getElem_cons hj, show ls[j] = l from by rw [List.getElem?_eq_getElem hj] at hlj; exact Option.some.inj hlj] at h
   simp only [crewEd] at h
   obtain ⟨⟨mo, mt⟩, h3, h⟩ := Option.bind_eq_some_iff.mp h
   obtain ⟨q, h4, h⟩ := Option.bind_eq_some_iff.mp h
   by_cases hac : acc.length < 1000000
   rotate_left
   ·rw [if_neg hac] at h; exact absurd h (by simp)
   rw [if_pos hac] at h
   have A3 := ak_ fun (W : World) (hb : Below wr.heap.size wr W) => impl_State_moved.calls k Ao co ov tq Aj cj l mo mt W (Kd.C_below (Kd.R_reads' OV.out).2.2 hb) (Kd.R_reads' OV.out).2.1 (Kd.C_below (Kd.R_reads' hRi).2.2 hb) (Kd.R_reads' hRi).2.1 h3
   have A4 := ak_ fun (W : World) (Am : Option Addr) (cm : Nat) (hm : Kd.C Kd.bool W Am mo.length mo) (hcm : mo.length ≤ cm) => impl_State_code.calls k Am cm mo mt q W hm hcm h4
   have HBR := ak_ (Below.refl wr.heap.size wr)
   have HER2 := ak_ (HER.out.snoc HJ.out.2.2 (q := q) (c := 1) hlj hcl)
   have H2 := ak_ h
   have HACC := ak_ (And.intro hac HER.out.1)
   have BLS := ak_ hbl
   have HJJ := ak_ hj
   have hw19 : IntKind.i64.wrap ((j : Int) + 1) = ((j + 1 : Nat) : Int) := by have := HLS.out; rw [IntWalk.i64_in _ ⟨by omega, by omega⟩]; omega
   have hz0 := blk_cell BK6.out 0
   have hz1 := blk_cell BK6.out 1
   have hz2 := blk_cell BL.out 0
   simp at hz0
   simp at hz1
   simp at hz2
   clear h h3 h4 H hl hlj hcl hRi hbl hac HER HAL hj
   go_upto_region 8 with (fail)
   go_wp2_with (first | (go_at_call 125; refine (A3.out _ (by repeat (first | (with_reducible first | exact HBR.out | apply ba_ | apply bN_ | apply b1_) | exact HBR.out))).mono ?_; rintro e w30 ⟨v30, rfl, ho, hb⟩; obtain ⟨Am, cm, rfl⟩ := Kd.R_slice ho; have OM := ak_ ho; clear A3; have n0_ := ak_ (blk_below BK6.out hb); have n1_ := ak_ (blk_below BL.out hb); have n2_ := ak_ (blk_below BLS.out hb); have n3_ := ak_ (Kd.R_below (Kd.pR HR.out) hb); have n4_ := ak_ (Kd.S_below (Kd.pS HLR.out) hb); have n5_ := ak_ (Kd.R_below (Kd.pR OV.out) hb); have n6_ := ak_ (bs_ (bb_ HB.out) hb); clear BK6 BL BLS HR HLR OV HB hb ho HBR; have BK6 := n0_; have BL := n1_; have BLS := n2_; have HR := n3_; have HLR := n4_; have OV := n5_; have HB := n6_; clear n0_ n1_ n2_ n3_ n4_ n5_ n6_) | (go_at_call 126; refine (A4.out _ Am cm (Kd.R_reads' OM.out).2.2 (Kd.R_reads' OM.out).2.1).mono ?_; rintro e w31 ⟨rfl, hb⟩; clear A4 OM; have n0_ := ak_ (blk_below BK6.out hb); have n1_ := ak_ (blk_below BL.out hb); have n2_ := ak_ (blk_below BLS.out hb); have n3_ := ak_ (Kd.R_below (Kd.pR HR.out) hb); have n4_ := ak_ (Kd.S_below (Kd.pS HLR.out) hb); have n5_ := ak_ (Kd.R_below (Kd.pR OV.out) hb); have n6_ := ak_ (bs_ (bb_ HB.out) hb); clear BK6 BL BLS HR HLR OV HB hb; have BK6 := n0_; have BL := n1_; have BLS := n2_; have HR := n3_; have HLR := n4_; have OV := n5_; have HB := n6_; clear n0_ n1_ n2_ n3_ n4_ n5_ n6_) | ((with_reducible refine gate_builtin (b := .append) (xs := #[.tmp 27, .tmp 35]) rfl ?_); at_builtin; refine Kd.R_append kre (w0 := w) w.heap.size rfl (.tmp 27) (.tmp 35) 130 110 (.agg #[(.int .i64 0), (.int .i64 0), (.slice none 0 0)]) 40 rfl Try.underlying130 info110 rfl (by decide) (by omega) _ res ⟨q, 1, Aj, l.length, cj⟩ [.int .i64 q, .int .i64 1, .slice Aj l.length cj] (fun _ => True) (fun _ => False) rfl rfl ?aP (fun _ hk => hk.elim) (fun _ _ => trivial) ?aO ?aB ?aS ?aL ?_; (case aP => exact kre_M _ _ _ ⟨q, 1, Aj, l.length, cj⟩); (case aO => exact Kd.pR HR.out); (case aB => exact (bb_ HB.out)); (case aS => exact bz_ (bb_ HB.out)); (case aL => have := HACC.out; omega); intro v36 w36 ho hb hg hat; have n0_ := ak_ (blk_grown (pk BK6.out) hg (Kd.R_ne HR.out BK6.out (by decide))); have n1_ := ak_ (blk_grown (pk BL.out) hg (Kd.R_ne HR.out BL.out (by decide))); have n2_ := ak_ (blk_grown (pk BLS.out) hg (Kd.R_ne HR.out BLS.out (by decide))); have n3_ := ak_ (Kd.S_over' (Kd.pS HLR.out) (Kd.R_typed HR.out) (by decide) hg); have n4_ := ak_ (Kd.R_over' (Kd.pR OV.out) (Kd.R_typed HR.out) (by decide) hg); have n5_ := ak_ (hb); have n6_ := ak_ (ho); clear BK6 BL BLS HLR OV HB HR hg hat hb ho; have BK6 := n0_; have BL := n1_; have BLS := n2_; have HLR := n3_; have OV := n4_; have HB := n5_; have HR := n6_; clear n0_ n1_ n2_ n3_ n4_ n5_ n6_))
   go_roundg (ls.length - (j + 1))
   case measure => have := HJ.out; have := HJJ.out; omega
   case rel => exact ⟨j + 1, _, _, (by first | rfl | (simp; done)), ⟨⟨by have := HJJ.out; omega, Nat.le_refl _, by rw [List.length_append, HJ.out.2.2]; rfl⟩⟩, H2, HER2, ⟨Kd.pR HR.out⟩, ⟨Kd.pS HLR.out⟩, ⟨by first | exact .inr ⟨rfl, pk BLS.out⟩ | exact .inr ⟨trivial, pk BLS.out⟩⟩, ⟨pk BK6.out⟩, ⟨Kd.pR OV.out⟩, ⟨pk BL.out⟩, ⟨(bb_ HB.out)⟩⟩
  ·have j1 : decide ((j : Int) < (ls.length : Int)) = false := decide_eq_false (by omega)
   have j1n : decide (j < ls.length) = false := decide_eq_false hj
   have h := H.out
   rw [List.drop_of_length_le (by omega)] at h
   have HES := ak_ (show acc = es from Option.some.inj (show some acc = some es from h))
   clear h H hj
   go_wp2
   first | go_ret | go_ret2
   refine ⟨_, rfl, ?_, (bb_ HB.out)⟩
   rw [← HES.out]
   rcases HAL.out with h0 | ⟨rfl, hbl⟩
   ·have ha : acc = [] := List.eq_nil_of_length_eq_zero (by have := HJ.out; omega)
    have hr : res = [] := List.eq_nil_of_length_eq_zero (by rw [← HER.out.1, ha]; rfl)
    have h2 := HR.out
    rw [hr] at h2
    rw [ha]
    exact lead_shut (zs := []) (f := fun _ => 0) (okl := fun _ => False) (Kd.R_below h2 be_) trivial List.Pairwise.nil (fun k hk => hk.elim)
   ·exact HER.out.shut (Kd.S_below HLR.out be_) (blk_below hbl be_) (Kd.R_below HR.out be_) (by decide)
attribute [local go_sem] run_store_fn_
def grN (n : Nat) : Int := wrap64 (2 * 2 ^ min n 64)
theorem impl_Crew_graph.calls (Aw : Option Addr) (cw : Nat) (ws : List Int) (Ar : Option Addr) (cr : Nat) (rs : List Bool) (most : Int) (w : World) (hw : Kd.C (Kd.int .i64) w Aw ws.length ws) :
  Calls Try.prog 102 #[.agg #[.slice Aw ws.length cw, .slice Ar rs.length cr, .int .i64 most], .bool false] w fun e w' => ∃ Bn Bc Bl : Nat, e = .returned (.agg #[.int .i64 (grN ws.length), .func (.func 138) #[] #[.pointer (some ⟨Bn, 0, none⟩), .pointer (some ⟨Bc, 0, none⟩), .pointer (some ⟨Bl, 0, none⟩)]]) ∧
   (w'.heap[Bn]? = some (.cells #[.int .i64 (ws.length : Int)] 3 (0, 0)) ∧ w'.heap[Bc]? = some (.cells #[.slice Aw ws.length cw, .slice Ar rs.length cr, .int .i64 most] 43 (0, 0)) ∧ w'.heap[Bl]? = some (.cells #[.bool false] 4 (0, 0))) ∧ Below w.heap.size w w' := by
 have hu := Try.underlying43
 have hu2 := Try.underlying68
 have HB := ak_ (Below.refl w.heap.size w)
 have hn : (ws.length : Int) ≤ 9223372036854775807 := by have := Kd.C_max hw; omega
 clear hw
 go_enter Try.func102, Try.ntmps102
 go_upto_region 1 with (first | ((with_reducible refine gate_dst (N := 2) rfl ?_); refine bx_ 2 #[.slice Aw ws.length cw, .slice Ar rs.length cr, .int .i64 most] 43 ?_; intro gb2 hg w2 hbox hb; have nb_ := ak_ (bs_ (bb_ HB.out) hb); have nc_ := ak_ hbox; have nd_ := ak_ ((by rw [hg]; exact (bz_ (bb_ HB.out)) : w.heap.size ≤ gb2)); clear HB hb hbox hg; have HB := nb_; have BK2 := nc_; have GE2 := nd_; clear nb_ nc_ nd_; have hz2_0 := (blk_cell BK2.out 0); have hf2_0 := (blk_frozen BK2.out 0); simp at hz2_0; have hz2_1 := (blk_cell BK2.out 1); have hf2_1 := (blk_frozen BK2.out 1); simp at hz2_1; have hz2_2 := (blk_cell BK2.out 2); have hf2_2 := (blk_frozen BK2.out 2); simp at hz2_2; skip) | ((with_reducible refine gate_dst (N := 3) rfl ?_); refine bx_ 3 #[.bool false] 4 ?_; intro gb3 hg w3 hbox hb; have n0_ := ak_ (blk_below (pk BK2.out) hb); have m0_ := ak_ ((by rw [hg]; exact Nat.ne_of_lt (blk_lt (pk BK2.out)) : gb2 ≠ gb3)); have nb_ := ak_ (bs_ (bb_ HB.out) hb); have nc_ := ak_ hbox; have nd_ := ak_ ((by rw [hg]; exact (bz_ (bb_ HB.out)) : w.heap.size ≤ gb3)); clear HB hb hbox hg; clear BK2; have BK2 := n0_; have NE2_3 := m0_; have HB := nb_; have BK3 := nc_; have GE3 := nd_; clear nb_ nc_ nd_ n0_ m0_; have hz3_0 := (blk_cell BK3.out 0); have hf3_0 := (blk_frozen BK3.out 0); simp at hz3_0; skip) | ((with_reducible refine gate_dst (N := 4) rfl ?_); refine bx_ 4 #[.int .i64 0, .nilFunc] 68 ?_; intro gb4 hg w4 hbox hb; have n0_ := ak_ (blk_below (pk BK2.out) hb); have m0_ := ak_ ((by rw [hg]; exact Nat.ne_of_lt (blk_lt (pk BK2.out)) : gb2 ≠ gb4)); have n1_ := ak_ (blk_below (pk BK3.out) hb); have m1_ := ak_ ((by rw [hg]; exact Nat.ne_of_lt (blk_lt (pk BK3.out)) : gb3 ≠ gb4)); have nb_ := ak_ (bs_ (bb_ HB.out) hb); have nc_ := ak_ hbox; have nd_ := ak_ ((by rw [hg]; exact (bz_ (bb_ HB.out)) : w.heap.size ≤ gb4)); clear HB hb hbox hg; clear BK2 BK3; have BK2 := n0_; have NE2_4 := m0_; have BK3 := n1_; have NE3_4 := m1_; have HB := nb_; have BK4 := nc_; have GE4 := nd_; clear nb_ nc_ nd_ n0_ m0_ n1_ m1_; have hz4_0 := (blk_cell BK4.out 0); have hf4_0 := (blk_frozen BK4.out 0); simp at hz4_0; have hz4_1 := (blk_cell BK4.out 1); have hf4_1 := (blk_frozen BK4.out 1); simp at hz4_1; skip))
 have hq0 := blk_cell BK2.out 0
 simp at hq0
 go_upto_region 2 with (first | ((with_reducible refine gate_dst (N := 5) rfl ?_); refine bx_ 5 #[.int .i64 0] 3 ?_; intro gb5 hg w5 hbox hb; have n0_ := ak_ (blk_below (pk BK2.out) hb); have m0_ := ak_ ((by rw [hg]; exact Nat.ne_of_lt (blk_lt (pk BK2.out)) : gb2 ≠ gb5)); have n1_ := ak_ (blk_below (pk BK3.out) hb); have m1_ := ak_ ((by rw [hg]; exact Nat.ne_of_lt (blk_lt (pk BK3.out)) : gb3 ≠ gb5)); have n2_ := ak_ (blk_below (pk BK4.out) hb); have m2_ := ak_ ((by rw [hg]; exact Nat.ne_of_lt (blk_lt (pk BK4.out)) : gb4 ≠ gb5)); have nb_ := ak_ (bs_ (bb_ HB.out) hb); have nc_ := ak_ hbox; have nd_ := ak_ ((by rw [hg]; exact (bz_ (bb_ HB.out)) : w.heap.size ≤ gb5)); clear HB hb hbox hg; clear BK2 BK3 BK4; have BK2 := n0_; have NE2_5 := m0_; have BK3 := n1_; have NE3_5 := m1_; have BK4 := n2_; have NE4_5 := m2_; have HB := nb_; have BK5 := nc_; have GE5 := nd_; clear nb_ nc_ nd_ n0_ m0_ n1_ m1_ n2_ m2_; have hz5_0 := (blk_cell BK5.out 0); have hf5_0 := (blk_frozen BK5.out 0); simp at hz5_0; have hq0 := blk_cell BK2.out 0; simp at hq0; skip))
 have n0_ := ak_ (blk_far (p := ⟨gb5, 0, none⟩) BK2.out NE2_5.out (.int .i64 (ws.length : Int)))
 have n1_ := ak_ (blk_far (p := ⟨gb5, 0, none⟩) BK3.out NE3_5.out (.int .i64 (ws.length : Int)))
 have n2_ := ak_ (blk_far (p := ⟨gb5, 0, none⟩) BK4.out NE4_5.out (.int .i64 (ws.length : Int)))
 have n3_ := ak_ (blk_put (cs' := #[.int .i64 (ws.length : Int)]) BK5.out 0 (.int .i64 (ws.length : Int)) rfl)
 have n4_ := ak_ (below_set (v := (.int .i64 (ws.length : Int))) (j := 0) HB.out GE5.out)
 clear BK2 BK3 BK4 BK5 HB hz5_0 hf5_0 hz2_0 hz2_1 hz2_2 hf2_0 hf2_1 hf2_2 hz3_0 hf3_0 hz4_0 hz4_1 hf4_0 hf4_1 hq0
 generalize w5.setCell ⟨gb5, 0, none⟩ (.int .i64 (ws.length : Int)) = w6 at n0_ n1_ n2_ n3_ n4_ ⊢
 have BK2 := n0_; have BK3 := n1_; have BK4 := n2_; have BK5 := n3_; have HB := n4_
 clear n0_ n1_ n2_ n3_ n4_
 have hz5 := blk_cell BK5.out 0
 have hz40 := blk_cell BK4.out 0
 have hz41 := blk_cell BK4.out 1
 have hf40 := blk_frozen BK4.out 0
 have hf41 := blk_frozen BK4.out 1
 simp at hz5
 simp at hz40
 simp at hz41
 have B41 := blk_put (cs' := #[.int .i64 (wrap64 (2 * 2 ^ min ws.length 64)), .func (.func 138) #[] #[.pointer (some ⟨gb5, 0, none⟩), .pointer (some ⟨gb2, 0, none⟩), .pointer (some ⟨gb3, 0, none⟩)]]) (blk_put (cs' := #[.int .i64 (wrap64 (2 * 2 ^ min ws.length 64)), .nilFunc]) BK4.out 0 (.int .i64 (wrap64 (2 * 2 ^ min ws.length 64))) rfl) 1 (.func (.func 138) #[] #[.pointer (some ⟨gb5, 0, none⟩), .pointer (some ⟨gb2, 0, none⟩), .pointer (some ⟨gb3, 0, none⟩)]) rfl
 have B21 := blk_far (p := ⟨gb4, 1, none⟩) (blk_far (p := ⟨gb4, 0, none⟩) BK2.out NE2_4.out (.int .i64 (wrap64 (2 * 2 ^ min ws.length 64)))) NE2_4.out (.func (.func 138) #[] #[.pointer (some ⟨gb5, 0, none⟩), .pointer (some ⟨gb2, 0, none⟩), .pointer (some ⟨gb3, 0, none⟩)])
 have B31 := blk_far (p := ⟨gb4, 1, none⟩) (blk_far (p := ⟨gb4, 0, none⟩) BK3.out NE3_4.out (.int .i64 (wrap64 (2 * 2 ^ min ws.length 64)))) NE3_4.out (.func (.func 138) #[] #[.pointer (some ⟨gb5, 0, none⟩), .pointer (some ⟨gb2, 0, none⟩), .pointer (some ⟨gb3, 0, none⟩)])
 have B51 := blk_far (p := ⟨gb4, 1, none⟩) (blk_far (p := ⟨gb4, 0, none⟩) BK5.out NE4_5.out.symm (.int .i64 (wrap64 (2 * 2 ^ min ws.length 64)))) NE4_5.out.symm (.func (.func 138) #[] #[.pointer (some ⟨gb5, 0, none⟩), .pointer (some ⟨gb2, 0, none⟩), .pointer (some ⟨gb3, 0, none⟩)])
 have HB1 := below_set (v := (.func (.func 138) #[] #[.pointer (some ⟨gb5, 0, none⟩), .pointer (some ⟨gb2, 0, none⟩), .pointer (some ⟨gb3, 0, none⟩)])) (j := 1) (below_set (v := (.int .i64 (wrap64 (2 * 2 ^ min ws.length 64)))) (j := 0) HB.out GE4.out) GE4.out
 have HF := ak_ (And.intro B41 (And.intro B21 (And.intro B31 (And.intro B51 HB1))))
 clear B41 B21 B31 B51 HB1
 go_wp2
 refine bodyPost_ret (results_cell_row rfl _ _ gb4 68 #[.int .i64 (wrap64 (2 * 2 ^ min ws.length 64)), .func (.func 138) #[] #[.pointer (some ⟨gb5, 0, none⟩), .pointer (some ⟨gb2, 0, none⟩), .pointer (some ⟨gb3, 0, none⟩)]] (0, 0) _ rfl HF.out.1 Try.underlying68 rfl (by kernel_rfl)) rfl ?_
 exact ⟨gb5, gb2, gb3, rfl, ⟨HF.out.2.2.2.1, HF.out.2.1, HF.out.2.2.1⟩, HF.out.2.2.2.2⟩
attribute [local go_sem] run_store_fn_
theorem GOut.up {fo : Nat} {cb : Array Value} {N : Int} {E : Int → List S110} {w w0 : World} (h : GOut fo cb N E w) (hb : Below w.heap.size w w0) : GOut fo cb N E w0 := fun W s hW => h W s (below_then hb hb.size hW)
theorem frRun_congr {E E' : Int → List S110} {N : Int} (h : ∀ s, 0 ≤ s → s < N → E s = E' s) : ∀ k d i dist w, frRun E N k d i dist w = frRun E' N k d i dist w
 | 0, _, _, _, _ => rfl
 | k + 1, d, i, dist, w => by
  rw [frRun.eq_2, frRun.eq_2]
  by_cases hs : 0 ≤ rdOf 0 (w.getD d []) (i : Int) ∧ rdOf 0 (w.getD d []) (i : Int) < N
  ·rw [h _ hs.1 hs.2]
   simp only [frRun_congr h k]
  ·have e1 : ¬ (0 ≤ rdOf 0 (w.getD d []) (i : Int) ∧ rdOf 0 (w.getD d []) (i : Int) < N ∧ i < 1000000 ∧ d < 1000000 ∧ (E (rdOf 0 (w.getD d []) (i : Int))).length < 1000000) := fun hc => hs ⟨hc.1, hc.2.1⟩
   have e2 : ¬ (0 ≤ rdOf 0 (w.getD d []) (i : Int) ∧ rdOf 0 (w.getD d []) (i : Int) < N ∧ i < 1000000 ∧ d < 1000000 ∧ (E' (rdOf 0 (w.getD d []) (i : Int))).length < 1000000) := fun hc => hs ⟨hc.1, hc.2.1⟩
   simp only [if_neg e1, if_neg e2, frRun_congr h k]
def grE (g : Int → Option (List S110)) : Int → List S110 := fun s => (g s).getD []
def grAll (g : Int → Option (List S110)) (N : Int) : Bool := (List.range N.toNat).all fun i => (g (i : Int)).isSome
theorem grAll_at {g : Int → Option (List S110)} {N : Int} (h : grAll g N = true) (s : Int) (s0 : 0 ≤ s) (s1 : s < N) : g s = some (grE g s) := by
 have h2 := List.all_eq_true.1 h s.toNat (List.mem_range.2 (by omega))
 rw [Int.toNat_of_nonneg s0] at h2
 unfold grE
 cases hg : g s with
 | none => rw [hg] at h2; exact absurd h2 (by simp)
 | some r => rfl
theorem grAll_le {g g' : Int → Option (List S110)} {N : Int} (hg : ∀ s, LeO (g s) (g' s)) (h : grAll g N = true) : grAll g' N = true ∧ ∀ s, 0 ≤ s → s < N → grE g s = grE g' s := by
 have h2 : ∀ s, 0 ≤ s → s < N → g' s = some (grE g s) := fun s s0 s1 => hg s _ (grAll_at h s s0 s1)
 refine ⟨List.all_eq_true.2 (fun i hi => ?_), fun s s0 s1 => ?_⟩
 ·rw [h2 i (by omega) (by rw [List.mem_range] at hi; omega)]; rfl
 ·show grE g s = (g' s).getD []
  rw [h2 s s0 s1]; rfl
def frG (g : Int → Option (List S110)) (k : Nat) (N : Int) (starts : List Int) : Option (List Int) := if grAll g N = true then impl_graph_int_from.f (grE g) k N starts else none
theorem GOut.of {fo : Nat} {cb : Array Value} {N : Int} {g : Int → Option (List S110)} {w0 : World} (ha : grAll g N = true)
  (h : ∀ (W : World) (s : Int) (es : List S110), Below w0.heap.size w0 W → g s = some es → Calls Try.prog fo (#[.int .i64 s] ++ cb) W fun e w' => ∃ v : Value, e = .returned v ∧ Kd.S k110 110 w' W.heap.size (fun _ => True) v es ∧ Below W.heap.size W w') : GOut fo cb N (grE g) w0 :=
 fun W s hW s0 s1 => h W s _ hW (grAll_at ha s s0 s1)
theorem gr_typ {W : World} {a b t u : Nat} {cs ds : Array Value} (h : W.heap[a]? = some (.cells cs t (0, 0))) (h2 : W.heap[b]? = some (.cells ds u (0, 0))) (ht : t ≠ u) : a ≠ b := by
 rintro rfl
 rw [h] at h2
 injection h2 with h2
 injection h2 with _ h2
 exact ht h2
def impl_Crew_costs.f (k : Nat) (ws : List Int) (rs : List Bool) (most : Int) : Option (List Int × Bool) := (impl_last.f (ws.length : Int)).bind fun q => (frG (crewG k ws rs most) k (grN ws.length) [q]).bind fun dist => if 0 < dist.length then some (dist, decide (0 ≤ rdOf 0 dist 0)) else none
def impl_Crew_costs.T2 : Bool × List (List Nat × List Nat) := (true, [([], []), ([], []), ([1], [1]), ([2], [2]), ([3], [3]), ([4], [4]), ([0, 5, 4], [0, 5]), ([6, 6, 0, 1, 2, 3, 4, 5, 6], [6])])
def impl_Crew_costs.B2 : List Nat := [0, 0, 2, 6, 14, 30, 63, 127]
theorem impl_Crew_costs.T2_ : rtab .any (opsOf Try.f58 2) = impl_Crew_costs.T2 := by kernel_rfl
theorem impl_Crew_costs.B2_ : waitsOk impl_Crew_costs.T2.2 impl_Crew_costs.B2 = true := by kernel_rfl
def impl_Crew_costs.T3 : Bool × List (List Nat × List Nat) := (true, [([], []), ([], []), ([], []), ([2], [2]), ([3], [3]), ([4], [4]), ([0, 0], [0]), ([1, 6, 0, 1, 6], [1]), ([5, 7, 0, 1, 2, 3, 4, 5, 6, 7], [5])])
def impl_Crew_costs.B3 : List Nat := [0, 0, 0, 4, 12, 28, 1, 67, 255]
theorem impl_Crew_costs.T3_ : rtab .any (opsOf Try.f58 3) = impl_Crew_costs.T3 := by kernel_rfl
theorem impl_Crew_costs.B3_ : waitsOk impl_Crew_costs.T3.2 impl_Crew_costs.B3 = true := by kernel_rfl
theorem impl_Crew_costs.calls (k : Nat) (Aw : Option Addr) (cw : Nat) (ws : List Int) (Ar : Option Addr) (cr : Nat) (rs : List Bool) (most : Int) (dist : List Int) (b : Bool) (w : World) (hw : Kd.C (Kd.int .i64) w Aw ws.length ws) (hcw : ws.length ≤ cw) (hr : Kd.C Kd.bool w Ar rs.length rs) (hcr : rs.length ≤ cr) (h : impl_Crew_costs.f k ws rs most = some (dist, b)) :
  Calls Try.prog 58 #[.agg #[.slice Aw ws.length cw, .slice Ar rs.length cr, .int .i64 most], .bool false] w fun e w' => ∃ (fo : Nat) (cb : Array Value) (gd cd : Nat), e = .returned (.tuple #[.agg #[.int .i64 (grN ws.length), .func (.func fo) #[] cb], .slice (some ⟨gd, 0, none⟩) dist.length cd, .bool b]) ∧
   (∀ args w, (callFunc fo args).run Try.prog w = .ok (.enter fo args) w) ∧ grAll (crewG k ws rs most) (grN ws.length) = true ∧ GOut fo cb (grN ws.length) (grE (crewG k ws rs most)) w' ∧ Kd.R (Kd.int .i64) 3 w' w.heap.size (fun _ => True) (.slice (some ⟨gd, 0, none⟩) dist.length cd) dist ∧ Below w.heap.size w w' := by
 have hu := Try.underlying43
 have hu2 := Try.underlying68
 unfold impl_Crew_costs.f at h
 obtain ⟨q, h1, h⟩ := Option.bind_eq_some_iff.mp h
 obtain ⟨dist', h2, h⟩ := Option.bind_eq_some_iff.mp h
 by_cases hd : 0 < dist'.length
 rotate_left
 ·rw [if_neg hd] at h; exact absurd h (by simp)
 rw [if_pos hd] at h
 obtain ⟨rfl, rfl⟩ : dist' = dist ∧ decide (0 ≤ rdOf 0 dist' 0) = b := by simpa using h
 unfold frG at h2
 by_cases ha : grAll (crewG k ws rs most) (grN ws.length) = true
 rotate_left
 ·rw [if_neg ha] at h2; exact absurd h2 (by simp)
 rw [if_pos ha] at h2
 have A1 := ak_ fun (W : World) (hb : Below w.heap.size w W) => impl_Crew_graph.calls Aw cw ws Ar cr rs most W (Kd.C_below hw hb)
 have A2 := ak_ fun (W : World) => impl_last.calls (ws.length : Int) q W h1
 have HE := ak_ fun (W : World) (hb : Below w.heap.size w W) (Bn Bc Bl : Nat) (hB : W.heap[Bn]? = some (.cells #[.int .i64 (ws.length : Int)] 3 (0, 0)) ∧ W.heap[Bc]? = some (.cells #[.slice Aw ws.length cw, .slice Ar rs.length cr, .int .i64 most] 43 (0, 0)) ∧ W.heap[Bl]? = some (.cells #[.bool false] 4 (0, 0))) => (GOut.of ha (fun W' s es hW' hs => impl_Crew_graph.calls_1 k Bn Bc Bl Aw cw ws Ar cr rs most s es W' (blk_below hB.1 hW') (blk_below hB.2.1 hW') (blk_below hB.2.2 hW') (Kd.C_below hw (bs_ hb hW')) hcw (Kd.C_below hr (bs_ hb hW')) hcr hs) : GOut 138 #[.pointer (some ⟨Bn, 0, none⟩), .pointer (some ⟨Bc, 0, none⟩), .pointer (some ⟨Bl, 0, none⟩)] (grN ws.length) (grE (crewG k ws rs most)) W)
 have A3 := ak_ fun (W W0 : World) (cb : Array Value) (hE : GOut 138 cb (grN ws.length) (grE (crewG k ws rs most)) W) (bs cs : Nat) (hb0 : Below W.heap.size W W0) (hs : Kd.R (Kd.int .i64) 3 W0 W.heap.size (fun _ => True) (.slice (some ⟨bs, 0, none⟩) [q].length cs) [q]) => impl_graph_int_from.calls 138 cb (grN ws.length) (grE (crewG k ws rs most)) W W0 (enters_of Try.func138 (by kernel_rfl) rfl) hE k [q] dist' bs cs hb0 hs h2
 have HA := ak_ ha
 have HD0 := ak_ hd
 have HB := ak_ (Below.refl w.heap.size w)
 have hc0 : (0 : Int) < (dist'.length : Int) := by omega
 have hcn : (0 < dist'.length) = True := eq_true hd
 clear h h1 h2 hd ha hw hcw hr hcr
 go_enter Try.func58, Try.ntmps58
 go_upto_region 1 with (first | ((with_reducible refine gate_dst (N := 2) rfl ?_); refine bx_ 2 #[.slice Aw ws.length cw, .slice Ar rs.length cr, .int .i64 most] 43 ?_; intro gb2 hg w2 hbox hb; have nb_ := ak_ (bs_ (bb_ HB.out) hb); have nc_ := ak_ hbox; have nd_ := ak_ ((by rw [hg]; exact (bz_ (bb_ HB.out)) : w.heap.size ≤ gb2)); clear HB hb hbox hg; have HB := nb_; have BK2 := nc_; have GE2 := nd_; clear nb_ nc_ nd_; have hz2_0 := (blk_cell BK2.out 0); have hf2_0 := (blk_frozen BK2.out 0); simp at hz2_0; have hz2_1 := (blk_cell BK2.out 1); have hf2_1 := (blk_frozen BK2.out 1); simp at hz2_1; have hz2_2 := (blk_cell BK2.out 2); have hf2_2 := (blk_frozen BK2.out 2); simp at hz2_2; skip) | ((with_reducible refine gate_dst (N := 4) rfl ?_); refine bx_ 4 #[.int .i64 0, .nilFunc] 68 ?_; intro gb4 hg w4 hbox hb; have n0_ := ak_ (blk_below (pk BK2.out) hb); have m0_ := ak_ ((by rw [hg]; exact Nat.ne_of_lt (blk_lt (pk BK2.out)) : gb2 ≠ gb4)); have nb_ := ak_ (bs_ (bb_ HB.out) hb); have nc_ := ak_ hbox; have nd_ := ak_ ((by rw [hg]; exact (bz_ (bb_ HB.out)) : w.heap.size ≤ gb4)); clear HB hb hbox hg; clear BK2; have BK2 := n0_; have NE2_4 := m0_; have HB := nb_; have BK4 := nc_; have GE4 := nd_; clear nb_ nc_ nd_ n0_ m0_; have hz4_0 := (blk_cell BK4.out 0); have hf4_0 := (blk_frozen BK4.out 0); simp at hz4_0; have hz4_1 := (blk_cell BK4.out 1); have hf4_1 := (blk_frozen BK4.out 1); simp at hz4_1; skip))
 have hq0 := blk_cell BK2.out 0
 have hq1 := blk_cell BK2.out 1
 have hq2 := blk_cell BK2.out 2
 simp at hq0
 simp at hq1
 simp at hq2
 go_upto_region 2 with (first | (go_at_call 102; refine (A1.out _ (bb_ HB.out)).mono ?_; rintro e w11 ⟨Bn, Bc, Bl, rfl, hB, hb⟩; have HK := ak_ hB; clear hB A1; have n0_ := ak_ (blk_below (pk BK2.out) hb); have n1_ := ak_ (blk_below (pk BK4.out) hb); have n2_ := ak_ (bs_ (bb_ HB.out) hb); clear BK2 BK4 HB hb; have BK2 := n0_; have BK4 := n1_; have HB := n2_; clear n0_ n1_ n2_) | ((with_reducible refine gate_dst (N := 7) rfl ?_); refine bx_ 7 #[.int .i64 0, .nilFunc] 68 ?_; intro gb7 hg w7 hbox hb; have n0_ := ak_ (blk_below (pk BK2.out) hb); have m0_ := ak_ ((by rw [hg]; exact Nat.ne_of_lt (blk_lt (pk BK2.out)) : gb2 ≠ gb7)); have n1_ := ak_ (blk_below (pk BK4.out) hb); have m1_ := ak_ ((by rw [hg]; exact Nat.ne_of_lt (blk_lt (pk BK4.out)) : gb4 ≠ gb7)); have nb_ := ak_ (bs_ (bb_ HB.out) hb); have nc_ := ak_ hbox; have nd_ := ak_ ((by rw [hg]; exact (bz_ (bb_ HB.out)) : w.heap.size ≤ gb7)); have nk_ := ak_ (show w7.heap[Bn]? = some (.cells #[.int .i64 (ws.length : Int)] 3 (0, 0)) ∧ w7.heap[Bc]? = some (.cells #[.slice Aw ws.length cw, .slice Ar rs.length cr, .int .i64 most] 43 (0, 0)) ∧ w7.heap[Bl]? = some (.cells #[.bool false] 4 (0, 0)) from And.intro (blk_below (pk HK.out.1) hb) (And.intro (blk_below (pk HK.out.2.1) hb) (blk_below (pk HK.out.2.2) hb))); clear HB hb hbox hg HK; have HK := nk_; clear nk_; clear BK2 BK4; have BK2 := n0_; have NE2_7 := m0_; have BK4 := n1_; have NE4_7 := m1_; have HB := nb_; have BK7 := nc_; have GE7 := nd_; clear nb_ nc_ nd_ n0_ m0_ n1_ m1_; have hz7_0 := (blk_cell BK7.out 0); have hf7_0 := (blk_frozen BK7.out 0); simp at hz7_0; have hz7_1 := (blk_cell BK7.out 1); have hf7_1 := (blk_frozen BK7.out 1); simp at hz7_1; skip))
 have B71 := ak_ (blk_put (cs' := #[.int .i64 (grN ws.length), .func (.func 138) #[] #[.pointer (some ⟨Bn, 0, none⟩), .pointer (some ⟨Bc, 0, none⟩), .pointer (some ⟨Bl, 0, none⟩)]]) (blk_put (cs' := #[.int .i64 (grN ws.length), .nilFunc]) BK7.out 0 (.int .i64 (grN ws.length)) rfl) 1 (.func (.func 138) #[] #[.pointer (some ⟨Bn, 0, none⟩), .pointer (some ⟨Bc, 0, none⟩), .pointer (some ⟨Bl, 0, none⟩)]) rfl)
 have B21 := ak_ (blk_far (p := ⟨gb7, 1, none⟩) (blk_far (p := ⟨gb7, 0, none⟩) BK2.out NE2_7.out (.int .i64 (grN ws.length))) NE2_7.out (.func (.func 138) #[] #[.pointer (some ⟨Bn, 0, none⟩), .pointer (some ⟨Bc, 0, none⟩), .pointer (some ⟨Bl, 0, none⟩)]))
 have B41 := ak_ (blk_far (p := ⟨gb7, 1, none⟩) (blk_far (p := ⟨gb7, 0, none⟩) BK4.out NE4_7.out (.int .i64 (grN ws.length))) NE4_7.out (.func (.func 138) #[] #[.pointer (some ⟨Bn, 0, none⟩), .pointer (some ⟨Bc, 0, none⟩), .pointer (some ⟨Bl, 0, none⟩)]))
 have K71 := ak_ (show ((w7.setCell ⟨gb7, 0, none⟩ (.int .i64 (grN ws.length))).setCell ⟨gb7, 1, none⟩ (.func (.func 138) #[] #[.pointer (some ⟨Bn, 0, none⟩), .pointer (some ⟨Bc, 0, none⟩), .pointer (some ⟨Bl, 0, none⟩)])).heap[Bn]? = some (.cells #[.int .i64 (ws.length : Int)] 3 (0, 0)) ∧ ((w7.setCell ⟨gb7, 0, none⟩ (.int .i64 (grN ws.length))).setCell ⟨gb7, 1, none⟩ (.func (.func 138) #[] #[.pointer (some ⟨Bn, 0, none⟩), .pointer (some ⟨Bc, 0, none⟩), .pointer (some ⟨Bl, 0, none⟩)])).heap[Bc]? = some (.cells #[.slice Aw ws.length cw, .slice Ar rs.length cr, .int .i64 most] 43 (0, 0)) ∧ ((w7.setCell ⟨gb7, 0, none⟩ (.int .i64 (grN ws.length))).setCell ⟨gb7, 1, none⟩ (.func (.func 138) #[] #[.pointer (some ⟨Bn, 0, none⟩), .pointer (some ⟨Bc, 0, none⟩), .pointer (some ⟨Bl, 0, none⟩)])).heap[Bl]? = some (.cells #[.bool false] 4 (0, 0)) from And.intro (blk_far (blk_far HK.out.1 (gr_typ HK.out.1 BK7.out (by decide)) (.int .i64 (grN ws.length))) (gr_typ HK.out.1 BK7.out (by decide)) (.func (.func 138) #[] #[.pointer (some ⟨Bn, 0, none⟩), .pointer (some ⟨Bc, 0, none⟩), .pointer (some ⟨Bl, 0, none⟩)])) (And.intro (blk_far (blk_far HK.out.2.1 (gr_typ HK.out.2.1 BK7.out (by decide)) (.int .i64 (grN ws.length))) (gr_typ HK.out.2.1 BK7.out (by decide)) (.func (.func 138) #[] #[.pointer (some ⟨Bn, 0, none⟩), .pointer (some ⟨Bc, 0, none⟩), .pointer (some ⟨Bl, 0, none⟩)])) (blk_far (blk_far HK.out.2.2 (gr_typ HK.out.2.2 BK7.out (by decide)) (.int .i64 (grN ws.length))) (gr_typ HK.out.2.2 BK7.out (by decide)) (.func (.func 138) #[] #[.pointer (some ⟨Bn, 0, none⟩), .pointer (some ⟨Bc, 0, none⟩), .pointer (some ⟨Bl, 0, none⟩)]))))
 have HB1 := ak_ (below_set (v := (.func (.func 138) #[] #[.pointer (some ⟨Bn, 0, none⟩), .pointer (some ⟨Bc, 0, none⟩), .pointer (some ⟨Bl, 0, none⟩)])) (j := 1) (below_set (v := (.int .i64 (grN ws.length))) (j := 0) HB.out GE7.out) GE7.out)
 generalize (w7.setCell ⟨gb7, 0, none⟩ (.int .i64 (grN ws.length))).setCell ⟨gb7, 1, none⟩ (.func (.func 138) #[] #[.pointer (some ⟨Bn, 0, none⟩), .pointer (some ⟨Bc, 0, none⟩), .pointer (some ⟨Bl, 0, none⟩)]) = w8 at B71 B21 B41 K71 HB1 ⊢
 clear BK2 BK4 BK7 HB HK
 have BK2 := B21; have BK4 := B41; have BK7 := B71; have HB := HB1; have HK := K71
 clear B21 B41 B71 HB1 K71
 have n0_ := ak_ (k1_ BK2.out); have n1_ := ak_ (k1_ BK4.out); have n2_ := ak_ (k1_ BK7.out); have n3_ := ak_ (And.intro (k1_ HK.out.1) (And.intro (k1_ HK.out.2.1) (k1_ HK.out.2.2))); have n4_ := ak_ (b1_ HB.out); clear BK2 BK4 BK7 HK HB; have BK2 := n0_; have BK4 := n1_; have BK7 := n2_; have HK := n3_; have HB := n4_; clear n0_ n1_ n2_ n3_ n4_
 refine start_ (n := 8) (S := fun w' => w'.cell? ⟨gb7, 0, none⟩ = some (.int .i64 (grN ws.length)) ∧ w'.cell? ⟨gb7, 1, none⟩ = some (.func (.func 138) #[] #[.pointer (some ⟨Bn, 0, none⟩), .pointer (some ⟨Bc, 0, none⟩), .pointer (some ⟨Bl, 0, none⟩)]) ∧ w'.cell? ⟨gb2, 0, none⟩ = some (.slice Aw ws.length cw)) (ds := []) (mb_ 8 0) (by kernel_rfl) rfl rfl ⟨(blk_cell BK7.out 0).trans rfl, (blk_cell BK7.out 1).trans rfl, (blk_cell BK2.out 0).trans rfl⟩ (fun hHeld => ?_); refine with_tabW impl_Crew_costs.T2_ impl_Crew_costs.B2_ (fun HT_ HW_ => ?_)
 generalize w8.drew = w9 at BK2 BK4 BK7 HK HB hHeld ⊢
 refine tk_ 0 12 8 1 ?_ (hy := by rintro w' ⟨s0, s1, s2⟩; go_simp; with_reducible rfl)
 refine pu_ 1 13 8 3 ?_
 refine tk_ 2 14 8 7 ?_ (hy := by rintro w' ⟨s0, s1, s2⟩; go_simp; with_reducible rfl)
 refine pu_ 3 15 8 15 ?_
 refine on_ 4 16 8 31 (fun K hK => ?_)
 refine goes_ Try.func85 (by kernel_rfl) rfl #[.int .i64 (ws.length : Int)] (by rfl) rfl rfl (by first | rfl | (simp only [map_toArray, map_cons, map_nil]; try rfl)) ?_
 refine (A2.out _).mono ?_
 rintro e_ w10 ⟨rfl, ⟨nd, rfl⟩⟩
 refine ⟨_, rfl, ?_⟩
 have n0_ := ak_ (kN_ BK2.out nd); have n1_ := ak_ (kN_ BK4.out nd); have n2_ := ak_ (kN_ BK7.out nd); have n3_ := ak_ (And.intro (kN_ HK.out.1 nd) (And.intro (kN_ HK.out.2.1 nd) (kN_ HK.out.2.2 nd))); have n4_ := ak_ (bN_ HB.out nd); clear BK2 BK4 BK7 HK HB; have BK2 := n0_; have BK4 := n1_; have BK7 := n2_; have HK := n3_; have HB := n4_; clear n0_ n1_ n2_ n3_ n4_
 generalize w9.drewN nd = w10 at BK2 BK4 BK7 HK HB ⊢
 refine hK.out _ _ ⟨(blk_cell BK7.out 0).trans rfl, (blk_cell BK7.out 1).trans rfl, (blk_cell BK2.out 0).trans rfl⟩ (fun hHeld => ?_)
 clear hK K
 refine nm_ ?_
 refine on_ 5 17 8 63 (fun K hK => ?_)
 refine Kd.R_lit_step (Kd.int .i64) w10.heap.size 3 ?hg (N := 17) ?hd (xs := [q]) (inner := [.int .i64 q]) (ok := fun _ => True) (okp := fun _ => True) ?hr ?hp (fun _ hk => hk) trivial (Below.refl w10.heap.size w10) (Nat.le_refl _) (by simp) ?_; (case hd => rfl); (case hg => rfl); (case hr => go_simp <;> rfl); (case hp => exact (Reps.one (show Kd.M (Kd.int .i64) _ _ _ q [.int .i64 q] from rfl) (Reps.none _ _)))
 intro s2 w11 ho0 hb0 hg_ hnew_
 clear hg_ hnew_
 obtain ⟨bs, cs, rfl, -, -, -⟩ := Kd.R_form ho0 (by simp)
 have HS := ak_ ho0
 have HB11 := ak_ hb0
 have HB10 := ak_ HB.out; have B10 := ak_ (And.intro BK2.out (And.intro BK4.out BK7.out)); have HE2 := ak_ (HE.out w10 HB.out Bn Bc Bl HK.out)
 have n0_ := ak_ (blk_below BK2.out hb0); have n1_ := ak_ (blk_below BK4.out hb0); have n2_ := ak_ (blk_below BK7.out hb0); have n3_ := ak_ (bs_ HB.out hb0); clear BK2 BK4 BK7 HB hb0 ho0; have BK2 := n0_; have BK4 := n1_; have BK7 := n2_; have HB := n3_; clear n0_ n1_ n2_ n3_
 refine hK.out _ _ ⟨(blk_cell BK7.out 0).trans rfl, (blk_cell BK7.out 1).trans rfl, (blk_cell BK2.out 0).trans rfl⟩ (fun hHeld => ?_)
 clear hK K
 refine nm_ ?_
 refine on_ 6 18 8 127 (fun K hK => ?_)
 refine goes_ Try.func84 (by kernel_rfl) rfl #[.agg #[.int .i64 (grN ws.length), .func (.func 138) #[] #[.pointer (some ⟨Bn, 0, none⟩), .pointer (some ⟨Bc, 0, none⟩), .pointer (some ⟨Bl, 0, none⟩)]], .slice (some ⟨bs, 0, none⟩) [q].length cs] (by rfl) rfl rfl (by first | rfl | (simp only [map_toArray, map_cons, map_nil]; try rfl)) ?_
 refine (A3.out w10 w11 _ HE2.out bs cs HB11.out HS.out).mono ?_
 rintro e_ w12 ⟨v12, rfl, hdi, hb⟩
 refine ⟨_, rfl, ?_⟩
 obtain ⟨gd, cd, rfl, -, -, -⟩ := Kd.R_form hdi HD0.out
 have HD := ak_ (Kd.R_lower hdi (bz_ HB10.out))
 have n0_ := ak_ (blk_below B10.out.1 hb); have n1_ := ak_ (blk_below B10.out.2.1 hb); have n2_ := ak_ (blk_below B10.out.2.2 hb); have n3_ := ak_ (And.intro (blk_below HK.out.1 hb) (And.intro (blk_below HK.out.2.1 hb) (blk_below HK.out.2.2 hb))); have n4_ := ak_ (bs_ HB10.out hb); clear BK2 BK4 BK7 HE2 HK HB HS HB11 HB10 hdi hb B10; have BK2 := n0_; have BK4 := n1_; have BK7 := n2_; have HK := n3_; have HB := n4_; clear n0_ n1_ n2_ n3_ n4_
 refine hK.out _ _ ⟨(blk_cell BK7.out 0).trans rfl, (blk_cell BK7.out 1).trans rfl, (blk_cell BK2.out 0).trans rfl⟩ (fun hHeld => ?_)
 clear hK K
 refine nm_ ?_
 refine pu_ 7 8 8 255 ?_
 refine done_ (done_of HT_.out (by kernel_rfl)) ?_
 try go_wp2
 have n0_ := ak_ (k1_ BK2.out); have n1_ := ak_ (k1_ BK4.out); have n2_ := ak_ (k1_ BK7.out); have n3_ := ak_ (And.intro (k1_ HK.out.1) (And.intro (k1_ HK.out.2.1) (k1_ HK.out.2.2))); have n4_ := ak_ (b1_ HB.out); have n5_ := ak_ (Kd.R_drew HD.out); clear BK2 BK4 BK7 HK HB HD; have BK2 := n0_; have BK4 := n1_; have BK7 := n2_; have HK := n3_; have HB := n4_; have HD := n5_; clear n0_ n1_ n2_ n3_ n4_ n5_
 have hx0_ := ((Kd.R_celln 0 HD.out 0 (by omega) (by omega)).1 : w12.drew.cell? ⟨gd, 0, none⟩ = some (.int .i64 (rdOf 0 dist' 0)))
 have HX := ak_ hx0_
 clear hx0_
 refine start_ (n := 9) (S := fun w' => w'.cell? ⟨gb7, 0, none⟩ = some (.int .i64 (grN ws.length)) ∧ w'.cell? ⟨gb7, 1, none⟩ = some (.func (.func 138) #[] #[.pointer (some ⟨Bn, 0, none⟩), .pointer (some ⟨Bc, 0, none⟩), .pointer (some ⟨Bl, 0, none⟩)]) ∧ w'.cell? ⟨gd, 0, none⟩ = some (.int .i64 (rdOf 0 dist' 0))) (ds := []) (mb_ 9 0) (by kernel_rfl) rfl rfl ⟨(blk_cell BK7.out 0).trans rfl, (blk_cell BK7.out 1).trans rfl, HX.out⟩ (fun hHeld => ?_); refine with_tabW impl_Crew_costs.T3_ impl_Crew_costs.B3_ (fun HT_ HW_ => ?_)
 generalize w12.drew = w13 at BK2 BK4 BK7 HK HB HD HX hHeld ⊢
 refine tk_ 0 19 9 1 ?_ (hy := by rintro w' ⟨s0, s1, s2⟩; go_simp; with_reducible rfl)
 refine pu_ 1 20 9 3 ?_
 refine pu_ 2 21 9 7 ?_
 refine pu_ 3 22 9 15 ?_
 refine tk_ 4 23 9 31 ?_ (hy := by rintro w' ⟨s0, s1, s2⟩; go_simp; with_reducible rfl)
 refine pu_ 5 24 9 63 ?_
 refine one_ (i := 6) (N := none) (mb_ 9 127) rfl rfl (one_of HT_.out (by kernel_rfl)) (by decide) (fun K hK => ?_)
 have hz40 := blk_cell BK4.out 0
 have hz41 := blk_cell BK4.out 1
 have hf40 := blk_frozen BK4.out 0
 have hf41 := blk_frozen BK4.out 1
 simp at hz40
 simp at hz41
 have B41 := ak_ (blk_put (cs' := #[.int .i64 (grN ws.length), .func (.func 138) #[] #[.pointer (some ⟨Bn, 0, none⟩), .pointer (some ⟨Bc, 0, none⟩), .pointer (some ⟨Bl, 0, none⟩)]]) (blk_put (cs' := #[.int .i64 (grN ws.length), .nilFunc]) BK4.out 0 (.int .i64 (grN ws.length)) rfl) 1 (.func (.func 138) #[] #[.pointer (some ⟨Bn, 0, none⟩), .pointer (some ⟨Bc, 0, none⟩), .pointer (some ⟨Bl, 0, none⟩)]) rfl)
 have B71 := ak_ (blk_far (p := ⟨gb4, 1, none⟩) (blk_far (p := ⟨gb4, 0, none⟩) BK7.out NE4_7.out.symm (.int .i64 (grN ws.length))) NE4_7.out.symm (.func (.func 138) #[] #[.pointer (some ⟨Bn, 0, none⟩), .pointer (some ⟨Bc, 0, none⟩), .pointer (some ⟨Bl, 0, none⟩)]))
 have D1 := ak_ (Kd.R_set (Kd.R_set HD.out BK4.out (by decide) 0 (.int .i64 (grN ws.length))) (blk_put (cs' := #[.int .i64 (grN ws.length), .nilFunc]) BK4.out 0 (.int .i64 (grN ws.length)) rfl) (by decide) 1 (.func (.func 138) #[] #[.pointer (some ⟨Bn, 0, none⟩), .pointer (some ⟨Bc, 0, none⟩), .pointer (some ⟨Bl, 0, none⟩)]))
 have HB1 := ak_ (below_set (v := (.func (.func 138) #[] #[.pointer (some ⟨Bn, 0, none⟩), .pointer (some ⟨Bc, 0, none⟩), .pointer (some ⟨Bl, 0, none⟩)])) (j := 1) (below_set (v := (.int .i64 (grN ws.length))) (j := 0) HB.out GE4.out) GE4.out)
 have K1 := ak_ (show ((w13.setCell ⟨gb4, 0, none⟩ (.int .i64 (grN ws.length))).setCell ⟨gb4, 1, none⟩ (.func (.func 138) #[] #[.pointer (some ⟨Bn, 0, none⟩), .pointer (some ⟨Bc, 0, none⟩), .pointer (some ⟨Bl, 0, none⟩)])).heap[Bn]? = some (.cells #[.int .i64 (ws.length : Int)] 3 (0, 0)) ∧ ((w13.setCell ⟨gb4, 0, none⟩ (.int .i64 (grN ws.length))).setCell ⟨gb4, 1, none⟩ (.func (.func 138) #[] #[.pointer (some ⟨Bn, 0, none⟩), .pointer (some ⟨Bc, 0, none⟩), .pointer (some ⟨Bl, 0, none⟩)])).heap[Bc]? = some (.cells #[.slice Aw ws.length cw, .slice Ar rs.length cr, .int .i64 most] 43 (0, 0)) ∧ ((w13.setCell ⟨gb4, 0, none⟩ (.int .i64 (grN ws.length))).setCell ⟨gb4, 1, none⟩ (.func (.func 138) #[] #[.pointer (some ⟨Bn, 0, none⟩), .pointer (some ⟨Bc, 0, none⟩), .pointer (some ⟨Bl, 0, none⟩)])).heap[Bl]? = some (.cells #[.bool false] 4 (0, 0)) from And.intro (blk_far (blk_far HK.out.1 (gr_typ HK.out.1 BK4.out (by decide)) (.int .i64 (grN ws.length))) (gr_typ HK.out.1 BK4.out (by decide)) (.func (.func 138) #[] #[.pointer (some ⟨Bn, 0, none⟩), .pointer (some ⟨Bc, 0, none⟩), .pointer (some ⟨Bl, 0, none⟩)])) (And.intro (blk_far (blk_far HK.out.2.1 (gr_typ HK.out.2.1 BK4.out (by decide)) (.int .i64 (grN ws.length))) (gr_typ HK.out.2.1 BK4.out (by decide)) (.func (.func 138) #[] #[.pointer (some ⟨Bn, 0, none⟩), .pointer (some ⟨Bc, 0, none⟩), .pointer (some ⟨Bl, 0, none⟩)])) (blk_far (blk_far HK.out.2.2 (gr_typ HK.out.2.2 BK4.out (by decide)) (.int .i64 (grN ws.length))) (gr_typ HK.out.2.2 BK4.out (by decide)) (.func (.func 138) #[] #[.pointer (some ⟨Bn, 0, none⟩), .pointer (some ⟨Bc, 0, none⟩), .pointer (some ⟨Bl, 0, none⟩)]))))
 refine skip_ (w1 := ?_) (by rfl) rfl ?_ ?_
 rotate_left
 ·go_simp
  rfl
 generalize (w13.setCell ⟨gb4, 0, none⟩ (.int .i64 (grN ws.length))).setCell ⟨gb4, 1, none⟩ (.func (.func 138) #[] #[.pointer (some ⟨Bn, 0, none⟩), .pointer (some ⟨Bc, 0, none⟩), .pointer (some ⟨Bl, 0, none⟩)]) = w14 at B41 B71 D1 HB1 K1 ⊢
 have hx0_ := ((Kd.R_celln 0 D1.out 0 (by omega) (by omega)).1 : w14.cell? ⟨gd, 0, none⟩ = some (.int .i64 (rdOf 0 dist' 0)))
 refine hK.out _ _ ⟨(blk_cell B71.out 0).trans rfl, (blk_cell B71.out 1).trans rfl, hx0_⟩ (fun hHeld => ?_)
 clear hK K hx0_
 refine pu_ 7 5 9 255 ?_
 refine pu_ 8 6 9 511 ?_
 refine done_ (done_of HT_.out (by kernel_rfl)) ?_
 try go_wp2
 refine bodyPost_ret (results_ctt rfl _ _ gb4 68 #[.int .i64 (grN ws.length), .func (.func 138) #[] #[.pointer (some ⟨Bn, 0, none⟩), .pointer (some ⟨Bc, 0, none⟩), .pointer (some ⟨Bl, 0, none⟩)]] (0, 0) _ rfl B41.out Try.underlying68 rfl (by kernel_rfl)) rfl ?_
 exact ⟨138, #[.pointer (some ⟨Bn, 0, none⟩), .pointer (some ⟨Bc, 0, none⟩), .pointer (some ⟨Bl, 0, none⟩)], gd, cd, rfl, enters_of Try.func138 (by kernel_rfl) rfl, HA.out, HE.out w14 HB1.out Bn Bc Bl K1.out, D1.out, HB1.out⟩
end Go.Proofs.Ythkchdfkeieabaa.QGr
