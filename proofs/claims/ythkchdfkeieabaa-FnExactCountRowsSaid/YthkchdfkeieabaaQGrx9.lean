/- Contracts of functions of the given program, walked: each call returns what its Lean function says. Conditions: those that stand at each theorem. (Written by a program of this session.) -/
import Derived.Test.YthkchdfkeieabaaQGrx0
import Derived.Test.YthkchdfkeieabaaQGrx7
import Derived.Test.YthkchdfkeieabaaQGrx8
namespace Go.Proofs.Ythkchdfkeieabaa.QGr
open Go.RowKit Go.Proofs.YthkchdfkeieabaaW.PrintWords Go.Proofs.YthkchdfkeieabaaW.PrintLast Go.Proofs.YthkchdfkeieabaaW.PrintMore
attribute [local go_sem] max2_int min2_int max_two min_two max_three min_three max_four min_four   -- for this text's walks alone
set_option linter.unusedVariables false
set_option linter.unusedSimpArgs false

/-! ### impl_Company_rows: function 124, its closure -/
def cmSt (k : Nat) (ov : List Bool) (tq : Bool) (l : List Int) (acc : List (List Int)) : Option (List (List Int)) :=
  (impl_calm.f k l).bind fun b => if b = true then (impl_State_moved.f k ov tq l).bind fun m => (impl_State_isCalm.f k m.1 m.2).bind fun b2 => if b2 = true then (if acc.length < 1000000 then some (acc ++ [l]) else none) else some acc else some acc
theorem gOn_mono {α : Type} {st st' : List Int → List α → Option (List α)} (h : ∀ l a, LeO (st l a) (st' l a)) (most : Int) : ∀ P l acc, LeO (gOn st most P l acc) (gOn st' most P l acc)
  | [], _, _ => LeO.refl _
  | x :: P, l, acc => LeO.ite (LeO.bind (h _ _) (fun _ => LeO.bind (gOn_mono h most P _ _) (fun _ => gOn_mono h most P _ _))) (LeO.refl _)
theorem gp_lit0 {α : Type} (d : Kd α) (e : Nat) (W : World) {base : Nat} (hb : base ≤ W.heap.size) : Kd.S d e (W.alloc (.cells #[] e)) base (fun _ => True) (.slice (some ⟨W.heap.size, 0, none⟩) 0 0) [] := by
  refine ⟨fun _ => 0, fun _ _ => trivial, [], ?_, Reps.none _ _⟩
  have h2 := World.ownsRow_lit (base := base) (e := e) (size := d.sz) W #[] 0 hb (by simp [maxLen]) (by simp)
  have h3 : (W.alloc (.cells #[] e)).ownsRow base e d.sz (.slice (some ⟨W.heap.size, 0, none⟩) 0 0) 0 [] := by simpa using h2
  exact h3
theorem gp_new2 (W : World) (o o2 : Obj) : ((W.alloc o).alloc o2).heap[W.heap.size + 1]? = some o2 := by
  have h := blk_new (W.alloc o) o2
  have e : (W.alloc o).heap.size = W.heap.size + 1 := Array.size_push ..
  rw [e] at h
  exact h
theorem cmSt_mono (k : Nat) (ov : List Bool) (tq : Bool) (l : List Int) (acc : List (List Int)) : LeO (cmSt k ov tq l acc) (cmSt (k + 1) ov tq l acc) :=
  LeO.bind (impl_calm.mono _ _) (fun _ => LeO.ite (LeO.bind (impl_State_moved.mono _ _ _ _) (fun _ => LeO.bind (impl_State_isCalm.mono _ _ _) (fun _ => LeO.refl _))) (LeO.refl _))
set_option maxHeartbeats 8000000 in
set_option maxRecDepth 100000 in
theorem row_each (k : Nat) (B g : Nat) (w0 : World) (Ao : Option Addr) (co : Nat) (ov : List Bool) (tq : Bool) (hB : w0.heap[B]? = some (.cells #[.slice Ao ov.length co, .bool tq] 115 (0, 0)))
    (ho : Kd.C Kd.bool w0 Ao ov.length ov) (hco : ov.length ≤ co) : GpEach (Kd.slice 3 (Kd.int .i64)) 29 47 (cmSt k ov tq) g 156 #[.pointer (some ⟨B, 0, none⟩), .pointer (some ⟨g, 0, none⟩)] w0 := by
  intro W v vL l acc a1 hst hl hs
  have hu := Try.underlying115
  unfold cmSt at hs
  obtain ⟨b, h1, hs⟩ := Option.bind_eq_some_iff.mp hs
  obtain ⟨A1, c1, rfl, hle, hl1⟩ := gp_row hl
  obtain ⟨A, c, rfl⟩ := Kd.S_slice hst.row
  have A2 := Aside0.mk (impl_calm.calls k A1 c1 l b W hl1 hle h1)
  have BB := Aside0.mk (blk_below hB hst.bel)
  have ST := Aside0.mk hst
  have RL := Aside0.mk hl
  have HBW := Aside0.mk (Below.refl W.heap.size W)
  have FR := Aside0.mk (GpFr.below (g := g) (v := .slice A acc.length c) (Below.refl W.heap.size W))
  cases b
  · rw [if_neg (by simp)] at hs
    obtain rfl := Option.some.inj hs
    clear hs h1 hst hl hl1 hle ho hco hB
    go_enter Try.func156, Try.ntmps156
    go_wp2_with (go_at_call 157; refine A2.out.mono ?_; rintro e w6 ⟨rfl, hb⟩; have n0_ := Aside0.mk (ST.out.up hb); have n1_ := Aside0.mk (Kd.R_below RL.out hb); have n2_ := Aside0.mk (FR.out.trans (GpFr.below hb)); have n3_ := Aside0.mk (blk_below BB.out hb); have n4_ := Aside0.mk (below_step (by repeat (first | (with_reducible first | exact HBW.out | apply below_alloc | apply pw_below_drewN | apply below_drew1) | exact HBW.out)) hb); clear ST RL FR BB HBW hb A2; have ST := n0_; have RL := n1_; have FR := n2_; have BB := n3_; have HBW := n4_; clear n0_ n1_ n2_ n3_ n4_; have hz0 := blk_cell BB.out 0; have hz1 := blk_cell BB.out 1; simp at hz0; simp at hz1)
    go_end0
    exact ⟨rfl, _, ST.out.any, FR.out⟩
  · rw [if_pos rfl] at hs
    obtain ⟨⟨mo, mt⟩, h2, hs⟩ := Option.bind_eq_some_iff.mp hs
    obtain ⟨b2, h3, hs⟩ := Option.bind_eq_some_iff.mp hs
    have A3 := Aside0.mk fun (W2 : World) (hb : Below W.heap.size W W2) => impl_State_moved.calls k Ao co ov tq A1 c1 l mo mt W2 (Kd.C_below (Kd.C_below ho hst.bel) hb) hco (Kd.C_below hl1 hb) hle h2
    have A4 := Aside0.mk fun (W2 : World) (Am : Option Addr) (cm : Nat) (hm : Kd.C Kd.bool W2 Am mo.length mo) (hcm : mo.length ≤ cm) => impl_State_isCalm.calls k Am cm mo mt b2 W2 hm hcm h3
    cases b2
    · rw [if_neg (by simp)] at hs
      obtain rfl := Option.some.inj hs
      clear hs h1 h2 h3 hst hl hl1 hle ho hco hB
      go_enter Try.func156, Try.ntmps156
      go_wp2_with (first | (go_at_call 157; refine A2.out.mono ?_; rintro e w6 ⟨rfl, hb⟩; have n0_ := Aside0.mk (ST.out.up hb); have n1_ := Aside0.mk (Kd.R_below RL.out hb); have n2_ := Aside0.mk (FR.out.trans (GpFr.below hb)); have n3_ := Aside0.mk (blk_below BB.out hb); have n4_ := Aside0.mk (below_step (by repeat (first | (with_reducible first | exact HBW.out | apply below_alloc | apply pw_below_drewN | apply below_drew1) | exact HBW.out)) hb); clear ST RL FR BB HBW hb A2; have ST := n0_; have RL := n1_; have FR := n2_; have BB := n3_; have HBW := n4_; clear n0_ n1_ n2_ n3_ n4_; have hz0 := blk_cell BB.out 0; have hz1 := blk_cell BB.out 1; simp at hz0; simp at hz1) | (go_at_call 125; refine (A3.out _ (by repeat (first | (with_reducible first | exact HBW.out | apply below_alloc | apply pw_below_drewN | apply below_drew1) | exact HBW.out))).mono ?_; rintro e w7 ⟨v7, rfl, ho7, hb⟩; obtain ⟨Am, cm, rfl⟩ := Kd.R_slice ho7; have OM := Aside0.mk ho7; clear hz0 hz1; have n0_ := Aside0.mk (ST.out.up hb); have n1_ := Aside0.mk (Kd.R_below RL.out hb); have n2_ := Aside0.mk (FR.out.trans (GpFr.below hb)); have n3_ := Aside0.mk (blk_below BB.out hb); have n4_ := Aside0.mk (below_step (by repeat (first | (with_reducible first | exact HBW.out | apply below_alloc | apply pw_below_drewN | apply below_drew1) | exact HBW.out)) hb); clear ST RL FR BB HBW hb ho7 A3; have ST := n0_; have RL := n1_; have FR := n2_; have BB := n3_; have HBW := n4_; clear n0_ n1_ n2_ n3_ n4_) | (go_at_call 158; refine (A4.out _ Am cm (Kd.R_reads' OM.out).2.2 (Kd.R_reads' OM.out).2.1).mono ?_; rintro e w8 ⟨rfl, hb⟩; clear OM; have n0_ := Aside0.mk (ST.out.up hb); have n1_ := Aside0.mk (Kd.R_below RL.out hb); have n2_ := Aside0.mk (FR.out.trans (GpFr.below hb)); have n3_ := Aside0.mk (blk_below BB.out hb); have n4_ := Aside0.mk (below_step (by repeat (first | (with_reducible first | exact HBW.out | apply below_alloc | apply pw_below_drewN | apply below_drew1) | exact HBW.out)) hb); clear ST RL FR BB HBW hb A4; have ST := n0_; have RL := n1_; have FR := n2_; have BB := n3_; have HBW := n4_; clear n0_ n1_ n2_ n3_ n4_))
      go_end0
      exact ⟨rfl, _, ST.out.any, FR.out⟩
    · rw [if_pos rfl] at hs
      by_cases hlen : acc.length < 1000000
      rotate_left
      · rw [if_neg hlen] at hs; exact absurd hs (by simp)
      rw [if_pos hlen] at hs
      obtain rfl := Option.some.inj hs
      have HLEN := Aside0.mk hlen
      clear hs h1 h2 h3 hst hl hl1 hle ho hco hB hlen
      go_enter Try.func156, Try.ntmps156
      go_upto_region 1 with (first | (go_at_call 157; refine A2.out.mono ?_; rintro e w6 ⟨rfl, hb⟩; have n0_ := Aside0.mk (ST.out.up hb); have n1_ := Aside0.mk (Kd.R_below RL.out hb); have n2_ := Aside0.mk (FR.out.trans (GpFr.below hb)); have n3_ := Aside0.mk (blk_below BB.out hb); have n4_ := Aside0.mk (below_step (by repeat (first | (with_reducible first | exact HBW.out | apply below_alloc | apply pw_below_drewN | apply below_drew1) | exact HBW.out)) hb); clear ST RL FR BB HBW hb A2; have ST := n0_; have RL := n1_; have FR := n2_; have BB := n3_; have HBW := n4_; clear n0_ n1_ n2_ n3_ n4_; have hz0 := blk_cell BB.out 0; have hz1 := blk_cell BB.out 1; simp at hz0; simp at hz1) | (go_at_call 125; refine (A3.out _ (by repeat (first | (with_reducible first | exact HBW.out | apply below_alloc | apply pw_below_drewN | apply below_drew1) | exact HBW.out))).mono ?_; rintro e w7 ⟨v7, rfl, ho7, hb⟩; obtain ⟨Am, cm, rfl⟩ := Kd.R_slice ho7; have OM := Aside0.mk ho7; clear hz0 hz1; have n0_ := Aside0.mk (ST.out.up hb); have n1_ := Aside0.mk (Kd.R_below RL.out hb); have n2_ := Aside0.mk (FR.out.trans (GpFr.below hb)); have n3_ := Aside0.mk (blk_below BB.out hb); have n4_ := Aside0.mk (below_step (by repeat (first | (with_reducible first | exact HBW.out | apply below_alloc | apply pw_below_drewN | apply below_drew1) | exact HBW.out)) hb); clear ST RL FR BB HBW hb ho7 A3; have ST := n0_; have RL := n1_; have FR := n2_; have BB := n3_; have HBW := n4_; clear n0_ n1_ n2_ n3_ n4_) | (go_at_call 158; refine (A4.out _ Am cm (Kd.R_reads' OM.out).2.2 (Kd.R_reads' OM.out).2.1).mono ?_; rintro e w8 ⟨rfl, hb⟩; clear OM; have n0_ := Aside0.mk (ST.out.up hb); have n1_ := Aside0.mk (Kd.R_below RL.out hb); have n2_ := Aside0.mk (FR.out.trans (GpFr.below hb)); have n3_ := Aside0.mk (blk_below BB.out hb); have n4_ := Aside0.mk (below_step (by repeat (first | (with_reducible first | exact HBW.out | apply below_alloc | apply pw_below_drewN | apply below_drew1) | exact HBW.out)) hb); clear ST RL FR BB HBW hb A4; have ST := n0_; have RL := n1_; have FR := n2_; have BB := n3_; have HBW := n4_; clear n0_ n1_ n2_ n3_ n4_))
      have hy5 := (blk_cell ST.out.out 0)
      have hf5 := (blk_frozen ST.out.out 0)
      simp at hy5
      go_wp2_with (first | ((with_reducible refine gate_builtin (b := .append) (xs := #[.tmp 12, .tmp 14]) rfl ?_); at_builtin; refine Kd.S_append (Kd.slice 3 (Kd.int .i64)) (w0 := w0) w0.heap.size rfl (.tmp 12) (.tmp 14) 47 29 (.slice none 0 0) 24 rfl Try.underlying47 info29 rfl (by decide) (by omega) (.slice A acc.length c) acc l [.slice A1 l.length c1] (fun _ => True) (fun k_ => some k_ = (Value.slice A1 l.length c1).ownBlock) rfl rfl ?aP ?aK (fun _ _ => trivial) ?aO ?aB ?aS ?aL ?_; (case aP => exact ⟨_, rfl, Kd.R_tight rfl (Kd.pR RL.out)⟩); (case aK => (intro k_ hk_; exact ⟨trivial, (RL.out.1 k_ hk_.symm).2⟩)); (case aO => exact Kd.S_mono (Kd.pS ST.out.row) (fun k_ hk_ => ⟨trivial, hk_⟩)); (case aB => exact (ST.out.up (by repeat (first | exact Below.refl _ _ | apply pw_below_drewN | apply below_drew1 | apply below_alloc))).bel); (case aS => exact below_size (ST.out.up (by repeat (first | exact Below.refl _ _ | apply pw_below_drewN | apply below_drew1 | apply below_alloc))).bel); (case aL => have := HLEN.out; omega); intro v9 w9 ho hb hg hat; obtain ⟨Ao, co, rfl⟩ := Kd.S_slice ho; have HO := Aside0.mk ho; have HB9 := Aside0.mk hb; have HG := Aside0.mk hg; have HAT := Aside0.mk hat; have n0_ := Aside0.mk (blk_grown (pk ST.out.out) hg (Kd.S_ne ST.out.row ST.out.out (by decide))); have hf9 := (blk_frozen n0_.out 0); have hy9 := (blk_cell n0_.out 0); simp at hy9; clear ho hb hg hat))
      go_end0
      refine ⟨rfl, .slice Ao (acc.length + 1) co, ⟨?_, ?_, ?_, ST.out.ge⟩, ?_⟩
      rotate_left
      · exact (by (with_reducible repeat (first | apply Kd.S_alloc | apply Kd.S_drewN | apply Kd.S_drew)); have h_ := Kd.S_set HO.out n0_.out (by decide) 0 (.slice Ao (acc.length + 1) co); rw [List.length_append, List.length_singleton] at h_; exact h_)
      · exact (by repeat (first | (with_reducible first | exact HB9.out | apply below_alloc | apply pw_below_drewN | apply below_drew1 | refine below_set ?_ ST.out.ge) | exact HB9.out))
      · refine FR.out.trans ⟨?_, fun k_ hk_ hg_ ht_ => ?_, ?_⟩
        · have h2_ := HG.out.size
          first | (simp; omega) | (simp at h2_ ⊢; omega)
        · have e2_ : w9.heap[k_]? = w8.heap[k_]? := HG.out.block k_ hk_ ht_
          exact (Below.heap_setCell w9 ⟨g, 0, none⟩ _ k_ hg_).trans e2_
        · rcases HAT.out with e_ | ⟨b_, e_, h_⟩
          · left
            rw [List.length_append, List.length_singleton] at e_
            exact e_
          · right
            intro b2_ h2_
            rw [List.length_append, List.length_singleton] at e_
            rw [e_] at h2_
            injection h2_ with h2_
            omega
      · exact (by (with_reducible repeat (first | refine blk_drewN ?_ _ | refine blk_drew ?_ | refine blk_alloc ?_ _)); exact blk_put n0_.out 0 _ rfl)
def impl_Company_rows.T2 : Bool × List (List Nat × List Nat) := (true, [([], []), ([], []), ([1], [1]), ([0, 2], [0, 2]), ([], []), ([4], [4]), ([], []), ([3, 5, 6, 3], [3, 5, 6])])
def impl_Company_rows.B2 : List Nat := [0, 0, 2, 7, 0, 16, 0, 127]
theorem impl_Company_rows.T2_ : rtab .any (opsOf Try.f124 2) = impl_Company_rows.T2 := by kernel_rfl
theorem impl_Company_rows.B2_ : waitsOk impl_Company_rows.T2.2 impl_Company_rows.B2 = true := by kernel_rfl
def impl_Company_rows.f (k : Nat) (se : Int) (over : List Bool) (torch : Bool) : Option (List (List Int)) := (impl_State_side.f k over torch torch).bind fun P => if P.length ≤ 100 then gOn (cmSt k over torch) se P [] [] else none
theorem impl_Company_rows.mono : ∀ se over torch k, LeO (impl_Company_rows.f k se over torch) (impl_Company_rows.f (k + 1) se over torch) := fun se over torch k =>
  LeO.bind (impl_State_side.mono _ _ _ _) (fun _ => LeO.ite (gOn_mono (fun _ _ => cmSt_mono _ _ _ _ _) _ _ _ _) (LeO.refl _))
set_option maxHeartbeats 8000000 in
set_option maxRecDepth 100000 in
theorem impl_Company_rows.calls (k : Nat) (cu se : Int) (Ao : Option Addr) (co : Nat) (over : List Bool) (torch : Bool) (r : List (List Int)) (w : World)
    (ho : Kd.C Kd.bool w Ao over.length over) (hco : over.length ≤ co) (h : impl_Company_rows.f k se over torch = some r) :
    Calls Try.prog 124 #[.agg #[.int .i64 cu, .int .i64 se], .agg #[.slice Ao over.length co, .bool torch]] w fun e w' => ∃ v0_ : Value, e = .returned v0_ ∧ Kd.S (Kd.slice 3 (Kd.int .i64)) 29 w' w.heap.size (fun _ => True) v0_ r ∧ Below w.heap.size w w' := by
  have hu := Try.underlying26
  have hu2 := Try.underlying115
  unfold impl_Company_rows.f at h
  obtain ⟨P, h1, h⟩ := Option.bind_eq_some_iff.mp h
  by_cases hP : P.length ≤ 100
  rotate_left
  · rw [if_neg hP] at h; exact absurd h (by simp)
  rw [if_pos hP] at h
  have A1 := Aside0.mk fun (W : World) (hb : Below w.heap.size w W) => impl_State_side.calls k Ao co over torch torch P W (Kd.C_below ho hb) hco h1
  have A2 := Aside0.mk fun (B g : Nat) (w0 W : World) (Ap : Option Addr) (cp : Nat) (v : Value) (h0 : Below w.heap.size w w0) (hB : w0.heap[B]? = some (.cells #[.slice Ao over.length co, .bool torch] 115 (0, 0))) (hst : GpSt (Kd.slice 3 (Kd.int .i64)) 29 47 g w0 W v (fun _ => True) []) (hp : (Kd.int .i64).R 3 W w0.heap.size (fun k => k ≠ g ∧ some k ≠ v.ownBlock) (.slice Ap P.length cp) P) =>
    groups_calls (Kd.slice 3 (Kd.int .i64)) 29 47 (cmSt k over torch) g 156 #[.pointer (some ⟨B, 0, none⟩), .pointer (some ⟨g, 0, none⟩)] w0 Ap cp P se (enters_of Try.func156 (by kernel_rfl) rfl) (row_each k B g w0 Ao co over torch hB (Kd.C_below ho h0) hco) hP v r W hst hp h
  have HB := Aside0.mk (Below.refl w.heap.size w)
  clear h h1 hP ho hco
  go_enter Try.func124, Try.ntmps124
  go_upto_region 2 with (first | ((with_reducible refine gate_dst (N := 2) rfl ?_); refine box_event ?hg (N := 2) ?hd (cs := #[.int .i64 cu, .int .i64 se]) (t := 26) ?hr ?_; (case hd => rfl); (case hg => rfl); (case hr => first | (go_simp; done) | (go_simp; rfl)); intro gb2 hg w2 hbox hb; have nb_ := Aside0.mk (below_step (by repeat (first | (with_reducible first | exact HB.out | apply below_alloc | apply pw_below_drewN | apply below_drew1) | exact HB.out)) hb); have nc_ := Aside0.mk hbox; have nd_ := Aside0.mk ((by rw [hg]; exact (below_size (by repeat (first | (with_reducible first | exact HB.out | apply below_alloc | apply pw_below_drewN | apply below_drew1) | exact HB.out))) : w.heap.size ≤ gb2)); clear HB hb hbox hg; have HB := nb_; have BK2 := nc_; have GE2 := nd_; clear nb_ nc_ nd_; have hz2_0 := (blk_cell BK2.out 0); have hf2_0 := (blk_frozen BK2.out 0); simp at hz2_0; have hz2_1 := (blk_cell BK2.out 1); have hf2_1 := (blk_frozen BK2.out 1); simp at hz2_1; skip) | ((with_reducible refine gate_dst (N := 3) rfl ?_); refine box_event ?hg (N := 3) ?hd (cs := #[.slice Ao over.length co, .bool torch]) (t := 115) ?hr ?_; (case hd => rfl); (case hg => rfl); (case hr => first | (go_simp; done) | (go_simp; rfl)); intro gb3 hg w3 hbox hb; have n0_ := Aside0.mk (blk_below (pk BK2.out) hb); have m0_ := Aside0.mk ((by rw [hg]; exact Nat.ne_of_lt (blk_lt (pk BK2.out)) : gb2 ≠ gb3)); have nb_ := Aside0.mk (below_step (by repeat (first | (with_reducible first | exact HB.out | apply below_alloc | apply pw_below_drewN | apply below_drew1) | exact HB.out)) hb); have nc_ := Aside0.mk hbox; have nd_ := Aside0.mk ((by rw [hg]; exact (below_size (by repeat (first | (with_reducible first | exact HB.out | apply below_alloc | apply pw_below_drewN | apply below_drew1) | exact HB.out))) : w.heap.size ≤ gb3)); clear HB hb hbox hg; clear BK2; have BK2 := n0_; have NE2_3 := m0_; have HB := nb_; have BK3 := nc_; have GE3 := nd_; clear nb_ nc_ nd_ n0_ m0_; have hz3_0 := (blk_cell BK3.out 0); have hf3_0 := (blk_frozen BK3.out 0); simp at hz3_0; have hz3_1 := (blk_cell BK3.out 1); have hf3_1 := (blk_frozen BK3.out 1); simp at hz3_1; skip))
  have HB3 := Aside0.mk HB.out
  have hst := (show GpSt (Kd.slice 3 (Kd.int .i64)) 29 47 (w3.heap.size + 1) w3 ((w3.alloc (.cells #[] 29)).alloc (.cells #[.slice (some ⟨w3.heap.size, 0, none⟩) 0 0] 47)) (.slice (some ⟨w3.heap.size, 0, none⟩) 0 0) (fun _ => True) [] from ⟨gp_new2 w3 _ _, Kd.S_alloc (gp_lit0 _ _ w3 (Nat.le_refl _)) _, below_alloc (below_alloc (Below.refl _ _) _) _, Nat.le_succ _⟩)
  have n0_ := Aside0.mk (blk_alloc (blk_alloc BK2.out (.cells #[] 29)) (.cells #[.slice (some ⟨w3.heap.size, 0, none⟩) 0 0] 47))
  have n1_ := Aside0.mk (blk_alloc (blk_alloc BK3.out (.cells #[] 29)) (.cells #[.slice (some ⟨w3.heap.size, 0, none⟩) 0 0] 47))
  have B3 := Aside0.mk BK3.out
  have HL3 := Aside0.mk (blk_lt BK2.out)
  have ST := Aside0.mk hst
  clear BK2 BK3 HB hst hz2_0 hz2_1 hf2_0 hf2_1 hz3_0 hz3_1 hf3_0 hf3_1
  have BK2 := n0_; have BK3 := n1_; clear n0_ n1_
  generalize (w3.alloc (.cells #[] 29)).alloc (.cells #[.slice (some ⟨w3.heap.size, 0, none⟩) 0 0] 47) = w5 at BK2 BK3 ST ⊢
  generalize Value.slice (some ⟨w3.heap.size, 0, none⟩) 0 0 = v5 at ST ⊢
  generalize w3.heap.size + 1 = gb5 at ST ⊢
  have n0_ := Aside0.mk (blk_drew BK2.out); have n1_ := Aside0.mk (blk_drew BK3.out); have n2_ := Aside0.mk (ST.out.up (below_drew (Below.refl _ _))); clear BK2 BK3 ST; have BK2 := n0_; have BK3 := n1_; have ST := n2_; clear n0_ n1_ n2_
  refine start_ (n := 8) (S := fun w' => w'.cell? ⟨gb3, 0, none⟩ = some (.slice Ao over.length co) ∧ w'.cell? ⟨gb3, 1, none⟩ = some (.bool torch) ∧ w'.cell? ⟨gb2, 1, none⟩ = some (.int .i64 se)) (ds := []) #[false, false, false, false, false, false, false, false] (by kernel_rfl) rfl rfl ⟨(blk_cell BK3.out 0).trans rfl, (blk_cell BK3.out 1).trans rfl, (blk_cell BK2.out 1).trans rfl⟩ (fun hHeld => ?_); refine with_tabW impl_Company_rows.T2_ impl_Company_rows.B2_ (fun HT_ HW_ => ?_)
  generalize w5.drew = w9 at BK2 BK3 ST hHeld ⊢
  refine take_ (i := 0) (N := some 7) (v := ?_) (a' := ?_) #[true, false, false, false, false, false, false, false] rfl rfl (take_ofW HT_.out HW_.out (by kernel_rfl)) (fun _ _ _ h => h) (Or.inl ⟨by rfl, ?_⟩) hHeld ?_ ?_
  rotate_left
  · rintro w' ⟨s0, s1, s2⟩
    go_simp
    with_reducible rfl
  rotate_left
  · simp only [Act.put, List.setIfInBounds_toArray, List.set_cons_zero, List.set_cons_succ, i64_w, i32_w]
    rfl
  refine pure_ (i := 1) (N := some 8) (v := ?_) (a' := ?_) #[true, true, false, false, false, false, false, false] rfl rfl (any_of HT_.out (by kernel_rfl)) (fun _ _ _ h => h) (Or.inl ⟨by rfl, ?_⟩) ?_ ?_
  rotate_left
  · intro w'
    go_simp
    with_reducible rfl
  rotate_left
  · simp only [Act.put, List.setIfInBounds_toArray, List.set_cons_zero, List.set_cons_succ, i64_w, i32_w]
    rfl
  refine take_ (i := 2) (N := some 9) (v := ?_) (a' := ?_) #[true, true, true, false, false, false, false, false] rfl rfl (take_ofW HT_.out HW_.out (by kernel_rfl)) (fun _ _ _ h => h) (Or.inl ⟨by rfl, ?_⟩) hHeld ?_ ?_
  rotate_left
  · rintro w' ⟨s0, s1, s2⟩
    go_simp
    with_reducible rfl
  rotate_left
  · simp only [Act.put, List.setIfInBounds_toArray, List.set_cons_zero, List.set_cons_succ, i64_w, i32_w]
    rfl
  refine pure_ (i := 4) (N := some 11) (v := ?_) (a' := ?_) #[true, true, true, false, true, false, false, false] rfl rfl (any_of HT_.out (by kernel_rfl)) (fun _ _ _ h => h) (Or.inl ⟨by rfl, ?_⟩) ?_ ?_
  rotate_left
  · intro w'
    go_simp
    with_reducible rfl
  rotate_left
  · simp only [Act.put, List.setIfInBounds_toArray, List.set_cons_zero, List.set_cons_succ, i64_w, i32_w]
    rfl
  refine take_ (i := 5) (N := some 12) (v := ?_) (a' := ?_) #[true, true, true, false, true, true, false, false] rfl rfl (take_ofW HT_.out HW_.out (by kernel_rfl)) (fun _ _ _ h => h) (Or.inl ⟨by rfl, ?_⟩) hHeld ?_ ?_
  rotate_left
  · rintro w' ⟨s0, s1, s2⟩
    go_simp
    with_reducible rfl
  rotate_left
  · simp only [Act.put, List.setIfInBounds_toArray, List.set_cons_zero, List.set_cons_succ, i64_w, i32_w]
    rfl
  refine pure_ (i := 6) (N := some 13) (v := ?_) (a' := ?_) #[true, true, true, false, true, true, true, false] rfl rfl (any_of HT_.out (by kernel_rfl)) (fun _ _ _ h => h) (Or.inl ⟨by rfl, ?_⟩) ?_ ?_
  rotate_left
  · intro w'
    go_simp
    with_reducible rfl
  rotate_left
  · simp only [Act.put, List.setIfInBounds_toArray, List.set_cons_zero, List.set_cons_succ, i64_w, i32_w]
    rfl
  refine one_ (i := 3) (N := some 10) #[true, true, true, true, true, true, true, false] rfl rfl (one_of HT_.out (by kernel_rfl)) (by decide) (fun K hK => ?_)
  refine goes_ Try.func115 (by kernel_rfl) rfl #[.agg #[.slice Ao over.length co, .bool torch], .bool torch] (by rfl) rfl rfl (by (try simp only [List.map_toArray, List.map_cons, List.map_nil]); first | done | rfl | (simp only [List.length_drop, List.length_take]; rfl)) ?_
  refine (A1.out _ (below_then HB3.out HB3.out.size ST.out.bel)).mono ?_
  rintro e_ w10 ⟨v10, rfl, hp, hb⟩
  obtain ⟨Ap, cp, rfl⟩ := Kd.R_slice hp
  refine ⟨_, rfl, ?_⟩
  have PL := Aside0.mk (Kd.R_lower (ST.out.new (Nat.le_refl _) hp) (below_size ST.out.bel))
  have n0_ := Aside0.mk (blk_below BK2.out hb); have n1_ := Aside0.mk (blk_below BK3.out hb); have n2_ := Aside0.mk (ST.out.up hb); clear BK2 BK3 ST hb hp; have BK2 := n0_; have BK3 := n1_; have ST := n2_; clear n0_ n1_ n2_
  refine hK.out _ _ ⟨(blk_cell BK3.out 0).trans rfl, (blk_cell BK3.out 1).trans rfl, (blk_cell BK2.out 1).trans rfl⟩ (fun hHeld => ?_)
  clear hK K
  refine norm_ (a' := ?_) ?_ ?_
  rotate_left
  · show Act.put _ (some 10) _ = _
    simp only [Act.put, List.setIfInBounds_toArray, List.set_cons_zero, List.set_cons_succ, i64_w, i32_w]
    rfl
  refine one_ (i := 7) (N := some 14) #[true, true, true, true, true, true, true, true] rfl rfl (one_of HT_.out (by kernel_rfl)) (by decide) (fun K hK => ?_)
  refine goes_ Try.func113 (by kernel_rfl) rfl #[.slice Ap P.length cp, .int .i64 se, .func (.func 156) #[] #[.pointer (some ⟨gb3, 0, none⟩), .pointer (some ⟨gb5, 0, none⟩)]] (by rfl) rfl rfl (by (try simp only [List.map_toArray, List.map_cons, List.map_nil]); first | done | rfl | (simp only [List.length_drop, List.length_take]; rfl)) ?_
  refine (A2.out gb3 gb5 w3 _ Ap cp v5 HB3.out B3.out ST.out PL.out).mono ?_
  rintro e_ w11 ⟨rfl, v11, hst, hfr⟩
  refine ⟨_, rfl, ?_⟩
  have n0_ := Aside0.mk hst; have n1_ := Aside0.mk ((hfr.at_ (blk_lt BK3.out) (fun e_ => by have := ST.out.ge; have := blk_lt B3.out; omega) (fun e_ => by have := Kd.S_base ST.out.row _ e_.symm; have := blk_lt B3.out; omega)).trans BK3.out); have n2_ := Aside0.mk ((hfr.at_ (blk_lt BK2.out) (fun e_ => by have := ST.out.ge; have := HL3.out; omega) (fun e_ => by have := Kd.S_base ST.out.row _ e_.symm; have := HL3.out; omega)).trans BK2.out); clear ST BK2 BK3 hst hfr; have ST := n0_; have BK3 := n1_; have BK2 := n2_; clear n0_ n1_ n2_
  refine hK.out _ _ ⟨(blk_cell BK3.out 0).trans rfl, (blk_cell BK3.out 1).trans rfl, (blk_cell BK2.out 1).trans rfl⟩ (fun hHeld => ?_)
  clear hK K
  refine norm_ (a' := ?_) ?_ ?_
  rotate_left
  · show Act.put _ (some 14) _ = _
    simp only [Act.put, List.setIfInBounds_toArray, List.set_cons_zero, List.set_cons_succ, i64_w, i32_w]
    rfl
  refine done_ (done_of HT_.out (by kernel_rfl)) ?_
  have hy5 := (blk_cell ST.out.out 0)
  simp at hy5
  go_wp2
  first | go_ret | go_ret2
  exact ⟨_, rfl, Kd.S_lower (Kd.S_below ST.out.row (by repeat (first | exact Below.refl _ _ | apply pw_below_drewN | apply below_drew1 | apply below_alloc))) (below_size HB3.out), below_then HB3.out HB3.out.size (ST.out.up (by repeat (first | exact Below.refl _ _ | apply pw_below_drewN | apply below_drew1 | apply below_alloc))).bel⟩

/-! ### impl_bit: function 160 -/
def impl_bit.f (a0 : Bool) : Option (Int) := if a0 = true then (some 1) else (some 0)
set_option maxHeartbeats 8000000 in
set_option maxRecDepth 100000 in
theorem impl_bit.calls (a0 : Bool) (r : Int) (w : World) (h : impl_bit.f a0 = some r) :
    Calls Try.prog 160 #[.bool a0] w fun e w' => e = .returned (.int .i64 r) ∧ Drawn0 w w' := by
  have H : (if a0 = true then (some 1) else (some 0)) = some r := h
  clear h
  by_cases c2 : a0 = true
  · subst c2
    have H1 : (some 1) = some r := by rw [if_pos rfl] at H; exact H
    clear H
    have H := H1
    clear H1
    obtain rfl := Option.some.inj H
    go_enter Try.func160, Try.ntmps160
    go_wp2
    go_ret
    exact ⟨by first | rfl | (simp; done) | (simp [*]; done), by repeat (first | exact Drawn0.refl _ | apply Drawn0.step)⟩
  · replace c2 := Bool.eq_false_iff.mpr c2
    subst c2
    have H1 : (some 0) = some r := by rw [if_neg (show ¬ (false = true) by decide)] at H; exact H
    clear H
    have H := H1
    clear H1
    obtain rfl := Option.some.inj H
    go_enter Try.func160, Try.ntmps160
    go_wp2
    go_ret
    exact ⟨by first | rfl | (simp; done) | (simp [*]; done), by repeat (first | exact Drawn0.refl _ | apply Drawn0.step)⟩

/-! ### impl_State_code: function 126 -/
def impl_State_code.l0 : Nat → Int → List Bool → Int → Int → Option (Int)
  | 0, _, _, _, _ => none
  | k + 1, x3, x14, x15, x16 => if x16 < x15 then (if 0 ≤ x16 then (if x16 < (x14.length : Int) then ((impl_bit.f (rdOf false x14 x16)).bind fun t366 => (impl_State_code.l0 k (Go.bits .or .i64 x3 (shl .i64 t366 x16)) x14 x15 (wrap64 (x16 + 1)))) else (none)) else (none)) else (some x3)
def impl_State_code.f (k : Nat) (l0_0 : List Bool) (a0_1 : Bool) : Option (Int) := (impl_bit.f a0_1).bind fun t364 => (impl_State_code.l0 k (shl .i64 t364 (l0_0.length : Int)) l0_0 (l0_0.length : Int) 0)
theorem impl_State_code.mono_l : ∀ k, (∀ y0 y1 y2 y3, LeO (impl_State_code.l0 k y0 y1 y2 y3) (impl_State_code.l0 (k + 1) y0 y1 y2 y3))
  | 0 => fun _ _ _ _ r h => by simp [impl_State_code.l0] at h
  | k + 1 => by
    have ih0 := impl_State_code.mono_l k
    · intro y0 y1 y2 y3
      unfold impl_State_code.l0
      repeat' first
      | (with_reducible exact ih0 _ _ _ _)
      | (with_reducible exact LeO.refl _)
      | (with_reducible exact LeO.none _)
      | (with_reducible refine LeO.ite ?_ ?_)
      | (with_reducible refine LeO.bind ?_ (fun _ => ?_))
      | exact ih0 _ _ _ _
      | exact LeO.none _
      | refine LeO.ite ?_ ?_
      | refine LeO.bind ?_ (fun _ => ?_)
theorem impl_State_code.mono : ∀ a0 a1 k, LeO (impl_State_code.f k a0 a1) (impl_State_code.f (k + 1) a0 a1) := by
  intro a0 a1 k
  have ih0 := impl_State_code.mono_l k
  unfold impl_State_code.f
  repeat' first
      | (with_reducible exact ih0 _ _ _ _)
      | (with_reducible exact LeO.refl _)
      | (with_reducible exact LeO.none _)
      | (with_reducible refine LeO.ite ?_ ?_)
      | (with_reducible refine LeO.bind ?_ (fun _ => ?_))
      | exact ih0 _ _ _ _
      | exact LeO.none _
      | refine LeO.ite ?_ ?_
      | refine LeO.bind ?_ (fun _ => ?_)
set_option maxHeartbeats 8000000 in
set_option maxRecDepth 100000 in
theorem impl_State_code.calls (k : Nat) (A0_0 : Option Addr) (c0_0 : Nat) (l0_0 : List Bool) (a0_1 : Bool) (r : Int) (w : World) (hr0_0 : Kd.C Kd.bool w A0_0 l0_0.length l0_0) (hc0_0 : l0_0.length ≤ c0_0) (h : impl_State_code.f k l0_0 a0_1 = some r) :
    Calls Try.prog 126 #[.agg #[.slice A0_0 l0_0.length c0_0, .bool a0_1]] w fun e w' => e = .returned (.int .i64 r) ∧ Below w.heap.size w w' := by
  have hu115 := Try.underlying115
  have HR0_0 := Aside0.mk hr0_0
  have HC0_0 := Aside0.mk hc0_0
  clear hr0_0 hc0_0
  have HB := Aside0.mk (Below.refl w.heap.size w)
  have H : ((impl_bit.f a0_1).bind fun t364 => (impl_State_code.l0 k (shl .i64 t364 (l0_0.length : Int)) l0_0 (l0_0.length : Int) 0)) = some r := h
  clear h
  replace H := Option.bind_eq_some_iff.mp H
  obtain ⟨t364, A20, H⟩ := H
  replace H : (impl_State_code.l0 k (shl .i64 t364 (l0_0.length : Int)) l0_0 (l0_0.length : Int) 0) = some r := H
  have A2 := Aside0.mk A20
  clear A20
  obtain ⟨ji3, hji3⟩ : ∃ j_ : Int, (shl .i64 t364 (l0_0.length : Int)) = j_ := ⟨_, rfl⟩
  replace H : (impl_State_code.l0 k ji3 l0_0 (l0_0.length : Int) 0) = some r := by first | (rw [hji3] at H; exact H) | (simp only [hji3] at H ⊢; exact H)
  (try rw [hji3] at A2)
  have hji3_ : (IntKind.i64.wrap (t364 * 2 ^ min (l0_0.length : Int).toNat 64)) = ji3 := hji3
  have hji3z : (l0_0.length : Int) ≤ 64 → (IntKind.i64.wrap (t364 * 2 ^ (l0_0.length : Int).toNat)) = ji3 := shl_small hji3
  have hji3p : (IntKind.i64.wrap (t364 * 2 ^ min l0_0.length 64)) = ji3 := hji3_
  have hji3q : (l0_0.length : Int) ≤ 64 → (IntKind.i64.wrap (t364 * 2 ^ l0_0.length)) = ji3 := hji3z
  have hji3y : (wrap64 (t364 * 2 ^ min (l0_0.length : Int).toNat 64)) = ji3 := (i64_w _).symm.trans hji3_
  have hji3x : (l0_0.length : Int) ≤ 64 → (wrap64 (t364 * 2 ^ (l0_0.length : Int).toNat)) = ji3 := fun h_ => (i64_w _).symm.trans (hji3z h_)
  have H' := Aside0.mk H
  clear H
  go_enter Try.func126, Try.ntmps126
  go_wp2_with (first | ((with_reducible refine gate_dst (N := 1) rfl ?_); refine box_event ?hg (N := 1) ?hd (cs := #[.slice A0_0 l0_0.length c0_0, .bool a0_1]) (t := 115) ?hr ?_; (case hd => rfl); (case hg => rfl); (case hr => first | (go_simp; done) | (go_simp; rfl)); intro gb363 hg w4 hbox hb; have n0_ := Aside0.mk (below_step (by repeat (first | (with_reducible first | exact HB.out | apply below_alloc | apply pw_below_drewN | apply below_drew1) | exact HB.out)) hb); have n1_ := Aside0.mk (hbox); have n2_ := Aside0.mk ((by rw [hg]; exact (below_size (by repeat (first | (with_reducible first | exact HB.out | apply below_alloc | apply pw_below_drewN | apply below_drew1) | exact HB.out))) : w.heap.size ≤ gb363)); have n3_ := Aside0.mk ((by rw [hg]; exact (below_size (by repeat (first | (with_reducible first | exact HB.out | apply below_alloc | apply pw_below_drewN | apply below_drew1) | exact HB.out))) : w.heap.size ≤ gb363)); clear HB; have HB := n0_; have BK363 := n1_; have GW363 := n2_; have GE363 := n3_; clear n0_ n1_ n2_ n3_; clear hb hbox hg; have hcz5_0 : w4.cell? ⟨gb363, 0, none⟩ = some (.slice A0_0 l0_0.length c0_0) := (blk_cell BK363.out 0).trans rfl; have hcz5_1 : w4.cell? ⟨gb363, 1, none⟩ = some (.bool a0_1) := (blk_cell BK363.out 1).trans rfl; have hfz5_0 := blk_frozen BK363.out 0; have hfz5_1 := blk_frozen BK363.out 1) | (go_at_call 160; (with_reducible refine (impl_bit.calls a0_1 t364 _ A2.out).mono ?_); rintro e w' ⟨rfl, ⟨nd, rfl⟩⟩; (try first | exact ⟨rfl, _, World.drewN_drewN _ _ _⟩ | exact ⟨rfl, _, Eq.trans (World.drewN_drewN _ _ _) (congrArg (World.drewN _) (Nat.add_assoc _ _ _))⟩)))
  repeat (go_quiet (first | ((with_reducible refine gate_dst (N := 1) rfl ?_); refine box_event ?hg (N := 1) ?hd (cs := #[.slice A0_0 l0_0.length c0_0, .bool a0_1]) (t := 115) ?hr ?_; (case hd => rfl); (case hg => rfl); (case hr => first | (go_simp; done) | (go_simp; rfl)); intro gb363 hg w4 hbox hb; have n0_ := Aside0.mk (below_step (by repeat (first | (with_reducible first | exact HB.out | apply below_alloc | apply pw_below_drewN | apply below_drew1) | exact HB.out)) hb); have n1_ := Aside0.mk (hbox); have n2_ := Aside0.mk ((by rw [hg]; exact (below_size (by repeat (first | (with_reducible first | exact HB.out | apply below_alloc | apply pw_below_drewN | apply below_drew1) | exact HB.out))) : w.heap.size ≤ gb363)); have n3_ := Aside0.mk ((by rw [hg]; exact (below_size (by repeat (first | (with_reducible first | exact HB.out | apply below_alloc | apply pw_below_drewN | apply below_drew1) | exact HB.out))) : w.heap.size ≤ gb363)); clear HB; have HB := n0_; have BK363 := n1_; have GW363 := n2_; have GE363 := n3_; clear n0_ n1_ n2_ n3_; clear hb hbox hg; have hcz5_0 : w4.cell? ⟨gb363, 0, none⟩ = some (.slice A0_0 l0_0.length c0_0) := (blk_cell BK363.out 0).trans rfl; have hcz5_1 : w4.cell? ⟨gb363, 1, none⟩ = some (.bool a0_1) := (blk_cell BK363.out 1).trans rfl; have hfz5_0 := blk_frozen BK363.out 0; have hfz5_1 := blk_frozen BK363.out 1) | (go_at_call 160; (with_reducible refine (impl_bit.calls a0_1 t364 _ A2.out).mono ?_); rintro e w' ⟨rfl, ⟨nd, rfl⟩⟩; (try first | exact ⟨rfl, _, World.drewN_drewN _ _ _⟩ | exact ⟨rfl, _, Eq.trans (World.drewN_drewN _ _ _) (congrArg (World.drewN _) (Nat.add_assoc _ _ _))⟩))); try go_wp2_with (first | ((with_reducible refine gate_dst (N := 1) rfl ?_); refine box_event ?hg (N := 1) ?hd (cs := #[.slice A0_0 l0_0.length c0_0, .bool a0_1]) (t := 115) ?hr ?_; (case hd => rfl); (case hg => rfl); (case hr => first | (go_simp; done) | (go_simp; rfl)); intro gb363 hg w4 hbox hb; have n0_ := Aside0.mk (below_step (by repeat (first | (with_reducible first | exact HB.out | apply below_alloc | apply pw_below_drewN | apply below_drew1) | exact HB.out)) hb); have n1_ := Aside0.mk (hbox); have n2_ := Aside0.mk ((by rw [hg]; exact (below_size (by repeat (first | (with_reducible first | exact HB.out | apply below_alloc | apply pw_below_drewN | apply below_drew1) | exact HB.out))) : w.heap.size ≤ gb363)); have n3_ := Aside0.mk ((by rw [hg]; exact (below_size (by repeat (first | (with_reducible first | exact HB.out | apply below_alloc | apply pw_below_drewN | apply below_drew1) | exact HB.out))) : w.heap.size ≤ gb363)); clear HB; have HB := n0_; have BK363 := n1_; have GW363 := n2_; have GE363 := n3_; clear n0_ n1_ n2_ n3_; clear hb hbox hg; have hcz5_0 : w4.cell? ⟨gb363, 0, none⟩ = some (.slice A0_0 l0_0.length c0_0) := (blk_cell BK363.out 0).trans rfl; have hcz5_1 : w4.cell? ⟨gb363, 1, none⟩ = some (.bool a0_1) := (blk_cell BK363.out 1).trans rfl; have hfz5_0 := blk_frozen BK363.out 0; have hfz5_1 := blk_frozen BK363.out 1) | (go_at_call 160; (with_reducible refine (impl_bit.calls a0_1 t364 _ A2.out).mono ?_); rintro e w' ⟨rfl, ⟨nd, rfl⟩⟩; (try first | exact ⟨rfl, _, World.drewN_drewN _ _ _⟩ | exact ⟨rfl, _, Eq.trans (World.drewN_drewN _ _ _) (congrArg (World.drewN _) (Nat.add_assoc _ _ _))⟩))))
  go_loopg [3, 16] k (fun kq v3 v16 w' => ∃ (x3_1 : Int) (x16_1 : Int), v3 = .int .i64 x3_1 ∧ v16 = .int .i64 x16_1 ∧ Aside0 (impl_State_code.l0 kq x3_1 l0_0 (l0_0.length : Int) x16_1 = some r) ∧ Aside0 (kq ≤ k) ∧ Aside0 (w'.heap[gb363]? = some (.cells #[(.slice A0_0 l0_0.length c0_0), .bool a0_1] 115 (0, 0))) ∧ Aside0 (Below w.heap.size w w'))
  case atStart => exact ⟨(ji3), (0), (by first | rfl | (simp; done) | (simp only [← hji3] <;> (first | rfl | simp)) | (simp [*]; done)), (by first | rfl | (simp; done) | (simp [*]; done)), H', ⟨Nat.le_refl _⟩, ⟨by (with_reducible repeat (first | refine blk_drewN ?_ _ | refine blk_drew ?_ | refine blk_alloc ?_ _)); exact BK363.out⟩, ⟨by repeat (first | (with_reducible first | exact HB.out | apply below_alloc | apply pw_below_drewN | apply below_drew1 | refine below_set ?_ GE363.out) | exact HB.out)⟩⟩
  case round =>
    clear H'
    try clear c1
    try clear p2
    try clear hcz5_0
    try clear hcz5_1
    try clear hfz5_0
    try clear hfz5_1
    obtain ⟨x3_1, x16_1, rfl, rfl, HA, HK1, BK363, HB⟩ := hrel
    cases gk with
    | zero => exact absurd HA.out (by simp [impl_State_code.l0])
    | succ k1 =>
      have H := HA.out
      clear HA
      simp only [impl_State_code.l0] at H
      by_cases c6 : x16_1 < (l0_0.length : Int)
      · rw [if_pos c6] at H
        have c6b0 : decide (x16_1 < (l0_0.length : Int)) = true := decide_eq_true c6
        clear c6
        by_cases c7 : 0 ≤ x16_1
        · rw [if_pos c7] at H
          have c7b0 : decide (0 ≤ x16_1) = true := decide_eq_true c7
          clear c7
          by_cases c8 : x16_1 < (l0_0.length : Int)
          · rw [if_pos c8] at H
            have c8b0 : decide (x16_1 < (l0_0.length : Int)) = true := decide_eq_true c8
            clear c8
            replace H := Option.bind_eq_some_iff.mp H
            obtain ⟨t366, A90, H⟩ := H
            replace H : (impl_State_code.l0 k1 (Go.bits .or .i64 x3_1 (shl .i64 t366 x16_1)) l0_0 (l0_0.length : Int) (wrap64 (x16_1 + 1))) = some r := H
            have A9 := Aside0.mk A90
            clear A90
            have c10b0 := eq_true (of_decide_eq_true (by first | (with_reducible assumption) | assumption) : 0 ≤ x16_1)
            obtain ⟨ji11, hji11⟩ : ∃ j_ : Int, (shl .i64 t366 x16_1) = j_ := ⟨_, rfl⟩
            replace H : (impl_State_code.l0 k1 (Go.bits .or .i64 x3_1 (ji11)) l0_0 (l0_0.length : Int) (wrap64 (x16_1 + 1))) = some r := by first | (rw [hji11] at H; exact H) | (simp only [hji11] at H ⊢; exact H)
            (try rw [hji11] at A9)
            have hji11_ : (IntKind.i64.wrap (t366 * 2 ^ min x16_1.toNat 64)) = ji11 := hji11
            have hji11z : x16_1 ≤ 64 → (IntKind.i64.wrap (t366 * 2 ^ x16_1.toNat)) = ji11 := shl_small hji11
            have hji11y : (wrap64 (t366 * 2 ^ min x16_1.toNat 64)) = ji11 := (i64_w _).symm.trans hji11_
            have hji11x : x16_1 ≤ 64 → (wrap64 (t366 * 2 ^ x16_1.toNat)) = ji11 := fun h_ => (i64_w _).symm.trans (hji11z h_)
            have H' := Aside0.mk H
            clear H
            have p365 : 0 ≤ (x16_1 : Int) := of_decide_eq_true (by first | (with_reducible assumption) | assumption)
            have q365 : x16_1 < (l0_0.length : Int) := of_decide_eq_true (by first | (with_reducible assumption) | assumption)
            obtain ⟨ad365, e365, hx365_0⟩ := Kd.at_bool HR0_0.out x16_1 p365 q365
            cases e365
            try replace hx365_0 := (HB.out.cell (World.block_lt_of_cell? w _ hx365_0)).trans hx365_0
            replace p365 := eq_true p365
            replace q365 := eq_true q365
            go_wp2_with (first | (go_at_call 160; (with_reducible refine (impl_bit.calls (rdOf false l0_0 x16_1) t366 _ A9.out).mono ?_); rintro e w' ⟨rfl, ⟨nd, rfl⟩⟩; (try first | exact ⟨rfl, _, World.drewN_drewN _ _ _⟩ | exact ⟨rfl, _, Eq.trans (World.drewN_drewN _ _ _) (congrArg (World.drewN _) (Nat.add_assoc _ _ _))⟩)))
            repeat (go_quiet (first | (go_at_call 160; (with_reducible refine (impl_bit.calls (rdOf false l0_0 x16_1) t366 _ A9.out).mono ?_); rintro e w' ⟨rfl, ⟨nd, rfl⟩⟩; (try first | exact ⟨rfl, _, World.drewN_drewN _ _ _⟩ | exact ⟨rfl, _, Eq.trans (World.drewN_drewN _ _ _) (congrArg (World.drewN _) (Nat.add_assoc _ _ _))⟩))); try go_wp2_with (first | (go_at_call 160; (with_reducible refine (impl_bit.calls (rdOf false l0_0 x16_1) t366 _ A9.out).mono ?_); rintro e w' ⟨rfl, ⟨nd, rfl⟩⟩; (try first | exact ⟨rfl, _, World.drewN_drewN _ _ _⟩ | exact ⟨rfl, _, Eq.trans (World.drewN_drewN _ _ _) (congrArg (World.drewN _) (Nat.add_assoc _ _ _))⟩))))
            go_roundg k1
            case measure => have := HK1.out; omega
            case rel => exact ⟨(Go.bits .or .i64 x3_1 (ji11)), (wrap64 (x16_1 + 1)), (by first | rfl | (simp; done) | (simp only [← hji11] <;> (first | rfl | simp)) | (simp [*]; done)), (by first | rfl | (simp; done) | (simp [*]; done)), H', ⟨by have := HK1.out; omega⟩, ⟨by (with_reducible repeat (first | refine blk_drewN ?_ _ | refine blk_drew ?_ | refine blk_alloc ?_ _)); exact BK363.out⟩, ⟨by repeat (first | (with_reducible first | exact HB.out | apply below_alloc | apply pw_below_drewN | apply below_drew1 | refine below_set ?_ GE363.out) | exact HB.out)⟩⟩
          · rw [if_neg c8] at H
            exact absurd H (by simp)
        · rw [if_neg c7] at H
          exact absurd H (by simp)
      · rw [if_neg c6] at H
        have c6b0 : decide (x16_1 < (l0_0.length : Int)) = false := decide_eq_false c6
        clear c6
        obtain rfl := Option.some.inj H
        go_wp2
        repeat (go_quiet (fail); try go_wp2)
        go_ret
        exact ⟨by first | rfl | (simp [errW_none, errW_some] <;> rfl) | (simp only [← hji3]; first | rfl | (simp [errW_none, errW_some] <;> rfl)) | (simp [*, errW_none, errW_some] <;> rfl), by repeat (first | (with_reducible first | exact HB.out | apply below_alloc | apply pw_below_drewN | apply below_drew1 | refine below_set ?_ GE363.out) | exact HB.out)⟩

/-! ### slices_Repeat_int_int: function 127 -/
def slices_Repeat_int_int.f (l0 : List Int) (a1 : Int) : Option (List Int) := if l0.length = 1 then (if 0 ≤ a1 then (if a1 ≤ 1000000 then some (List.replicate a1.toNat (l0.headD 0)) else none) else none) else none
/-- The first m of a row are told, the others not yet. -/
def slices_Repeat_int_int.row (N m : Nat) (x : Int) : List Int := List.replicate m x ++ List.replicate (N - m) 0
theorem slices_Repeat_int_int.row_len {N m : Nat} {x : Int} (h : m ≤ N) : (slices_Repeat_int_int.row N m x).length = N := by
  unfold slices_Repeat_int_int.row
  rw [List.length_append, List.length_replicate, List.length_replicate]
  omega
theorem slices_Repeat_int_int.row_set {N m : Nat} {x : Int} (h : m < N) : (slices_Repeat_int_int.row N m x).set m x = slices_Repeat_int_int.row N (m + 1) x := by
  unfold slices_Repeat_int_int.row
  obtain ⟨r, hr⟩ : ∃ r, N - m = r + 1 := ⟨N - m - 1, by omega⟩
  rw [hr, show N - (m + 1) = r by omega, List.set_append_right _ _ (by simp), List.length_replicate, Nat.sub_self, List.replicate_succ, List.set_cons_zero, List.replicate_succ', List.append_assoc]
  rfl
theorem slices_Repeat_int_int.row_get {N m j : Nat} {x : Int} (h : j < m) : rdOf 0 (slices_Repeat_int_int.row N m x) (j : Int) = x := by
  unfold slices_Repeat_int_int.row rdOf
  rw [Int.toNat_natCast, List.getD_eq_getElem?_getD, List.getElem?_append_left (by simpa using h)]
  simp [h]
theorem slices_Repeat_int_int.puts {w : World} {base g N c : Nat} {x : Int} (hg : w.heap.size ≤ g) : ∀ (q m : Nat) (W : World), m + q ≤ N → (Kd.int .i64).R 3 W base (fun _ => True) (.slice (some ⟨g, 0, none⟩) N c) (slices_Repeat_int_int.row N m x) → Below w.heap.size w W →
    (Kd.int .i64).R 3 (W.setCells g m (List.replicate q (Value.int .i64 x))) base (fun _ => True) (.slice (some ⟨g, 0, none⟩) N c) (slices_Repeat_int_int.row N (m + q) x) ∧ Below w.heap.size w (W.setCells g m (List.replicate q (Value.int .i64 x)))
  | 0, m, W, _, h, hb => ⟨h, hb⟩
  | q + 1, m, W, hl, h, hb => by
    have h1 := (Kd.R_putg h (m : Int) x).1
    rw [Int.toNat_natCast, slices_Repeat_int_int.row_set (by omega)] at h1
    have h2 := slices_Repeat_int_int.puts hg q (m + 1) _ (by omega) h1 (below_set (j := m) (v := Value.int .i64 x) hb hg)
    rw [show m + (q + 1) = m + 1 + q by omega, List.replicate_succ]
    exact h2
set_option maxHeartbeats 8000000 in
set_option maxRecDepth 100000 in
theorem slices_Repeat_int_int.calls (A0 : Option Addr) (c0 : Nat) (l0 : List Int) (a1 : Int) (r : List Int) (w : World) (hr0 : Kd.C (Kd.int .i64) w A0 l0.length l0) (hc0 : l0.length ≤ c0) (h : slices_Repeat_int_int.f l0 a1 = some r) :
    Calls Try.prog 127 #[.slice A0 l0.length c0, .int .i64 a1] w fun e w' => ∃ v0_ : Value, e = .returned (v0_) ∧ (Kd.int .i64).R 3 w' w.heap.size (fun _ => True) v0_ r ∧ Below w.heap.size w w' := by
  unfold slices_Repeat_int_int.f at h
  by_cases hl : l0.length = 1
  rotate_left
  · rw [if_neg hl] at h; exact absurd h (by simp)
  rw [if_pos hl] at h
  by_cases h0 : 0 ≤ a1
  rotate_left
  · rw [if_neg h0] at h; exact absurd h (by simp)
  rw [if_pos h0] at h
  by_cases h1 : a1 ≤ 1000000
  rotate_left
  · rw [if_neg h1] at h; exact absurd h (by simp)
  rw [if_pos h1] at h
  obtain ⟨x, rfl⟩ := List.length_eq_one_iff.mp hl
  obtain ⟨N, rfl⟩ : ∃ N : Nat, a1 = (N : Int) := ⟨a1.toNat, by omega⟩
  rw [Int.toNat_natCast] at h
  obtain rfl := Option.some.inj h
  obtain ⟨ad, rfl, hx⟩ := Kd.at_int hr0 0 (by decide) (by simp)
  have hx1 : w.cell? (ad.add 0) = some (Value.int .i64 x) := hx
  have HX := Aside0.mk hx1
  have HN := Aside0.mk h1
  have HB := Aside0.mk (Below.refl w.heap.size w)
  have HM0 := fun (W : World) => Try.bits_Mul 1 N (by decide) (by omega) W
  rw [show (1 * N / 18446744073709551616 : Nat) = 0 by omega, show (1 * N % 18446744073709551616 : Nat) = N by omega] at HM0
  have HM := Aside0.mk HM0
  have k0 : decide ((N : Int) < 0) = false := decide_eq_false (by omega)
  have k0n : ((N : Int) < 0) = False := eq_false (by omega)
  have k1 : IntKind.u64.wrap (N : Int) = (N : Int) := IntWalk.u64_in _ ⟨by omega, by omega⟩
  have k2 : IntKind.i64.wrap (N : Int) = (N : Int) := IntWalk.i64_in _ ⟨by omega, by omega⟩
  have k3 : decide ((9223372036854775807 : Int) < (N : Int)) = false := decide_eq_false (by omega)
  have k3n : ((9223372036854775807 : Int) < (N : Int)) = False := eq_false (by omega)
  have HH := Aside0.mk (show List.replicate N x = List.replicate N (List.headD [x] 0) from rfl)
  clear h hl h0 h1 hr0 hc0 hx hx1 HM0
  go_enter Try.func127, Try.ntmps127
  go_upto_region 6 with (go_at_call 161; refine (HM.out _).mono ?_; rintro e w' ⟨rfl, hw_⟩; rw [hw_]; clear hw_ w')
  go_upto_region 7 with ((with_reducible refine gate_dst (N := 30) rfl ?_); refine Kd.R_make (Kd.int .i64) _ 3 rfl (N := 30) rfl 29 _ _ rfl (N : Int) rfl rfl Try.underlying29 (Value.int .i64 0) 8 info3 rfl (by decide) (by omega) 0 (ok := fun _ => True) (okp := fun _ => True) rfl (fun _ hk => hk) trivial (by omega) (by have := HN.out; omega) (Below.refl _ _) (Nat.le_refl _) ?_; intro v30 w30 ho hb hg hnew; have HO := Aside0.mk (Kd.R_lower ho (below_size (by repeat (first | (with_reducible first | exact HB.out | apply below_alloc | apply pw_below_drewN | apply below_drew1) | exact HB.out)))); have n0_ := Aside0.mk (below_step (by repeat (first | (with_reducible first | exact HB.out | apply below_alloc | apply pw_below_drewN | apply below_drew1) | exact HB.out)) hb); clear HB hb hg hnew ho; have HB := n0_; clear n0_)
  have h30 := HO.out
  rw [Int.toNat_natCast] at h30
  clear HO
  have hsz : (Try.prog.info? 3).map (·.size) = some 1 := by kernel_rfl
  by_cases hz : N = 0
  · obtain ⟨A3, c3, e3⟩ := Kd.R_slice h30
    rw [List.length_replicate] at e3
    subst e3
    have HO := Aside0.mk h30
    have hcp : ∀ W, (Builtin.copy_ #[29, 29] 3 #[.slice A3 N c3, .slice (some ad) 1 c0]).run Try.prog W = .ok (goInt 0) W := fun W => run_copy_none W 29 29 3 3 A3 (some ad) N c3 1 c0 Try.underlying29 hsz (by rw [hz]; rfl)
    have k4 : decide ((0 : Int) < (N : Int)) = false := decide_eq_false (by omega)
    have k4n : decide (0 < N) = false := decide_eq_false (by omega)
    have k4p : (0 < N) = False := eq_false (by omega)
    have HZ := Aside0.mk hz
    clear h30 hz
    go_upto_region 8 with (fail)
    go_loopg [8] 0 (fun gg v8 wr => v8 = .int .i64 0 ∧ Aside0 ((Kd.int .i64).R 3 wr w.heap.size (fun _ => True) (.slice A3 N c3) (List.replicate N 0)) ∧ Aside0 (Below w.heap.size w wr))
    case atStart => exact ⟨rfl, ⟨Kd.R_below HO.out (by repeat (first | exact Below.refl _ _ | apply pw_below_drewN | apply below_drew1 | apply below_alloc))⟩, ⟨(by repeat (first | (with_reducible first | exact HB.out | apply below_alloc | apply pw_below_drewN | apply below_drew1) | exact HB.out))⟩⟩
    case round =>
      clear HO HB
      obtain ⟨rfl, HO, HB⟩ := hrel
      go_wp2
      go_ret
      exact ⟨_, rfl, by have h_ := HO.out; rw [HZ.out] at h_ ⊢; exact Kd.R_below h_ (by repeat (first | exact Below.refl _ _ | apply pw_below_drewN | apply below_drew1 | apply below_alloc)), (by repeat (first | (with_reducible first | exact HB.out | apply below_alloc | apply pw_below_drewN | apply below_drew1) | exact HB.out))⟩
  obtain ⟨g, cap, e3, hge, -, -⟩ := Kd.R_form h30 (by rw [List.length_replicate]; omega)
  rw [List.length_replicate] at e3
  subst e3
  have HO := Aside0.mk (show (Kd.int .i64).R 3 w30 w.heap.size (fun _ => True) (.slice (some ⟨g, 0, none⟩) N cap) (slices_Repeat_int_int.row N 0 x) from h30)
  have HG := Aside0.mk hge
  have HZ := Aside0.mk hz
  have hc00 := Kd.R_celln 0 h30 (0 : Int) (by decide) (by omega)
  have hcp : (Builtin.copy_ #[29, 29] 3 #[.slice (some ⟨g, 0, none⟩) N cap, .slice (some ad) 1 c0]).run Try.prog w30 = .ok (goInt 1) (w30.setCells g 0 [Value.int .i64 x]) :=
    run_copy_cells w30 29 29 3 3 g 0 N cap ad 1 c0 [Value.int .i64 x] Try.underlying29 hsz (by simp [Nat.min_def]; omega)
      (fun j v hj => by
        rcases j with _ | j
        · obtain rfl := Option.some.inj hj
          exact (HB.out.cell (World.block_lt_of_cell? w _ HX.out)).trans HX.out
        · simp at hj)
      (fun j hj => by
        obtain rfl : j = 0 := by simpa using hj
        have := hc00.1
        simp at this ⊢
        rw [this]; rfl)
      (fun j hj => by
        obtain rfl : j = 0 := by simpa using hj
        have := hc00.2
        simpa using this) (by intro v hv; obtain rfl := List.mem_singleton.mp hv; rfl)
  clear h30 hge hz hc00
  go_upto_region 8 with (fail)
  have hp1 := slices_Repeat_int_int.puts (w := w) HG.out 1 0 w30 (by have := HZ.out; omega) HO.out HB.out
  have n0_ := Aside0.mk hp1.1
  have n1_ := Aside0.mk hp1.2
  clear HO HB hp1 hcp
  have HO := n0_; have HB := n1_
  clear n0_ n1_
  change Aside0 ((Kd.int .i64).R 3 (w30.setCells g 0 [Value.int .i64 x]) w.heap.size (fun _ => True) (.slice (some ⟨g, 0, none⟩) N cap) (slices_Repeat_int_int.row N 1 x)) at HO
  change Aside0 (Below w.heap.size w (w30.setCells g 0 [Value.int .i64 x])) at HB
  generalize hW8 : w30.setCells g 0 [Value.int .i64 x] = W8 at HO HB ⊢
  clear hW8
  go_loopg [8] N (fun gg v8 wr => ∃ m : Nat, v8 = .int .i64 (m : Int) ∧ 1 ≤ m ∧ m ≤ N ∧ N - m ≤ gg ∧ Aside0 ((Kd.int .i64).R 3 wr w.heap.size (fun _ => True) (.slice (some ⟨g, 0, none⟩) N cap) (slices_Repeat_int_int.row N m x)) ∧ Aside0 (Below w.heap.size w wr))
  case atStart => exact ⟨1, rfl, Nat.le_refl _, by have := HZ.out; omega, by omega, ⟨Kd.R_below HO.out (by repeat (first | exact Below.refl _ _ | apply pw_below_drewN | apply below_drew1 | apply below_alloc))⟩, ⟨(by repeat (first | (with_reducible first | exact HB.out | apply below_alloc | apply pw_below_drewN | apply below_drew1) | exact HB.out))⟩⟩
  case round =>
    clear HO HB
    obtain ⟨m, rfl, hm1, hmN, hg, HO, HB⟩ := hrel
    by_cases hlt : m < N
    · have q1 : decide ((m : Int) < (N : Int)) = true := decide_eq_true (by omega)
      have q1n : decide (m < N) = true := decide_eq_true hlt
      have q1p : (m < N) = True := eq_true hlt
      have hcap := (Kd.R_reads' HO.out).2.1
      have h00 := fun j (hj : j < N) => Kd.R_celln 0 HO.out (j : Int) (by omega) (by omega)
      have b0 : (0 : Int) ≤ (m : Int) := by omega
      have b1 : (m : Int) ≤ (N : Int) := by omega
      have b2 : (m : Int) ≤ (cap : Int) := by omega
      have b3 : (N : Int) ≤ (cap : Int) := by omega
      have b1n : m ≤ N := by omega
      have b2n : m ≤ cap := by omega
      have b3n : N ≤ cap := by omega
      have b4 : (cap = m) = False := eq_false (by omega)
      have b5 : ((cap : Int) = (m : Int)) = False := eq_false (by omega)
      obtain ⟨q, hq⟩ : ∃ q, q = Nat.min m (N - m) := ⟨_, rfl⟩
      have hq1 : q ≤ m := by rw [hq]; exact Nat.min_le_left _ _
      have hq2' : q ≤ N - m := by rw [hq]; exact Nat.min_le_right _ _
      have hq2 : m + q ≤ N := by omega
      clear hq2'
      have hq3 : 1 ≤ q := by rw [hq]; exact Nat.le_min.2 ⟨hm1, by omega⟩
      have hw : IntKind.i64.wrap ((m : Int) + (q : Int)) = ((m + q : Nat) : Int) := by rw [IntWalk.i64_in _ ⟨by omega, by have := HN.out; omega⟩]; omega
      have hp1 := slices_Repeat_int_int.puts (w := w) HG.out q m wr.drew hq2 (Kd.R_drew HO.out) (below_drew1 HB.out)
      have hcp : (Builtin.copy_ #[29, 29] 3 #[.slice (some ⟨g, m, none⟩) (N - m) (cap - m), .slice (some ⟨g, 0, none⟩) m cap]).run Try.prog wr.drew = .ok (goInt (q : Int)) (wr.drew.setCells g m (List.replicate q (Value.int .i64 x))) := by
        have h_ := run_copy_cells (P := Try.prog) wr.drew 29 29 3 3 g m (N - m) (cap - m) ⟨g, 0, none⟩ m cap (List.replicate q (Value.int .i64 x)) Try.underlying29 hsz (by rw [List.length_replicate]; exact hq)
          (fun j v hj => by
            rw [List.getElem?_replicate] at hj
            by_cases hjq : j < q
            · rw [if_pos hjq] at hj
              obtain rfl := Option.some.inj hj
              have e := (h00 j (by omega)).1
              rw [slices_Repeat_int_int.row_get (by omega), Int.toNat_natCast] at e
              rw [add_plain]
              simpa using e
            · rw [if_neg hjq] at hj; exact absurd hj (by simp))
          (fun j hj => by
            rw [List.length_replicate] at hj
            have e := (h00 (m + j) (by omega)).1
            rw [Int.toNat_natCast] at e
            simp only [World.cell?_drew]
            rw [e]; rfl)
          (fun j hj => by
            rw [List.length_replicate] at hj
            have e := (h00 (m + j) (by omega)).2
            rw [Int.toNat_natCast] at e
            simpa using e) (by intro v hv; obtain rfl := List.eq_of_mem_replicate hv; rfl)
        rw [List.length_replicate] at h_
        exact h_
      have HQ := Aside0.mk (And.intro hq3 (And.intro hg hlt))
      have HP1 := Aside0.mk hp1
      clear hq hq1 hq3 h00 hp1 hcap hm1 hmN hg hlt
      try go_wp2
      refine start_ (n := 10) (S := fun _ => True) (ds := [9]) #[false, false, false, false, false, false, false, false, false, false] (by kernel_rfl) rfl rfl trivial (fun hHeld => ?_)
      refine pure_ (i := 0) (N := some 38) (v := ?_) (a' := ?_) #[true, false, false, false, false, false, false, false, false, false] rfl rfl (by kernel_rfl) (fun _ _ _ h => h) (Or.inl ⟨by rfl, ?_⟩) ?_ ?_
      rotate_left
      · intro w'
        go_simp
        with_reducible rfl
      rotate_left
      · simp only [Act.put, List.setIfInBounds_toArray, List.set_cons_zero, List.set_cons_succ, i64_w, i32_w]
        rfl
      refine pure_ (i := 1) (N := some 39) (v := ?_) (a' := ?_) #[true, true, false, false, false, false, false, false, false, false] rfl rfl (by kernel_rfl) (fun _ _ _ h => h) (Or.inl ⟨by rfl, ?_⟩) ?_ ?_
      rotate_left
      · intro w'
        go_simp
        with_reducible rfl
      rotate_left
      · simp only [Act.put, List.setIfInBounds_toArray, List.set_cons_zero, List.set_cons_succ, i64_w, i32_w]
        rfl
      refine pure_ (i := 2) (N := some 40) (v := ?_) (a' := ?_) #[true, true, true, false, false, false, false, false, false, false] rfl rfl (by kernel_rfl) (fun _ _ _ h => h) (Or.inl ⟨by rfl, ?_⟩) ?_ ?_
      rotate_left
      · intro w'
        go_simp
        with_reducible rfl
      rotate_left
      · simp only [Act.put, List.setIfInBounds_toArray, List.set_cons_zero, List.set_cons_succ, i64_w, i32_w]
        rfl
      refine pure_ (i := 3) (N := some 41) (v := ?_) (a' := ?_) #[true, true, true, true, false, false, false, false, false, false] rfl rfl (by kernel_rfl) (fun _ _ _ h => h) (Or.inl ⟨by rfl, ?_⟩) ?_ ?_
      rotate_left
      · intro w'
        go_simp
        with_reducible rfl
      rotate_left
      · simp only [Act.put, List.setIfInBounds_toArray, List.set_cons_zero, List.set_cons_succ, i64_w, i32_w]
        rfl
      refine pure_ (i := 4) (N := some 42) (v := ?_) (a' := ?_) #[true, true, true, true, true, false, false, false, false, false] rfl rfl (by kernel_rfl) (fun _ _ _ h => h) (Or.inl ⟨by rfl, ?_⟩) ?_ ?_
      rotate_left
      · intro w'
        go_simp
        with_reducible rfl
      rotate_left
      · simp only [Act.put, List.setIfInBounds_toArray, List.set_cons_zero, List.set_cons_succ, i64_w, i32_w]
        rfl
      refine pure_ (i := 5) (N := some 43) (v := ?_) (a' := ?_) #[true, true, true, true, true, true, false, false, false, false] rfl rfl (by kernel_rfl) (fun _ _ _ h => h) (Or.inl ⟨by rfl, ?_⟩) ?_ ?_
      rotate_left
      · intro w'
        go_simp
        with_reducible rfl
      rotate_left
      · simp only [Act.put, List.setIfInBounds_toArray, List.set_cons_zero, List.set_cons_succ, i64_w, i32_w]
        rfl
      refine pure_ (i := 6) (N := some 44) (v := ?_) (a' := ?_) #[true, true, true, true, true, true, true, false, false, false] rfl rfl (by kernel_rfl) (fun _ _ _ h => h) (Or.inl ⟨by rfl, ?_⟩) ?_ ?_
      rotate_left
      · intro w'
        go_simp
        with_reducible rfl
      rotate_left
      · simp only [Act.put, List.setIfInBounds_toArray, List.set_cons_zero, List.set_cons_succ, i64_w, i32_w]
        rfl
      refine one_ (i := 7) (N := some 45) #[true, true, true, true, true, true, true, true, false, false] rfl rfl (by kernel_rfl) (by decide) (fun K hK => ?_)
      refine value_ (w1 := ?_) (v := ?_) (by rfl) rfl ?_ ?_
      rotate_left 2
      · go_simp
        constructor
        · rfl
        · rfl
      refine hK.out _ _ trivial (fun hHeld => ?_)
      clear hK K
      refine norm_ (a' := ?_) ?_ ?_
      rotate_left
      · show Act.put _ (some 45) _ = _
        simp only [Act.put, List.setIfInBounds_toArray, List.set_cons_zero, List.set_cons_succ, i64_w, i32_w]
        rfl
      refine pure_ (i := 8) (N := some 46) (v := ?_) (a' := ?_) #[true, true, true, true, true, true, true, true, true, false] rfl rfl (by kernel_rfl) (fun _ _ _ h => h) (Or.inl ⟨by rfl, ?_⟩) ?_ ?_
      rotate_left
      · intro w'
        go_simp
        with_reducible rfl
      rotate_left
      · simp only [Act.put, List.setIfInBounds_toArray, List.set_cons_zero, List.set_cons_succ, i64_w, i32_w]
        rfl
      refine pure_ (i := 9) (N := some 8) (v := ?_) (a' := ?_) #[true, true, true, true, true, true, true, true, true, true] rfl rfl (by kernel_rfl) (fun _ _ _ h => h) (Or.inl ⟨by rfl, ?_⟩) ?_ ?_
      rotate_left
      · intro w'
        go_simp
        with_reducible rfl
      rotate_left
      · simp only [Act.put, List.setIfInBounds_toArray, List.set_cons_zero, List.set_cons_succ, i64_w, i32_w]
        rfl
      refine done_ (by kernel_rfl) ?_
      clear HO HB hcp
      have HO := Aside0.mk HP1.out.1
      have HB := Aside0.mk HP1.out.2
      clear HP1
      generalize wr.drew.setCells g m (List.replicate q (Value.int .i64 x)) = W9 at HO HB ⊢
      try go_wp2
      go_roundg (N - (m + q))
      case measure => have := HQ.out; omega
      case rel => exact ⟨m + q, (by first | rfl | (simp; done) | (simp [*]; done)), by have := HQ.out; omega, hq2, Nat.le_refl _, ⟨Kd.R_below HO.out (by repeat (first | exact Below.refl _ _ | apply pw_below_drewN | apply below_drew1 | apply below_alloc))⟩, ⟨(by repeat (first | (with_reducible first | exact HB.out | apply below_alloc | apply pw_below_drewN | apply below_drew1) | exact HB.out))⟩⟩
    · have q1 : decide ((m : Int) < (N : Int)) = false := decide_eq_false (by omega)
      have q1n : decide (m < N) = false := decide_eq_false hlt
      have q1p : (m < N) = False := eq_false hlt
      obtain rfl : m = N := by omega
      clear hlt hg hmN hm1
      go_wp2
      go_ret
      have e : slices_Repeat_int_int.row m m x = List.replicate m (List.headD [x] 0) := by unfold slices_Repeat_int_int.row; rw [Nat.sub_self]; simp
      exact ⟨_, rfl, by have h_ := HO.out; rw [e] at h_; exact Kd.R_below h_ (by repeat (first | exact Below.refl _ _ | apply pw_below_drewN | apply below_drew1 | apply below_alloc)), (by repeat (first | (with_reducible first | exact HB.out | apply below_alloc | apply pw_below_drewN | apply below_drew1) | exact HB.out))⟩

end Go.Proofs.Ythkchdfkeieabaa.QGr
