/- Contracts of functions of the given program, walked: each call returns what its Lean function says. Conditions: those that stand at each theorem. (Written by a program of this session.) -/
import Derived.Test.YthkchdfkeieabaaQGrx0
import Derived.Test.YthkchdfkeieabaaQGrx6
import Derived.Test.YthkchdfkeieabaaQGrx7
import Derived.Test.YthkchdfkeieabaaQGrx8
import Derived.Test.YthkchdfkeieabaaQGrx9
import Derived.Test.YthkchdfkeieabaaQGrx10
namespace Go.Proofs.Ythkchdfkeieabaa.QGr
open Go.RowKit Go.Proofs.YthkchdfkeieabaaW.PrintWords Go.Proofs.YthkchdfkeieabaaW.PrintLast Go.Proofs.YthkchdfkeieabaaW.PrintMore
attribute [local go_sem] max2_int min2_int max_two min_two max_three min_three max_four min_four   -- for this text's walks alone
set_option linter.unusedVariables false
set_option linter.unusedSimpArgs false

/-! ### impl_graph_int_best: function 111, its closure -/
/-- Edges with marks, and how they lie: their own rows are of blocks that bear the mark. -/
def leadR (W : World) (base : Nat) (okl : Nat → Prop) (f : Nat → Nat) (z : S110 × Nat) (r : REdge) : Prop := r.f0 = z.1.f0 ∧ r.f1 = z.1.f1 ∧ (Kd.int .i64).R 3 W base (fun k => okl k ∧ f k = z.2) (.slice r.A r.n r.c) z.1.f2
def LeadT (W : World) (base : Nat) (okl : Nat → Prop) (f : Nat → Nat) : List (S110 × Nat) → List REdge → Prop
  | [], [] => True
  | z :: zs, r :: rs => leadR W base okl f z r ∧ LeadT W base okl f zs rs
  | _, _ => False
section
variable {W W' : World} {base : Nat} {okl : Nat → Prop} {f : Nat → Nat}
theorem LeadT.len : ∀ {zs : List (S110 × Nat)} {rs : List REdge}, LeadT W base okl f zs rs → zs.length = rs.length
  | [], [], _ => rfl
  | _ :: _, _ :: _, h => congrArg (· + 1) (LeadT.len h.2)
  | [], _ :: _, h => h.elim
  | _ :: _, [], h => h.elim
theorem LeadT.at_ : ∀ {zs : List (S110 × Nat)} {rs : List REdge}, LeadT W base okl f zs rs → ∀ (j : Nat) (z : S110 × Nat) (r : REdge), zs[j]? = some z → rs[j]? = some r → leadR W base okl f z r
  | [], _, _, _, _, _, h, _ => by simp at h
  | _ :: _, [], h, _, _, _, _, _ => h.elim
  | _ :: _, _ :: _, h, 0, z, r, hz, hr => by obtain rfl := Option.some.inj hz; obtain rfl := Option.some.inj hr; exact h.1
  | _ :: _, _ :: _, h, j + 1, z, r, hz, hr => LeadT.at_ h.2 j z r hz hr
theorem LeadT.of : ∀ {zs : List (S110 × Nat)} {rs : List REdge}, zs.length = rs.length → (∀ (j : Nat) (z : S110 × Nat) (r : REdge), zs[j]? = some z → rs[j]? = some r → leadR W base okl f z r) → LeadT W base okl f zs rs
  | [], [], _, _ => trivial
  | _ :: _, _ :: _, hl, h => ⟨h 0 _ _ rfl rfl, LeadT.of (Nat.succ.inj hl) (fun j z r hz hr => h (j + 1) z r hz hr)⟩
  | [], _ :: _, hl, _ => by simp at hl
  | _ :: _, [], hl, _ => by simp at hl
theorem LeadT.move (hm : ∀ k, okl k → k < W.heap.size → W'.heap[k]? = W.heap[k]?) : ∀ {zs : List (S110 × Nat)} {rs : List REdge}, LeadT W base okl f zs rs → LeadT W' base okl f zs rs
  | [], [], _ => trivial
  | _ :: _, _ :: _, h => ⟨⟨h.1.1, h.1.2.1, Kd.R_step h.1.2.2 (fun k hk hl => hm k hk.1 hl)⟩, LeadT.move hm h.2⟩
  | [], _ :: _, h => h.elim
  | _ :: _, [], h => h.elim
theorem LeadT.filter (q : Int → Int → Bool) : ∀ {zs : List (S110 × Nat)} {rs : List REdge}, LeadT W base okl f zs rs → LeadT W base okl f (zs.filter fun z => q z.1.f0 z.1.f1) (rs.filter fun r => q r.f0 r.f1)
  | [], [], _ => trivial
  | z :: zs, r :: rs, h => by
    have ih := LeadT.filter q h.2
    rw [List.filter_cons, List.filter_cons, h.1.1, h.1.2.1]
    split
    · exact ⟨h.1, ih⟩
    · exact ih
  | [], _ :: _, h => h.elim
  | _ :: _, [], h => h.elim
theorem LeadT.all {p : Int → Int → Prop} : ∀ {zs : List (S110 × Nat)} {rs : List REdge}, LeadT W base okl f zs rs → (∀ z ∈ zs, p z.1.f0 z.1.f1) → ∀ r ∈ rs, p r.f0 r.f1
  | [], [], _, _ => by simp
  | z :: zs, r :: rs, h, hp => by
    intro r' hr
    rcases List.mem_cons.1 hr with rfl | hr
    · rw [h.1.1, h.1.2.1]; exact hp z List.mem_cons_self
    · exact LeadT.all h.2 (fun z hz => hp z (List.mem_cons_of_mem _ hz)) r' hr
  | [], _ :: _, h, _ => h.elim
  | _ :: _, [], h, _ => h.elim
end
theorem lead_list {α : Type} {p : Nat → α → Prop} : ∀ (n : Nat), (∀ i, i < n → ∃ x, p i x) → ∃ l : List α, l.length = n ∧ ∀ i x, l[i]? = some x → p i x
  | 0, _ => ⟨[], rfl, fun i x hx => by simp at hx⟩
  | n + 1, h => by
    obtain ⟨l, hl, hp⟩ := lead_list n (fun i hi => h i (Nat.lt_succ_of_lt hi))
    obtain ⟨x, hx⟩ := h n (Nat.lt_succ_self n)
    refine ⟨l ++ [x], by rw [List.length_append, hl]; rfl, fun i y hy => ?_⟩
    rcases Nat.lt_or_ge i l.length with hi | hi
    · rw [List.getElem?_append_left hi] at hy
      exact hp i y hy
    · have hi' := (List.getElem?_eq_some_iff.1 hy).1
      rw [List.length_append, List.length_singleton] at hi'
      have e : i = l.length := by omega
      subst e
      rw [List.getElem?_append_right (Nat.le_refl _), Nat.sub_self] at hy
      obtain rfl : x = y := by simpa using hy
      rw [hl]; exact hx
/-- A row of edges, laid open. -/
theorem lead_open {W : World} {base : Nat} {ok : Nat → Prop} {v : Value} {es : List S110} (h : Kd.S k110 110 W base ok v es) :
    ∃ f res, kre.R 110 W base (fun k => some k = v.ownBlock) v res ∧ LeadT W base (fun k => ok k ∧ some k ≠ v.ownBlock) f es.zipIdx res := by
  obtain ⟨f, hown, inner, ho, hl, hr⟩ := h
  obtain ⟨res, hres, hp⟩ := lead_list (p := fun i (r : REdge) => ∃ z, es.zipIdx[i]? = some z ∧ (inner.drop (i * 3)).take 3 = r.enc ∧ leadR W base (fun k => ok k ∧ some k ≠ v.ownBlock) f z r) es.zipIdx.length (fun i hi => by
    obtain ⟨z, hz⟩ : ∃ z, es.zipIdx[i]? = some z := ⟨_, List.getElem?_eq_getElem hi⟩
    have hM := hr i z hz
    obtain ⟨v2, hc, hR⟩ := k110_openM (show k110.M W base (fun k => (ok k ∧ some k ≠ v.ownBlock) ∧ f k = z.2) z.1 ((inner.drop (i * 3)).take 3) from hM)
    obtain ⟨A, c, rfl⟩ := Kd.R_slice hR
    exact ⟨⟨z.1.f0, z.1.f1, A, z.1.f2.length, c⟩, z, hz, hc, rfl, rfl, hR⟩)
  refine ⟨f, res, ⟨fun k hk => hk.symm, inner, by rw [hres]; exact ho, ?_, fun j r hj => ?_⟩, LeadT.of hres.symm (fun j z r hz hr => ?_)⟩
  · rw [hres]; exact hl
  · obtain ⟨z, hz, hc, -⟩ := hp j r hj
    have hc' : (inner.drop (j * kre.sz)).take kre.sz = r.enc := hc
    rw [hc']
    exact kre_M _ _ _ r
  · obtain ⟨z', hz', -, hL⟩ := hp j r hr
    rw [hz] at hz'
    obtain rfl := Option.some.inj hz'
    exact hL
/-- And shut. -/
theorem lead_shut {W : World} {base : Nat} {okr okl : Nat → Prop} {f : Nat → Nat} {v : Value} {zs : List (S110 × Nat)} {res : List REdge} (hR : kre.R 110 W base okr v res) (hL : LeadT W base okl f zs res) (hnd : (zs.map (·.2)).Nodup) (hne : ∀ k, okl k → some k ≠ v.ownBlock) :
    Kd.S k110 110 W base (fun _ => True) v (zs.map (·.1)) := by
  obtain ⟨hown, inner, ho, hl, hr⟩ := hR
  have hlen := hL.len
  refine ⟨fun k => (zs.map (·.2)).idxOf (f k), fun _ _ => trivial, inner, by rw [List.length_zipIdx, List.length_map, hlen]; exact ho, by rw [List.length_zipIdx, List.length_map, hlen]; exact hl, fun j z hz => ?_⟩
  rw [List.getElem?_zipIdx, Nat.zero_add] at hz
  obtain ⟨x, hx, rfl⟩ := Option.map_eq_some_iff.1 hz
  rw [List.getElem?_map] at hx
  obtain ⟨z0, hz0, rfl⟩ := Option.map_eq_some_iff.1 hx
  have hj : j < zs.length := (List.getElem?_eq_some_iff.1 hz0).1
  obtain ⟨r, hr0⟩ : ∃ r, res[j]? = some r := ⟨_, List.getElem?_eq_getElem (by rw [← hlen]; exact hj)⟩
  have hc := (hr j r hr0).1
  obtain ⟨e0, e1, hR2⟩ := hL.at_ j z0 r hz0 hr0
  have hM := k110_mkM W base (fun k => okl k ∧ f k = z0.2) z0.1 hR2
  show k110.M W base (fun k => (True ∧ some k ≠ v.ownBlock) ∧ (zs.map (·.2)).idxOf (f k) = j) z0.1 ((inner.drop (j * 3)).take 3)
  have hc' : (inner.drop (j * 3)).take 3 = [.int .i64 z0.1.f0, .int .i64 z0.1.f1, .slice r.A r.n r.c] := by rw [← e0, ← e1]; exact hc
  rw [hc']
  refine Kd.M_mono _ (fun k hk => ⟨⟨trivial, hne k hk.1⟩, ?_⟩) hM
  rw [hk.2]
  have hjm : j < (zs.map (·.2)).length := by rw [List.length_map]; exact hj
  have e2 : z0.2 = (zs.map (·.2))[j] := by rw [List.getElem_map]; congr 1; rw [List.getElem?_eq_getElem hj] at hz0; exact (Option.some.inj hz0).symm
  rw [e2]
  exact hnd.idxOf_getElem j hjm
/-- An edge that is on no least way from s. -/
def offWay (dist : List Int) (s t c : Int) : Bool := decide (rdOf 0 dist t < 0) || (wrap64 (rdOf 0 dist t + c) != rdOf 0 dist s)
set_option maxHeartbeats 8000000 in
set_option maxRecDepth 100000 in
theorem impl_graph_int_best.calls_1 (B1 B2 : Nat) (Ad : Option Addr) (cd : Nat) (dist : List Int) (s : Int) (r : REdge) (W : World) (h1 : W.cell? ⟨B1, 0, none⟩ = some (.slice Ad dist.length cd)) (h2 : W.cell? ⟨B2, 0, none⟩ = some (.int .i64 s)) (hr : (Kd.int .i64).C W Ad dist.length dist) (hs : 0 ≤ s ∧ s < (dist.length : Int)) (ht : 0 ≤ r.f0 ∧ r.f0 < (dist.length : Int)) :
    Calls Try.prog 147 #[.agg #[.int .i64 r.f0, .int .i64 r.f1, .slice r.A r.n r.c], .pointer (some ⟨B1, 0, none⟩), .pointer (some ⟨B2, 0, none⟩)] W fun e w' => e = .returned (.bool (offWay dist s r.f0 r.f1)) ∧ Below W.heap.size W w' := by
  have hu := Try.underlying110
  obtain ⟨ad, rfl, hxt⟩ := Kd.at_int hr r.f0 ht.1 ht.2
  obtain ⟨ad', e', hxs⟩ := Kd.at_int hr s hs.1 hs.2
  cases e'
  have t0 := eq_true ht.1
  have t1 := eq_true ht.2
  have s0 := eq_true hs.1
  have s1 := eq_true hs.2
  have HB := Aside0.mk (Below.refl W.heap.size W)
  have hO : offWay dist s r.f0 r.f1 = (decide (rd dist r.f0 < 0) || (wrap64 (rd dist r.f0 + r.f1) != rd dist s)) := rfl
  rw [hO]
  clear hO hr hs ht
  generalize rd dist r.f0 = dt at hxt ⊢
  generalize rd dist s = ds at hxs ⊢
  by_cases hv : dt < 0
  · have v1 : decide (dt < 0) = true := decide_eq_true hv
    rw [v1]
    clear hv
    go_enter Try.func147, Try.ntmps147
    go_wp2_with (first | ((with_reducible refine gate_dst (N := 3) rfl ?_); refine box_event ?hg (N := 3) ?hd (cs := #[.int .i64 r.f0, .int .i64 r.f1, .slice r.A r.n r.c]) (t := 110) ?hr ?_; (case hd => rfl); (case hg => rfl); (case hr => first | (go_simp; done) | (go_simp; rfl)); intro gb3 hg w3 hbox hb; clear hg; have n0_ := pw_cell_below hb h1; have n1_ := pw_cell_below hb h2; have n2_ := pw_cell_below hb hxt; have n3_ := pw_cell_below hb hxs; have n4_ := Aside0.mk hb; clear h1 h2 hxt hxs HB hb; have h1 := n0_; have h2 := n1_; have hxt := n2_; have hxs := n3_; have HB := n4_; clear n0_ n1_ n2_ n3_ n4_; have hz0 := blk_cell hbox 0; have hz1 := blk_cell hbox 1; simp at hz0; simp at hz1; clear hbox))
    repeat (go_quiet (first | ((with_reducible refine gate_dst (N := 3) rfl ?_); refine box_event ?hg (N := 3) ?hd (cs := #[.int .i64 r.f0, .int .i64 r.f1, .slice r.A r.n r.c]) (t := 110) ?hr ?_; (case hd => rfl); (case hg => rfl); (case hr => first | (go_simp; done) | (go_simp; rfl)); intro gb3 hg w3 hbox hb; clear hg; have n0_ := pw_cell_below hb h1; have n1_ := pw_cell_below hb h2; have n2_ := pw_cell_below hb hxt; have n3_ := pw_cell_below hb hxs; have n4_ := Aside0.mk hb; clear h1 h2 hxt hxs HB hb; have h1 := n0_; have h2 := n1_; have hxt := n2_; have hxs := n3_; have HB := n4_; clear n0_ n1_ n2_ n3_ n4_; have hz0 := blk_cell hbox 0; have hz1 := blk_cell hbox 1; simp at hz0; simp at hz1; clear hbox)))
    try go_wp2
    first | go_ret | go_ret2
    exact ⟨rfl, (by repeat (first | (with_reducible first | exact HB.out | apply below_alloc | apply pw_below_drewN | apply below_drew1) | exact HB.out))⟩
  · have v1 : decide (dt < 0) = false := decide_eq_false hv
    rw [v1]
    clear hv
    go_enter Try.func147, Try.ntmps147
    go_wp2_with (first | ((with_reducible refine gate_dst (N := 3) rfl ?_); refine box_event ?hg (N := 3) ?hd (cs := #[.int .i64 r.f0, .int .i64 r.f1, .slice r.A r.n r.c]) (t := 110) ?hr ?_; (case hd => rfl); (case hg => rfl); (case hr => first | (go_simp; done) | (go_simp; rfl)); intro gb3 hg w3 hbox hb; clear hg; have n0_ := pw_cell_below hb h1; have n1_ := pw_cell_below hb h2; have n2_ := pw_cell_below hb hxt; have n3_ := pw_cell_below hb hxs; have n4_ := Aside0.mk hb; clear h1 h2 hxt hxs HB hb; have h1 := n0_; have h2 := n1_; have hxt := n2_; have hxs := n3_; have HB := n4_; clear n0_ n1_ n2_ n3_ n4_; have hz0 := blk_cell hbox 0; have hz1 := blk_cell hbox 1; simp at hz0; simp at hz1; clear hbox))
    repeat (go_quiet (first | ((with_reducible refine gate_dst (N := 3) rfl ?_); refine box_event ?hg (N := 3) ?hd (cs := #[.int .i64 r.f0, .int .i64 r.f1, .slice r.A r.n r.c]) (t := 110) ?hr ?_; (case hd => rfl); (case hg => rfl); (case hr => first | (go_simp; done) | (go_simp; rfl)); intro gb3 hg w3 hbox hb; clear hg; have n0_ := pw_cell_below hb h1; have n1_ := pw_cell_below hb h2; have n2_ := pw_cell_below hb hxt; have n3_ := pw_cell_below hb hxs; have n4_ := Aside0.mk hb; clear h1 h2 hxt hxs HB hb; have h1 := n0_; have h2 := n1_; have hxt := n2_; have hxs := n3_; have HB := n4_; clear n0_ n1_ n2_ n3_ n4_; have hz0 := blk_cell hbox 0; have hz1 := blk_cell hbox 1; simp at hz0; simp at hz1; clear hbox)))
    try go_wp2
    first | go_ret | go_ret2
    exact ⟨(by first | rfl | (simp; done)), (by repeat (first | (with_reducible first | exact HB.out | apply below_alloc | apply pw_below_drewN | apply below_drew1) | exact HB.out))⟩
/-- Function 111, as a Lean function. -/
def impl_graph_int_best.f (E : Int → List S110) (N : Int) (s : Int) (dist : List Int) : Option (List S110) :=
  if 0 ≤ s ∧ s < N ∧ (dist.length : Int) = N ∧ (E s).length < 1000000 then (if ((E s).all fun e => decide (0 ≤ e.f0) && decide (e.f0 < N)) = true then some ((E s).filter fun e => !offWay dist s e.f0 e.f1) else none) else none
theorem zip_filter {α : Type} (q : α → Bool) (l : List α) : (l.zipIdx.filter fun z => q z.1).map (·.1) = l.filter q := by
  rw [show (fun z : α × Nat => q z.1) = q ∘ Prod.fst from rfl, ← List.filter_map, List.zipIdx_map_fst]
theorem zip_nodup {α : Type} (q : α × Nat → Bool) (l : List α) : ((l.zipIdx.filter q).map (·.2)).Nodup := by
  have h1 : (l.zipIdx.map Prod.snd).Nodup := by rw [List.zipIdx_map_snd]; exact List.nodup_range'
  exact List.Nodup.sublist ((List.filter_sublist (p := q) (l := l.zipIdx)).map Prod.snd) h1
set_option maxHeartbeats 8000000 in
set_option maxRecDepth 100000 in
theorem impl_graph_int_best.calls (fo : Nat) (cb : Array Value) (N : Int) (E : Int → List S110) (w w0 : World) (ee : ∀ args w, (callFunc fo args).run Try.prog w = .ok (.enter fo args) w) (hE : GOut fo cb N E w) (hb0 : Below w.heap.size w w0)
    (s : Int) (Ad : Option Addr) (cd : Nat) (dist : List Int) (r : List S110) (hd : (Kd.int .i64).C w0 Ad dist.length dist) (h : impl_graph_int_best.f E N s dist = some r) :
    Calls Try.prog 111 #[.agg #[.int .i64 N, .func (.func fo) #[] cb], .int .i64 s, .slice Ad dist.length cd] w0 fun e w' => ∃ v0_ : Value, e = .returned v0_ ∧ Kd.S k110 110 w' w0.heap.size (fun _ => True) v0_ r ∧ Below w0.heap.size w0 w' := by
  have hu := Try.underlying68
  have hu2 := Try.underlying110
  unfold impl_graph_int_best.f at h
  by_cases hc : 0 ≤ s ∧ s < N ∧ (dist.length : Int) = N ∧ (E s).length < 1000000
  rotate_left
  · rw [if_neg hc] at h; exact absurd h (by simp)
  rw [if_pos hc] at h
  by_cases hall : ((E s).all fun e => decide (0 ≤ e.f0) && decide (e.f0 < N)) = true
  rotate_left
  · rw [if_neg hall] at h; exact absurd h (by simp)
  rw [if_pos hall] at h
  obtain rfl := Option.some.inj h
  have hall2 : ∀ z ∈ (E s).zipIdx, 0 ≤ z.1.f0 ∧ z.1.f0 < (dist.length : Int) := fun z hz => by
    have h1 : z.1 ∈ E s := by
      have h2 := List.mem_map_of_mem (f := Prod.fst) hz
      rw [List.zipIdx_map_fst] at h2
      exact h2
    have h3 := List.all_eq_true.mp hall z.1 h1
    simp only [Bool.and_eq_true, decide_eq_true_eq] at h3
    exact ⟨h3.1, by rw [hc.2.2.1]; exact h3.2⟩
  have HA := Aside0.mk hall2
  have HC := Aside0.mk hc
  have HE := Aside0.mk hE
  have HB0 := Aside0.mk hb0
  have HB := Aside0.mk (Below.refl w0.heap.size w0)
  have HD := Aside0.mk hd
  clear h hall hall2 hc hE hb0 hd
  go_enter Try.func111, Try.ntmps111
  go_wp2_with (first | ((with_reducible refine gate_dst (N := 3) rfl ?_); refine box_event ?hg (N := 3) ?hd (cs := #[.int .i64 N, .func (.func fo) #[] cb]) (t := 68) ?hr ?_; (case hd => rfl); (case hg => rfl); (case hr => first | (go_simp; done) | (go_simp; rfl)); intro gb3 hg w3 hbox hb; have ns_ := Aside0.mk (Kd.C_below (HD.out) hb); have nb_ := Aside0.mk (below_step (by repeat (first | (with_reducible first | exact HB.out | apply below_alloc | apply pw_below_drewN | apply below_drew1) | exact HB.out)) hb); have nc_ := Aside0.mk hbox; have nd_ := Aside0.mk ((by rw [hg]; exact (below_size (by repeat (first | (with_reducible first | exact HB.out | apply below_alloc | apply pw_below_drewN | apply below_drew1) | exact HB.out))) : w0.heap.size ≤ gb3)); clear HD HB hb hbox hg; have HD := ns_; have HB := nb_; have BK3 := nc_; have GE3 := nd_; clear ns_ nb_ nc_ nd_; have hz3_0 := (blk_cell BK3.out 0); have hf3_0 := (blk_frozen BK3.out 0); simp at hz3_0; have hz3_1 := (blk_cell BK3.out 1); have hf3_1 := (blk_frozen BK3.out 1); simp at hz3_1; skip) | ((with_reducible refine gate_dst (N := 4) rfl ?_); refine box_event ?hg (N := 4) ?hd (cs := #[.int .i64 s]) (t := 3) ?hr ?_; (case hd => rfl); (case hg => rfl); (case hr => first | (go_simp; done) | (go_simp; rfl)); intro gb4 hg w4 hbox hb; have n0_ := Aside0.mk (blk_below (pk BK3.out) hb); have m0_ := Aside0.mk ((by rw [hg]; exact Nat.ne_of_lt (blk_lt (pk BK3.out)) : gb3 ≠ gb4)); have ns_ := Aside0.mk (Kd.C_below (HD.out) hb); have nb_ := Aside0.mk (below_step (by repeat (first | (with_reducible first | exact HB.out | apply below_alloc | apply pw_below_drewN | apply below_drew1) | exact HB.out)) hb); have nc_ := Aside0.mk hbox; have nd_ := Aside0.mk ((by rw [hg]; exact (below_size (by repeat (first | (with_reducible first | exact HB.out | apply below_alloc | apply pw_below_drewN | apply below_drew1) | exact HB.out))) : w0.heap.size ≤ gb4)); clear HD HB hb hbox hg; clear BK3; have BK3 := n0_; have NE3_4 := m0_; have HD := ns_; have HB := nb_; have BK4 := nc_; have GE4 := nd_; clear ns_ nb_ nc_ nd_ n0_ m0_; have hz4_0 := (blk_cell BK4.out 0); have hf4_0 := (blk_frozen BK4.out 0); simp at hz4_0; skip) | ((with_reducible refine gate_dst (N := 5) rfl ?_); refine box_event ?hg (N := 5) ?hd (cs := #[.slice Ad dist.length cd]) (t := 29) ?hr ?_; (case hd => rfl); (case hg => rfl); (case hr => first | (go_simp; done) | (go_simp; rfl)); intro gb5 hg w5 hbox hb; have n0_ := Aside0.mk (blk_below (pk BK3.out) hb); have m0_ := Aside0.mk ((by rw [hg]; exact Nat.ne_of_lt (blk_lt (pk BK3.out)) : gb3 ≠ gb5)); have n1_ := Aside0.mk (blk_below (pk BK4.out) hb); have m1_ := Aside0.mk ((by rw [hg]; exact Nat.ne_of_lt (blk_lt (pk BK4.out)) : gb4 ≠ gb5)); have ns_ := Aside0.mk (Kd.C_below (HD.out) hb); have nb_ := Aside0.mk (below_step (by repeat (first | (with_reducible first | exact HB.out | apply below_alloc | apply pw_below_drewN | apply below_drew1) | exact HB.out)) hb); have nc_ := Aside0.mk hbox; have nd_ := Aside0.mk ((by rw [hg]; exact (below_size (by repeat (first | (with_reducible first | exact HB.out | apply below_alloc | apply pw_below_drewN | apply below_drew1) | exact HB.out))) : w0.heap.size ≤ gb5)); clear HD HB hb hbox hg; clear BK3 BK4; have BK3 := n0_; have NE3_5 := m0_; have BK4 := n1_; have NE4_5 := m1_; have HD := ns_; have HB := nb_; have BK5 := nc_; have GE5 := nd_; clear ns_ nb_ nc_ nd_ n0_ m0_ n1_ m1_; have hz5_0 := (blk_cell BK5.out 0); have hf5_0 := (blk_frozen BK5.out 0); simp at hz5_0; have hq3_0 := (blk_cell BK3.out 0); have hq3_1 := (blk_cell BK3.out 1); have hq4_0 := (blk_cell BK4.out 0); simp at hq3_0; simp at hq3_1; simp at hq4_0; skip) | (go_at_fn fo; go_loud (refine (HE.out _ s (below_then HB0.out HB0.out.size (by repeat (first | (with_reducible first | exact HB.out | apply below_alloc | apply pw_below_drewN | apply below_drew1) | exact HB.out))) HC.out.1 HC.out.2.1).mono ?_; rintro e w10 ⟨v10, rfl, ho, hb⟩; obtain ⟨f, res, hR, hL⟩ := lead_open ho; have hcd_ : res.length < 1000000 := (by rw [← hL.len, List.length_zipIdx]; exact HC.out.2.2.2); have hsl_ : 0 ≤ s ∧ s < (dist.length : Int) := (And.intro HC.out.1 (by rw [HC.out.2.2.1]; exact HC.out.2.1)); have HDEL := Aside0.mk (impl_edge_int_146.calls 147 #[.pointer (some ⟨gb5, 0, none⟩), .pointer (some ⟨gb4, 0, none⟩)] (offWay dist s) (fun r => 0 ≤ r.f0 ∧ r.f0 < (dist.length : Int)) (fun W => Below w5.heap.size w5 W) (enters_of Try.func147 (by kernel_rfl) rfl) (fun W r hS hok => impl_graph_int_best.calls_1 gb5 gb4 Ad cd dist s r W (pw_cell_below hS ((blk_cell BK5.out 0).trans rfl)) (pw_cell_below hS ((blk_cell BK4.out 0).trans rfl)) (Kd.C_below HD.out hS) hsl_ hok) w5 w10 (fun k => some k = v10.ownBlock) v10 res hb hR hcd_ (LeadT.all (p := fun a _ => 0 ≤ a ∧ a < (dist.length : Int)) hL HA.out) (fun W h => h)); have HL := Aside0.mk hL; have HB2 := Aside0.mk hb; clear ho hR hL hb hcd_ hsl_)))
  go_wp2_with (go_at_call 146; refine HDEL.out.mono ?_; rintro e w12 ⟨v12, rfl, hR2, hv, hg, hb2⟩; have HO := Aside0.mk (Kd.S_lower (lead_shut hR2 ((LeadT.move (fun k hk hl => hg.block k hl hk.2) HL.out).filter (fun a b => !offWay dist s a b)) (zip_nodup _ _) (fun k hk => (by rw [hv]; exact hk.2))) (below_size HB.out)); rw [zip_filter (fun e : S110 => !offWay dist s e.f0 e.f1)] at HO; have n0_ := Aside0.mk (below_step HB.out hb2); clear HB HDEL HL HB2 hR2 hv hg hb2; have HB := n0_; clear n0_)
  first | go_ret | go_ret2
  exact ⟨_, rfl, HO.out, HB.out⟩

/-! ### impl_Company_graph: function 83, its closure -/
/-! Rows told by the cells of their block; edges that take them over. -/
theorem ls_lead {α : Type} {d : Kd α} {eI e g n cap base : Nat} {ok : Nat → Prop} {W : World} {ls : List (List α)} {cl : Array Value} (h : Kd.S (Kd.slice eI d) e W base ok (.slice (some ⟨g, 0, none⟩) n cap) ls) (hb : W.heap[g]? = some (.cells cl e (0, 0))) :
    ∃ f : Nat → Nat, ∀ (j : Nat) (l : List α), ls[j]? = some l → ∃ u : Value, cl[j]? = some u ∧ d.R eI W base (fun k => (ok k ∧ k ≠ g) ∧ f k = j) u l := by
  obtain ⟨f, hown, inner, ho, hl, hr⟩ := h
  refine ⟨f, fun j l hj => ?_⟩
  obtain ⟨v, hc, hR⟩ := hr j (l, j) (Kd.zip_at hj)
  rcases ho.2 with ⟨hv, _⟩ | ⟨g', cap', cur, hv, -, hh, -, -, -, ht⟩
  · cases hv
  cases hv
  rw [hb] at hh
  injection hh with hh
  injection hh with hh _
  subst hh
  have hjl := (List.getElem?_eq_some_iff.1 hj).1
  have hsz : (Kd.tag f (Kd.slice eI d)).sz = 1 := rfl
  rw [hsz] at hc ht
  refine ⟨v, ?_, Kd.R_mono hR (fun k hk => ⟨⟨hk.1.1, fun e_ => hk.1.2 (by rw [e_]; rfl)⟩, hk.2⟩)⟩
  have h2 : inner[j]? = some v := by
    have h3 := congrArg (fun l : List Value => l[0]?) hc
    simp only [List.getElem?_take, List.getElem?_drop, Nat.mul_one, Nat.add_zero] at h3
    simpa using h3
  rw [← ht, List.getElem?_take] at h2
  split at h2
  · rw [Array.getElem?_toList] at h2
    exact h2
  · exact absurd h2 (by simp)
def edRel (cl : Array Value) (ls : List (List Int)) (acc : List S110) (res : List REdge) : Prop := acc.length = res.length ∧ ∀ (i : Nat) (a : S110) (r : REdge), acc[i]? = some a → res[i]? = some r → r.f0 = a.f0 ∧ r.f1 = a.f1 ∧ ls[i]? = some a.f2 ∧ cl[i]? = some (.slice r.A r.n r.c)
theorem edRel.snoc {cl : Array Value} {ls : List (List Int)} {acc : List S110} {res : List REdge} (h : edRel cl ls acc res) {j : Nat} (hj : acc.length = j) {q c : Int} {l : (List Int)} {A : Option Addr} {n cc : Nat} (hl : ls[j]? = some l) (hc : cl[j]? = some (.slice A n cc)) : edRel cl ls (acc ++ [⟨q, c, l⟩]) (res ++ [⟨q, c, A, n, cc⟩]) := by
  refine ⟨by rw [List.length_append, List.length_append, h.1]; rfl, fun i a r ha hr => ?_⟩
  rcases Nat.lt_or_ge i acc.length with hi | hi
  · rw [List.getElem?_append_left hi] at ha
    rw [List.getElem?_append_left (by rw [← h.1]; exact hi)] at hr
    exact h.2 i a r ha hr
  · have hi' := (List.getElem?_eq_some_iff.1 ha).1
    rw [List.length_append, List.length_singleton] at hi'
    have e : i = acc.length := by omega
    subst e
    rw [List.getElem?_append_right (Nat.le_refl _), Nat.sub_self] at ha
    rw [h.1, List.getElem?_append_right (Nat.le_refl _), Nat.sub_self] at hr
    obtain rfl := Option.some.inj ha
    obtain rfl := Option.some.inj hr
    rw [hj]
    exact ⟨rfl, rfl, hl, hc⟩
/-- The edges' row, with the lists' rows for its own. -/
theorem edRel.shut {W : World} {base g n cap : Nat} {ok okr : Nat → Prop} {ls : List (List Int)} {cl : Array Value} {v : Value} {es : List S110} {res : List REdge} (h : edRel cl ls es res) (hls : Kd.S (Kd.slice 3 (Kd.int .i64)) 29 W base ok (.slice (some ⟨g, 0, none⟩) n cap) ls) (hb : W.heap[g]? = some (.cells cl 29 (0, 0)))
    (hR : kre.R 110 W base okr v res) (hne : 110 ∉ 3 :: (Kd.int .i64).E) : Kd.S k110 110 W base (fun _ => True) v es := by
  obtain ⟨f, hf⟩ := ls_lead hls hb
  have hL : LeadT W base (fun k => some k ≠ v.ownBlock) f es.zipIdx res := LeadT.of (by rw [List.length_zipIdx]; exact h.1) (fun j z r hz hr => by
    rw [List.getElem?_zipIdx, Nat.zero_add] at hz
    obtain ⟨a, ha, rfl⟩ := Option.map_eq_some_iff.1 hz
    obtain ⟨e0, e1, hl, hc⟩ := h.2 j a r ha hr
    obtain ⟨u, hu, hR2⟩ := hf j a.f2 hl
    rw [hc] at hu
    obtain rfl := Option.some.inj hu
    refine ⟨e0, e1, Kd.R_mono (Kd.R_bound hR2) (fun k hk => ⟨fun e_ => ?_, hk.1.2⟩)⟩
    obtain ⟨_, _, _, q, hq, cells, hcq⟩ := hk
    obtain ⟨cells2, hc2⟩ := Kd.R_typed hR k e_.symm
    rw [hcq] at hc2
    injection hc2 with hc2
    injection hc2 with _ hc2
    exact hne (hc2 ▸ hq))
  have h2 := lead_shut hR hL (by rw [List.zipIdx_map_snd]; exact List.nodup_range') (fun k hk => hk)
  rw [List.zipIdx_map_fst] at h2
  exact h2

def cmEd (k : Nat) (ov : List Bool) (tq : Bool) : List (List Int) → List S110 → Option (List S110)
  | [], acc => some acc
  | l :: ls, acc => (impl_State_moved.f k ov tq l).bind fun st => (impl_State_code.f k st.1 st.2).bind fun q => if acc.length < 1000000 then cmEd k ov tq ls (acc ++ [⟨q, 1, l⟩]) else none
theorem cmEd_mono (k : Nat) (ov : List Bool) (tq : Bool) : ∀ ls acc, LeO (cmEd k ov tq ls acc) (cmEd (k + 1) ov tq ls acc)
  | [], _ => LeO.refl _
  | l :: ls, acc => LeO.bind (impl_State_moved.mono _ _ _ _) (fun _ => LeO.bind (impl_State_code.mono _ _ _) (fun _ => LeO.ite (cmEd_mono k ov tq ls _) (LeO.refl _)))
def cmG (k : Nat) (n : Nat) (se : Int) (s : Int) : Option (List S110) :=
  (impl_stateOf.f k (n : Int) s).bind fun st => (impl_Company_rows.f k se st.1 st.2).bind fun ls => if ls.length < 1000000 then cmEd k st.1 st.2 ls [] else none
theorem cmG_mono (k : Nat) (n : Nat) (se : Int) (s : Int) : LeO (cmG k n se s) (cmG (k + 1) n se s) :=
  LeO.bind (impl_stateOf.mono _ _ _) (fun _ => LeO.bind (impl_Company_rows.mono _ _ _ _) (fun _ => LeO.ite (cmEd_mono _ _ _ _ _) (LeO.refl _)))
set_option maxHeartbeats 8000000 in
set_option maxRecDepth 100000 in
theorem impl_Company_graph.calls_1 (k : Nat) (Bn Bc : Nat) (co : Int) (n : Nat) (se s : Int) (es : List S110) (w : World)
    (hBn : w.heap[Bn]? = some (.cells #[.int .i64 (n : Int)] 3 (0, 0))) (hBc : w.heap[Bc]? = some (.cells #[.int .i64 co, .int .i64 se] 26 (0, 0)))
    (h : cmG k n se s = some es) :
    Calls Try.prog 122 #[.int .i64 s, .pointer (some ⟨Bn, 0, none⟩), .pointer (some ⟨Bc, 0, none⟩)] w fun e w' => ∃ v : Value, e = .returned v ∧ Kd.S k110 110 w' w.heap.size (fun _ => True) v es ∧ Below w.heap.size w w' := by
  have hu := Try.underlying26
  have hu2 := Try.underlying110
  have hu3 := Try.underlying115
  unfold cmG at h
  obtain ⟨⟨ov, tq⟩, h1, h⟩ := Option.bind_eq_some_iff.mp h
  obtain ⟨ls, h2, h⟩ := Option.bind_eq_some_iff.mp h
  by_cases hls : ls.length < 1000000
  rotate_left
  · rw [if_neg hls] at h; exact absurd h (by simp)
  rw [if_pos hls] at h
  have A1 := Aside0.mk fun (W : World) => impl_stateOf.calls k (n : Int) s ov tq W h1
  have A2 := Aside0.mk fun (W : World) (hb : Below w.heap.size w W) (Ao : Option Addr) (c0 : Nat) (ho : Kd.C Kd.bool W Ao ov.length ov) (hco : ov.length ≤ c0) => impl_Company_rows.calls k co se Ao c0 ov tq ls W ho hco h2
  have HLS := Aside0.mk hls
  have H := Aside0.mk h
  have HB := Aside0.mk (Below.refl w.heap.size w)
  have hn0 := blk_cell hBn 0
  have hc0 := blk_cell hBc 0
  have hc1 := blk_cell hBc 1
  simp at hn0
  simp at hc0
  simp at hc1
  have BN := Aside0.mk hBn
  have BC := Aside0.mk hBc
  clear h h1 h2 hls hBn hBc
  go_enter Try.func122, Try.ntmps122
  go_upto_region 2 with (first | (go_at_call 123; refine (A1.out _).mono ?_; rintro e w13 ⟨v13, rfl, ho, hb⟩; obtain ⟨Ao, c0, rfl⟩ := Kd.R_slice ho; have OV := Aside0.mk ho; clear hn0 hc0 hc1; have n0_ := Aside0.mk (blk_below BN.out hb); have n1_ := Aside0.mk (blk_below BC.out hb); have n2_ := Aside0.mk (below_step HB.out hb); clear BN BC HB hb ho; have BN := n0_; have BC := n1_; have HB := n2_; clear n0_ n1_ n2_))
  have hkr := Kd.R_alloc (Kd.S_R (gp_lit0 kre 110 w13 (below_size HB.out))) (.cells #[.slice Ao ov.length c0, .bool tq] 115)
  have hk6 := gp_new2 w13 (.cells #[] 110) (.cells #[.slice Ao ov.length c0, .bool tq] 115)
  have hb5 := (below_alloc (below_alloc (Below.refl w13.heap.size w13) (.cells #[] 110)) (.cells #[.slice Ao ov.length c0, .bool tq] 115))
  generalize (w13.alloc (.cells #[] 110)).alloc (.cells #[.slice Ao ov.length c0, .bool tq] 115) = w5 at hkr hk6 hb5 ⊢
  generalize Value.slice (some ⟨w13.heap.size, 0, none⟩) 0 0 = v5 at hkr ⊢
  generalize w13.heap.size + 1 = gb6 at hk6 ⊢
  have n0_ := Aside0.mk (blk_below BN.out hb5); have n1_ := Aside0.mk (blk_below BC.out hb5); have n2_ := Aside0.mk (below_step HB.out hb5); have n3_ := Aside0.mk (Kd.R_below OV.out hb5); clear BN BC HB OV hb5; have BN := n0_; have BC := n1_; have HB := n2_; have OV := n3_; clear n0_ n1_ n2_ n3_
  have HR := Aside0.mk hkr
  have BK6 := Aside0.mk hk6
  have hq0 := blk_cell BC.out 0
  have hq1 := blk_cell BC.out 1
  have hq3 := blk_cell BK6.out 0
  have hq4 := blk_cell BK6.out 1
  simp at hq0
  simp at hq1
  simp at hq3
  simp at hq4
  clear hkr hk6
  go_wp2_with (first | (go_at_call 124; refine (A2.out _ (by repeat (first | (with_reducible first | exact HB.out | apply below_alloc | apply pw_below_drewN | apply below_drew1) | exact HB.out)) Ao c0 (Kd.R_reads' OV.out).2.2 (Kd.R_reads' OV.out).2.1).mono ?_; rintro e w17 ⟨v17, rfl, ho, hb⟩; obtain ⟨Al, cl_, rfl⟩ := Kd.S_slice ho; have HLR := Aside0.mk (Kd.S_lower ho (below_size (by repeat (first | (with_reducible first | exact HB.out | apply below_alloc | apply pw_below_drewN | apply below_drew1) | exact HB.out)))); clear hq0 hq1 hq3 hq4; have n0_ := Aside0.mk (blk_below (pk BN.out) hb); have n1_ := Aside0.mk (blk_below (pk BC.out) hb); have n2_ := Aside0.mk (blk_below (pk BK6.out) hb); have n3_ := Aside0.mk (below_step (by repeat (first | (with_reducible first | exact HB.out | apply below_alloc | apply pw_below_drewN | apply below_drew1) | exact HB.out)) hb); have n4_ := Aside0.mk (Kd.R_below (Kd.pR OV.out) hb); have n5_ := Aside0.mk (Kd.R_below (Kd.pR HR.out) hb); clear BN BC BK6 HB OV HR hb ho; have BN := n0_; have BC := n1_; have BK6 := n2_; have HB := n3_; have OV := n4_; have HR := n5_; clear n0_ n1_ n2_ n3_ n4_ n5_))
  obtain ⟨gl, cl, hAl⟩ : ∃ (gl : Nat) (cl : Array Value), ls.length = 0 ∨ (Al = some ⟨gl, 0, none⟩ ∧ w17.heap[gl]? = some (.cells cl 29 (0, 0))) := by
    rcases Nat.eq_zero_or_pos ls.length with h0 | h0
    · exact ⟨0, #[], .inl h0⟩
    · obtain ⟨g, cap, e, -, -, cl, hc⟩ := Kd.S_form HLR.out h0
      injection e with e1 _ e3
      exact ⟨g, cl, .inr ⟨e1, hc⟩⟩
  have HAL := Aside0.mk hAl
  have HER := Aside0.mk (show edRel cl ls [] [] from ⟨rfl, fun i a r h _ => by simp at h⟩)
  clear hAl
  go_loopg [6, 17] ls.length (fun gg v7 v19 wr => ∃ (j : Nat) (acc : List S110) (res : List REdge), v19 = .int .i64 (j : Int) ∧ Aside0 (j ≤ ls.length ∧ ls.length - j ≤ gg ∧ acc.length = j) ∧ Aside0 (cmEd k ov tq (ls.drop j) acc = some es) ∧ Aside0 (edRel cl ls acc res) ∧ Aside0 (kre.R 110 wr w.heap.size (fun _ => True) v7 res) ∧ Aside0 (Kd.S (Kd.slice 3 (Kd.int .i64)) 29 wr w.heap.size (fun _ => True) (.slice Al ls.length cl_) ls) ∧ Aside0 (ls.length = 0 ∨ (Al = some ⟨gl, 0, none⟩ ∧ wr.heap[gl]? = some (.cells cl 29 (0, 0)))) ∧ Aside0 (wr.heap[gb6]? = some (.cells #[.slice Ao ov.length c0, .bool tq] 115 (0, 0))) ∧ Aside0 (Kd.R Kd.bool 4 wr w.heap.size (fun _ => True) (.slice Ao ov.length c0) ov) ∧ Aside0 (Below w.heap.size w wr))
  case atStart => exact ⟨0, [], [], rfl, ⟨⟨Nat.zero_le _, Nat.le_refl _, rfl⟩⟩, H, HER, ⟨Kd.pR HR.out⟩, ⟨Kd.pS HLR.out⟩, HAL, ⟨pk BK6.out⟩, ⟨Kd.pR OV.out⟩, ⟨(by repeat (first | (with_reducible first | exact HB.out | apply below_alloc | apply pw_below_drewN | apply below_drew1) | exact HB.out))⟩⟩
  case round =>
    clear H HER HR HLR HAL BK6 OV HB BN BC
    obtain ⟨j, acc, res, rfl, HJ, H, HER, HR, HLR, HAL, BK6, OV, HB⟩ := hrel
    by_cases hj : j < ls.length
    · have j1 : decide ((j : Int) < (ls.length : Int)) = true := decide_eq_true (by omega)
      have j1n : decide (j < ls.length) = true := decide_eq_true hj
      have j0p : ((0 : Int) ≤ (j : Int)) = True := eq_true (by omega)
      have j1p : ((j : Int) < (ls.length : Int)) = True := eq_true (by omega)
      rcases HAL.out with h0 | ⟨rfl, hbl⟩
      · exact absurd h0 (by omega)
      obtain ⟨vi, oki, hcell, -, hRi, -, -⟩ := fr_lend HLR.out (j : Int) (by omega) (by omega)
      rw [Int.toNat_natCast] at hcell hRi
      obtain ⟨Aj, cj, rfl⟩ := Kd.R_slice hRi
      have hcl : cl[j]? = some (.slice Aj (ls.getD j []).length cj) := by rw [← blk_cell hbl]; exact hcell
      obtain ⟨l, hl⟩ : ∃ l, l = ls.getD j [] := ⟨_, rfl⟩
      rw [← hl] at hcell hRi hcl
      have hlj : ls[j]? = some l := by rw [hl, List.getD_eq_getElem?_getD, List.getElem?_eq_getElem hj]; rfl
      have h := H.out
      rw [List.drop_eq_getElem_cons hj, show ls[j] = l from by rw [List.getElem?_eq_getElem hj] at hlj; exact Option.some.inj hlj] at h
      simp only [cmEd] at h
      obtain ⟨⟨mo, mt⟩, h3, h⟩ := Option.bind_eq_some_iff.mp h
      obtain ⟨q, h4, h⟩ := Option.bind_eq_some_iff.mp h
      by_cases hac : acc.length < 1000000
      rotate_left
      · rw [if_neg hac] at h; exact absurd h (by simp)
      rw [if_pos hac] at h
      have A3 := Aside0.mk fun (W : World) (hb : Below wr.heap.size wr W) => impl_State_moved.calls k Ao c0 ov tq Aj cj l mo mt W (Kd.C_below (Kd.R_reads' OV.out).2.2 hb) (Kd.R_reads' OV.out).2.1 (Kd.C_below (Kd.R_reads' hRi).2.2 hb) (Kd.R_reads' hRi).2.1 h3
      have A4 := Aside0.mk fun (W : World) (Am : Option Addr) (cm : Nat) (hm : Kd.C Kd.bool W Am mo.length mo) (hcm : mo.length ≤ cm) => impl_State_code.calls k Am cm mo mt q W hm hcm h4
      have HBR := Aside0.mk (Below.refl wr.heap.size wr)
      have HER2 := Aside0.mk (HER.out.snoc HJ.out.2.2 (q := q) (c := 1) hlj hcl)
      have H2 := Aside0.mk h
      have HACC := Aside0.mk (And.intro hac HER.out.1)
      have BLS := Aside0.mk hbl
      have HJJ := Aside0.mk hj
      have hw19 : IntKind.i64.wrap ((j : Int) + 1) = ((j + 1 : Nat) : Int) := by have := HLS.out; rw [IntWalk.i64_in _ ⟨by omega, by omega⟩]; omega
      have hz0 := blk_cell BK6.out 0
      have hz1 := blk_cell BK6.out 1
      simp at hz0
      simp at hz1
      clear h h3 h4 H hl hlj hcl hRi hbl hac HER HAL hj
      go_upto_region 5 with (fail)
      go_wp2_with (first | (go_at_call 125; refine (A3.out _ (by repeat (first | (with_reducible first | exact HBR.out | apply below_alloc | apply pw_below_drewN | apply below_drew1) | exact HBR.out))).mono ?_; rintro e w30 ⟨v30, rfl, ho, hb⟩; obtain ⟨Am, cm, rfl⟩ := Kd.R_slice ho; have OM := Aside0.mk ho; clear A3; have n0_ := Aside0.mk (blk_below BK6.out hb); have n1_ := Aside0.mk (blk_below BLS.out hb); have n2_ := Aside0.mk (Kd.R_below (Kd.pR HR.out) hb); have n3_ := Aside0.mk (Kd.S_below (Kd.pS HLR.out) hb); have n4_ := Aside0.mk (Kd.R_below (Kd.pR OV.out) hb); have n5_ := Aside0.mk (below_step (by repeat (first | (with_reducible first | exact HB.out | apply below_alloc | apply pw_below_drewN | apply below_drew1) | exact HB.out)) hb); clear BK6 BLS HR HLR OV HB hb ho HBR; have BK6 := n0_; have BLS := n1_; have HR := n2_; have HLR := n3_; have OV := n4_; have HB := n5_; clear n0_ n1_ n2_ n3_ n4_ n5_) | (go_at_call 126; refine (A4.out _ Am cm (Kd.R_reads' OM.out).2.2 (Kd.R_reads' OM.out).2.1).mono ?_; rintro e w31 ⟨rfl, hb⟩; clear A4 OM; have n0_ := Aside0.mk (blk_below BK6.out hb); have n1_ := Aside0.mk (blk_below BLS.out hb); have n2_ := Aside0.mk (Kd.R_below (Kd.pR HR.out) hb); have n3_ := Aside0.mk (Kd.S_below (Kd.pS HLR.out) hb); have n4_ := Aside0.mk (Kd.R_below (Kd.pR OV.out) hb); have n5_ := Aside0.mk (below_step (by repeat (first | (with_reducible first | exact HB.out | apply below_alloc | apply pw_below_drewN | apply below_drew1) | exact HB.out)) hb); clear BK6 BLS HR HLR OV HB hb; have BK6 := n0_; have BLS := n1_; have HR := n2_; have HLR := n3_; have OV := n4_; have HB := n5_; clear n0_ n1_ n2_ n3_ n4_ n5_) | ((with_reducible refine gate_builtin (b := .append) (xs := #[.tmp 21, .tmp 28]) rfl ?_); at_builtin; refine Kd.R_append kre (w0 := w) w.heap.size rfl (.tmp 21) (.tmp 28) 130 110 (.agg #[(.int .i64 0), (.int .i64 0), (.slice none 0 0)]) 40 rfl Try.underlying130 info110 rfl (by decide) (by omega) _ res ⟨q, 1, Aj, l.length, cj⟩ [.int .i64 q, .int .i64 1, .slice Aj l.length cj] (fun _ => True) (fun _ => False) rfl rfl ?aP (fun _ hk => hk.elim) (fun _ _ => trivial) ?aO ?aB ?aS ?aL ?_; (case aP => exact kre_M _ _ _ ⟨q, 1, Aj, l.length, cj⟩); (case aO => exact Kd.pR HR.out); (case aB => exact (by repeat (first | (with_reducible first | exact HB.out | apply below_alloc | apply pw_below_drewN | apply below_drew1) | exact HB.out))); (case aS => exact below_size (by repeat (first | (with_reducible first | exact HB.out | apply below_alloc | apply pw_below_drewN | apply below_drew1) | exact HB.out))); (case aL => have := HACC.out; omega); intro v36 w36 ho hb hg hat; have n0_ := Aside0.mk (blk_grown (pk BK6.out) hg (Kd.R_ne HR.out BK6.out (by decide))); have n1_ := Aside0.mk (blk_grown (pk BLS.out) hg (Kd.R_ne HR.out BLS.out (by decide))); have n2_ := Aside0.mk (Kd.S_over' (Kd.pS HLR.out) (Kd.R_typed HR.out) (by decide) hg); have n3_ := Aside0.mk (Kd.R_over' (Kd.pR OV.out) (Kd.R_typed HR.out) (by decide) hg); have n4_ := Aside0.mk (hb); have n5_ := Aside0.mk (ho); clear BK6 BLS HLR OV HB HR hg hat hb ho; have BK6 := n0_; have BLS := n1_; have HLR := n2_; have OV := n3_; have HB := n4_; have HR := n5_; clear n0_ n1_ n2_ n3_ n4_ n5_))
      go_roundg (ls.length - (j + 1))
      case measure => have := HJ.out; have := HJJ.out; omega
      case rel => exact ⟨j + 1, _, _, (by first | rfl | (simp; done)), ⟨⟨by have := HJJ.out; omega, Nat.le_refl _, by rw [List.length_append, HJ.out.2.2]; rfl⟩⟩, H2, HER2, ⟨Kd.pR HR.out⟩, ⟨Kd.pS HLR.out⟩, ⟨by first | exact .inr ⟨rfl, pk BLS.out⟩ | exact .inr ⟨trivial, pk BLS.out⟩⟩, ⟨pk BK6.out⟩, ⟨Kd.pR OV.out⟩, ⟨(by repeat (first | (with_reducible first | exact HB.out | apply below_alloc | apply pw_below_drewN | apply below_drew1) | exact HB.out))⟩⟩
    · have j1 : decide ((j : Int) < (ls.length : Int)) = false := decide_eq_false (by omega)
      have j1n : decide (j < ls.length) = false := decide_eq_false hj
      have h := H.out
      rw [List.drop_of_length_le (by omega)] at h
      have HES := Aside0.mk (show acc = es from Option.some.inj (show some acc = some es from h))
      clear h H hj
      go_wp2
      first | go_ret | go_ret2
      refine ⟨_, rfl, ?_, (by repeat (first | (with_reducible first | exact HB.out | apply below_alloc | apply pw_below_drewN | apply below_drew1) | exact HB.out))⟩
      rw [← HES.out]
      rcases HAL.out with h0 | ⟨rfl, hbl⟩
      · have ha : acc = [] := List.eq_nil_of_length_eq_zero (by have := HJ.out; omega)
        have hr : res = [] := List.eq_nil_of_length_eq_zero (by rw [← HER.out.1, ha]; rfl)
        have h2 := HR.out
        rw [hr] at h2
        rw [ha]
        exact lead_shut (zs := []) (f := fun _ => 0) (okl := fun _ => False) (Kd.R_below h2 (by repeat (first | exact Below.refl _ _ | apply pw_below_drewN | apply below_drew1 | apply below_alloc))) trivial List.Pairwise.nil (fun k hk => hk.elim)
      · exact HER.out.shut (Kd.S_below HLR.out (by repeat (first | exact Below.refl _ _ | apply pw_below_drewN | apply below_drew1 | apply below_alloc))) (blk_below hbl (by repeat (first | exact Below.refl _ _ | apply pw_below_drewN | apply below_drew1 | apply below_alloc))) (Kd.R_below HR.out (by repeat (first | exact Below.refl _ _ | apply pw_below_drewN | apply below_drew1 | apply below_alloc))) (by decide)
attribute [local go_sem] run_store_fn_
/-- How many numbers the states of so many people take. -/
def grN (n : Nat) : Int := wrap64 (2 * 2 ^ min n 64)
set_option maxHeartbeats 8000000 in
set_option maxRecDepth 100000 in
theorem impl_Company_graph.calls (co : Int) (n : Nat) (se : Int) (w : World) (hco : 0 ≤ co ∧ co ≤ 4) (hn : n = 2 * co.toNat) :
    Calls Try.prog 83 #[.agg #[.int .i64 co, .int .i64 se]] w fun e w' => ∃ Bn Bc : Nat, e = .returned (.agg #[.int .i64 (grN n), .func (.func 122) #[] #[.pointer (some ⟨Bn, 0, none⟩), .pointer (some ⟨Bc, 0, none⟩)]]) ∧
      (w'.heap[Bn]? = some (.cells #[.int .i64 (n : Int)] 3 (0, 0)) ∧ w'.heap[Bc]? = some (.cells #[.int .i64 co, .int .i64 se] 26 (0, 0))) ∧ Below w.heap.size w w' := by
  have hu := Try.underlying26
  have hu2 := Try.underlying68
  have HB := Aside0.mk (Below.refl w.heap.size w)
  have hw0 : IntKind.i64.wrap (2 * co) = (n : Int) := by rw [IntWalk.i64_in _ ⟨by omega, by omega⟩]; omega
  have hn0 : ¬ ((n : Int) < 0) := by omega
  clear hn hco
  go_enter Try.func83, Try.ntmps83
  go_upto_region 1 with (first | ((with_reducible refine gate_dst (N := 1) rfl ?_); refine box_event ?hg (N := 1) ?hd (cs := #[.int .i64 co, .int .i64 se]) (t := 26) ?hr ?_; (case hd => rfl); (case hg => rfl); (case hr => first | (go_simp; done) | (go_simp; rfl)); intro gb2 hg w2 hbox hb; have nb_ := Aside0.mk (below_step (by repeat (first | (with_reducible first | exact HB.out | apply below_alloc | apply pw_below_drewN | apply below_drew1) | exact HB.out)) hb); have nc_ := Aside0.mk hbox; have nd_ := Aside0.mk ((by rw [hg]; exact (below_size (by repeat (first | (with_reducible first | exact HB.out | apply below_alloc | apply pw_below_drewN | apply below_drew1) | exact HB.out))) : w.heap.size ≤ gb2)); clear HB hb hbox hg; have HB := nb_; have BK2 := nc_; have GE2 := nd_; clear nb_ nc_ nd_; have hz2_0 := (blk_cell BK2.out 0); have hf2_0 := (blk_frozen BK2.out 0); simp at hz2_0; have hz2_1 := (blk_cell BK2.out 1); have hf2_1 := (blk_frozen BK2.out 1); simp at hz2_1; skip) | ((with_reducible refine gate_dst (N := 2) rfl ?_); refine box_event ?hg (N := 2) ?hd (cs := #[.int .i64 0, .nilFunc]) (t := 68) ?hr ?_; (case hd => rfl); (case hg => rfl); (case hr => first | (go_simp; done) | (go_simp; rfl)); intro gb4 hg w4 hbox hb; have n0_ := Aside0.mk (blk_below (pk BK2.out) hb); have m0_ := Aside0.mk ((by rw [hg]; exact Nat.ne_of_lt (blk_lt (pk BK2.out)) : gb2 ≠ gb4)); have nb_ := Aside0.mk (below_step (by repeat (first | (with_reducible first | exact HB.out | apply below_alloc | apply pw_below_drewN | apply below_drew1) | exact HB.out)) hb); have nc_ := Aside0.mk hbox; have nd_ := Aside0.mk ((by rw [hg]; exact (below_size (by repeat (first | (with_reducible first | exact HB.out | apply below_alloc | apply pw_below_drewN | apply below_drew1) | exact HB.out))) : w.heap.size ≤ gb4)); clear HB hb hbox hg; clear BK2; have BK2 := n0_; have NE2_4 := m0_; have HB := nb_; have BK4 := nc_; have GE4 := nd_; clear nb_ nc_ nd_ n0_ m0_; have hz4_0 := (blk_cell BK4.out 0); have hf4_0 := (blk_frozen BK4.out 0); simp at hz4_0; have hz4_1 := (blk_cell BK4.out 1); have hf4_1 := (blk_frozen BK4.out 1); simp at hz4_1; skip))
  have hq0 := blk_cell BK2.out 0
  simp at hq0
  go_upto_region 2 with (first | ((with_reducible refine gate_dst (N := 3) rfl ?_); refine box_event ?hg (N := 3) ?hd (cs := #[.int .i64 0]) (t := 3) ?hr ?_; (case hd => rfl); (case hg => rfl); (case hr => first | (go_simp; done) | (go_simp; rfl)); intro gb5 hg w5 hbox hb; have n0_ := Aside0.mk (blk_below (pk BK2.out) hb); have m0_ := Aside0.mk ((by rw [hg]; exact Nat.ne_of_lt (blk_lt (pk BK2.out)) : gb2 ≠ gb5)); have n1_ := Aside0.mk (blk_below (pk BK4.out) hb); have m1_ := Aside0.mk ((by rw [hg]; exact Nat.ne_of_lt (blk_lt (pk BK4.out)) : gb4 ≠ gb5)); have nb_ := Aside0.mk (below_step (by repeat (first | (with_reducible first | exact HB.out | apply below_alloc | apply pw_below_drewN | apply below_drew1) | exact HB.out)) hb); have nc_ := Aside0.mk hbox; have nd_ := Aside0.mk ((by rw [hg]; exact (below_size (by repeat (first | (with_reducible first | exact HB.out | apply below_alloc | apply pw_below_drewN | apply below_drew1) | exact HB.out))) : w.heap.size ≤ gb5)); clear HB hb hbox hg; clear BK2 BK4; have BK2 := n0_; have NE2_5 := m0_; have BK4 := n1_; have NE4_5 := m1_; have HB := nb_; have BK5 := nc_; have GE5 := nd_; clear nb_ nc_ nd_ n0_ m0_ n1_ m1_; have hz5_0 := (blk_cell BK5.out 0); have hf5_0 := (blk_frozen BK5.out 0); simp at hz5_0; have hq0 := blk_cell BK2.out 0; simp at hq0; skip))
  have n0_ := Aside0.mk (blk_far (p := ⟨gb5, 0, none⟩) BK2.out NE2_5.out (.int .i64 (n : Int)))
  have n2_ := Aside0.mk (blk_far (p := ⟨gb5, 0, none⟩) BK4.out NE4_5.out (.int .i64 (n : Int)))
  have n3_ := Aside0.mk (blk_put (cs' := #[.int .i64 (n : Int)]) BK5.out 0 (.int .i64 (n : Int)) rfl)
  have n4_ := Aside0.mk (below_set (v := (.int .i64 (n : Int))) (j := 0) HB.out GE5.out)
  clear BK2 BK4 BK5 HB hz5_0 hf5_0 hz2_0 hz2_1 hf2_0 hf2_1 hz4_0 hz4_1 hf4_0 hf4_1 hq0
  generalize w5.setCell ⟨gb5, 0, none⟩ (.int .i64 (n : Int)) = w6 at n0_ n2_ n3_ n4_ ⊢
  have BK2 := n0_; have BK4 := n2_; have BK5 := n3_; have HB := n4_
  clear n0_ n2_ n3_ n4_
  have hz5 := blk_cell BK5.out 0
  have hz40 := blk_cell BK4.out 0
  have hz41 := blk_cell BK4.out 1
  have hf40 := blk_frozen BK4.out 0
  have hf41 := blk_frozen BK4.out 1
  simp at hz5
  simp at hz40
  simp at hz41
  have B41 := blk_put (cs' := #[.int .i64 (wrap64 (2 * 2 ^ min n 64)), .func (.func 122) #[] #[.pointer (some ⟨gb5, 0, none⟩), .pointer (some ⟨gb2, 0, none⟩)]]) (blk_put (cs' := #[.int .i64 (wrap64 (2 * 2 ^ min n 64)), .nilFunc]) BK4.out 0 (.int .i64 (wrap64 (2 * 2 ^ min n 64))) rfl) 1 (.func (.func 122) #[] #[.pointer (some ⟨gb5, 0, none⟩), .pointer (some ⟨gb2, 0, none⟩)]) rfl
  have B21 := blk_far (p := ⟨gb4, 1, none⟩) (blk_far (p := ⟨gb4, 0, none⟩) BK2.out NE2_4.out (.int .i64 (wrap64 (2 * 2 ^ min n 64)))) NE2_4.out (.func (.func 122) #[] #[.pointer (some ⟨gb5, 0, none⟩), .pointer (some ⟨gb2, 0, none⟩)])
  have B51 := blk_far (p := ⟨gb4, 1, none⟩) (blk_far (p := ⟨gb4, 0, none⟩) BK5.out NE4_5.out.symm (.int .i64 (wrap64 (2 * 2 ^ min n 64)))) NE4_5.out.symm (.func (.func 122) #[] #[.pointer (some ⟨gb5, 0, none⟩), .pointer (some ⟨gb2, 0, none⟩)])
  have HB1 := below_set (v := (.func (.func 122) #[] #[.pointer (some ⟨gb5, 0, none⟩), .pointer (some ⟨gb2, 0, none⟩)])) (j := 1) (below_set (v := (.int .i64 (wrap64 (2 * 2 ^ min n 64)))) (j := 0) HB.out GE4.out) GE4.out
  have HF := Aside0.mk (And.intro B41 (And.intro B21 (And.intro B51 HB1)))
  clear B41 B21 B51 HB1
  go_wp2
  refine bodyPost_ret (results_cell_row rfl _ _ gb4 68 #[.int .i64 (wrap64 (2 * 2 ^ min n 64)), .func (.func 122) #[] #[.pointer (some ⟨gb5, 0, none⟩), .pointer (some ⟨gb2, 0, none⟩)]] (0, 0) _ rfl HF.out.1 Try.underlying68 rfl (by kernel_rfl)) rfl ?_
  exact ⟨gb5, gb2, rfl, ⟨HF.out.2.2.1, HF.out.2.1⟩, HF.out.2.2.2⟩

/-! ### impl_last: function 85 -/
def impl_last.f (a0 : Int) : Option (Int) := if 0 ≤ (wrap64 (a0 + 1)) then (some (wrap64 ((shl .i64 1 (wrap64 (a0 + 1))) - 1))) else (none)
set_option maxHeartbeats 8000000 in
set_option maxRecDepth 100000 in
theorem impl_last.calls (a0 : Int) (r : Int) (w : World) (h : impl_last.f a0 = some r) :
    Calls Try.prog 85 #[.int .i64 a0] w fun e w' => e = .returned (.int .i64 r) ∧ Drawn0 w w' := by
  have H : (if 0 ≤ (wrap64 (a0 + 1)) then (some (wrap64 ((shl .i64 1 (wrap64 (a0 + 1))) - 1))) else (none)) = some r := h
  clear h
  obtain ⟨ji2, hji2⟩ : ∃ j_ : Int, (wrap64 (a0 + 1)) = j_ := ⟨_, rfl⟩
  replace H : (if 0 ≤ (ji2) then (some (wrap64 ((shl .i64 1 (ji2)) - 1))) else (none)) = some r := by first | (rw [hji2] at H; exact H) | (simp only [hji2] at H ⊢; exact H)
  have hji2w : (IntKind.i64.wrap (a0 + 1)) = ji2 := (i64_w _).trans hji2
  by_cases c3 : 0 ≤ (ji2)
  · rw [if_pos c3] at H
    have c3b0 := eq_true c3
    have c3b1 : decide (0 ≤ (ji2)) = true := decide_eq_true c3
    clear c3
    obtain ⟨ji4, hji4⟩ : ∃ j_ : Int, (shl .i64 1 (ji2)) = j_ := ⟨_, rfl⟩
    replace H : (some (wrap64 ((ji4) - 1))) = some r := by first | (rw [hji4] at H; exact H) | (simp only [hji4] at H ⊢; exact H)
    have hji4_ : (IntKind.i64.wrap (1 * 2 ^ min (ji2).toNat 64)) = ji4 := hji4
    have hji4z : (ji2) ≤ 64 → (IntKind.i64.wrap (1 * 2 ^ (ji2).toNat)) = ji4 := shl_small hji4
    have hji4u : (IntKind.i64.wrap (2 ^ min (ji2).toNat 64)) = ji4 := by have h_ := hji4_; rw [Int.one_mul] at h_; exact h_
    have hji4v : (ji2) ≤ 64 → (IntKind.i64.wrap (2 ^ (ji2).toNat)) = ji4 := fun hle_ => by have h_ := hji4z hle_; rw [Int.one_mul] at h_; exact h_
    have hji4y : (wrap64 (1 * 2 ^ min (ji2).toNat 64)) = ji4 := (i64_w _).symm.trans hji4_
    have hji4x : (ji2) ≤ 64 → (wrap64 (1 * 2 ^ (ji2).toNat)) = ji4 := fun h_ => (i64_w _).symm.trans (hji4z h_)
    obtain rfl := Option.some.inj H
    go_enter Try.func85, Try.ntmps85
    go_wp2
    go_ret
    exact ⟨by first | rfl | (simp; done) | (simp only [← hji2, ← hji4] <;> (first | rfl | simp)) | (simp [*]; done), by repeat (first | exact Drawn0.refl _ | apply Drawn0.step)⟩
  · rw [if_neg c3] at H
    exact absurd H (by simp)

end Go.Proofs.Ythkchdfkeieabaa.QGr
