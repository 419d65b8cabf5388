/- Contracts of functions of the given program, walked: each call returns what its Lean function says. Conditions: those that stand at each theorem. (Written by a program of this session.) -/
import Derived.Test.YthkchdfkeieabaaQGrx0
import Derived.Test.YthkchdfkeieabaaQGrx10
import Derived.Test.YthkchdfkeieabaaQGrx11
namespace Go.Proofs.Ythkchdfkeieabaa.QGr
open Go.RowKit Go.Proofs.YthkchdfkeieabaaW.PrintWords Go.Proofs.YthkchdfkeieabaaW.PrintLast Go.Proofs.YthkchdfkeieabaaW.PrintMore
open List (setIfInBounds_toArray set_cons_zero set_cons_succ map_toArray map_cons map_nil)
attribute [local go_sem] max2_int min2_int max_two min_two max_three min_three max_four min_four
set_option linter.unusedVariables false
set_option maxHeartbeats 8000000
set_option maxRecDepth 100000
set_option linter.unusedSimpArgs false
def leadR (W : World) (base : Nat) (okl : Nat → Prop) (f : Nat → Nat) (z : S110 × Nat) (r : REdge) : Prop := r.f0 = z.1.f0 ∧ r.f1 = z.1.f1 ∧ (Kd.int .i64).R 3 W base (fun k => okl k ∧ f k = z.2) (.slice r.A r.n r.c) z.1.f2
def LeadT (W : World) (base : Nat) (okl : Nat → Prop) (f : Nat → Nat) : List (S110 × Nat) → List REdge → Prop
 | [], [] => True
 | z :: zs, r :: rs => leadR W base okl f z r ∧ LeadT W base okl f zs rs
 | _, _ => False
section
variable {W W' : World} {base : Nat} {okl : Nat → Prop} {f : Nat → Nat}
theorem LeadT.len : ∀ {zs : List (S110 × Nat)} {rs : List REdge}, LeadT W base okl f zs rs → zs.length = rs.length
 | [], [], _ => rfl
 | _ :: _, _ :: _, h => congrArg (· + 1) (LeadT.len h.2)
 | [], _ :: _, h => h.elim
 | _ :: _, [], h => h.elim
theorem LeadT.at_ : ∀ {zs : List (S110 × Nat)} {rs : List REdge}, LeadT W base okl f zs rs → ∀ (j : Nat) (z : S110 × Nat) (r : REdge), zs[j]? = some z → rs[j]? = some r → leadR W base okl f z r
 | [], _, _, _, _, _, h, _ => by simp at h
 | _ :: _, [], h, _, _, _, _, _ => h.elim
 | _ :: _, _ :: _, h, 0, z, r, hz, hr => by obtain rfl := Option.some.inj hz; obtain rfl := Option.some.inj hr; exact h.1
 | _ :: _, _ :: _, h, j + 1, z, r, hz, hr => LeadT.at_ h.2 j z r hz hr
theorem LeadT.of : ∀ {zs : List (S110 × Nat)} {rs : List REdge}, zs.length = rs.length → (∀ (j : Nat) (z : S110 × Nat) (r : REdge), zs[j]? = some z → rs[j]? = some r → leadR W base okl f z r) → LeadT W base okl f zs rs
 | [], [], _, _ => trivial
 | _ :: _, _ :: _, hl, h => ⟨h 0 _ _ rfl rfl, LeadT.of (Nat.succ.inj hl) (fun j z r hz hr => h (j + 1) z r hz hr)⟩
 | [], _ :: _, hl, _ => by simp at hl
 | _ :: _, [], hl, _ => by simp at hl
theorem LeadT.move (hm : ∀ k, okl k → k < W.heap.size → W'.heap[k]? = W.heap[k]?) : ∀ {zs : List (S110 × Nat)} {rs : List REdge}, LeadT W base okl f zs rs → LeadT W' base okl f zs rs
 | [], [], _ => trivial
 | _ :: _, _ :: _, h => ⟨⟨h.1.1, h.1.2.1, Kd.R_step h.1.2.2 (fun k hk hl => hm k hk.1 hl)⟩, LeadT.move hm h.2⟩
 | [], _ :: _, h => h.elim
 | _ :: _, [], h => h.elim
theorem LeadT.filter (q : Int → Int → Bool) : ∀ {zs : List (S110 × Nat)} {rs : List REdge}, LeadT W base okl f zs rs → LeadT W base okl f (zs.filter fun z => q z.1.f0 z.1.f1) (rs.filter fun r => q r.f0 r.f1)
 | [], [], _ => trivial
 | z :: zs, r :: rs, h => by
  have ih := LeadT.filter q h.2
  rw [List.filter_cons, List.filter_cons, h.1.1, h.1.2.1]
  split
  ·exact ⟨h.1, ih⟩
  ·exact ih
 | [], _ :: _, h => h.elim
 | _ :: _, [], h => h.elim
theorem LeadT.all {p : Int → Int → Prop} : ∀ {zs : List (S110 × Nat)} {rs : List REdge}, LeadT W base okl f zs rs → (∀ z ∈ zs, p z.1.f0 z.1.f1) → ∀ r ∈ rs, p r.f0 r.f1
 | [], [], _, _ => by simp
 | z :: zs, r :: rs, h, hp => by
  intro r' hr
  rcases List.mem_cons.1 hr with rfl | hr
  ·rw [h.1.1, h.1.2.1]; exact hp z List.mem_cons_self
  ·exact LeadT.all h.2 (fun z hz => hp z (List.mem_cons_of_mem _ hz)) r' hr
 | [], _ :: _, h, _ => h.elim
 | _ :: _, [], h, _ => h.elim
end
theorem lead_list {α : Type} {p : Nat → α → Prop} : ∀ (n : Nat), (∀ i, i < n → ∃ x, p i x) → ∃ l : List α, l.length = n ∧ ∀ i x, l[i]? = some x → p i x
 | 0, _ => ⟨[], rfl, fun i x hx => by simp at hx⟩
 | n + 1, h => by
  obtain ⟨l, hl, hp⟩ := lead_list n (fun i hi => h i (Nat.lt_succ_of_lt hi))
  obtain ⟨x, hx⟩ := h n (Nat.lt_succ_self n)
  refine ⟨l ++ [x], by rw [List.length_append, hl]; rfl, fun i y hy => ?_⟩
  rcases Nat.lt_or_ge i l.length with hi | hi
  ·rw [List.getElem?_append_left hi] at hy
   exact hp i y hy
  ·have hi' := (List.getElem?_eq_some_iff.1 hy).1
   rw [List.length_append, List.length_singleton] at hi'
   have e : i = l.length := by omega
   subst e
   rw [List.getElem?_append_right (Nat.le_refl _), Nat.sub_self] at hy
   obtain rfl : x = y := by simpa using hy
   rw [hl]; exact hx
theorem lead_open {W : World} {base : Nat} {ok : Nat → Prop} {v : Value} {es : List S110} (h : Kd.S k110 110 W base ok v es) :
  ∃ f res, kre.R 110 W base (fun k => some k = v.ownBlock) v res ∧ LeadT W base (fun k => ok k ∧ some k ≠ v.ownBlock) f es.zipIdx res := by
 obtain ⟨f, hown, inner, ho, hl, hr⟩ := h
 obtain ⟨res, hres, hp⟩ := lead_list (p := fun i (r : REdge) => ∃ z, es.zipIdx[i]? = some z ∧ (inner.drop (i * 3)).take 3 = r.enc ∧ leadR W base (fun k => ok k ∧ some k ≠ v.ownBlock) f z r) es.zipIdx.length (fun i hi => by
  obtain ⟨z, hz⟩ : ∃ z, es.zipIdx[i]? = some z := ⟨_, List.getElem?_eq_getElem hi⟩
  have hM := hr i z hz
  obtain ⟨v2, hc, hR⟩ := k110_openM (show k110.M W base (fun k => (ok k ∧ some k ≠ v.ownBlock) ∧ f k = z.2) z.1 ((inner.drop (i * 3)).take 3) from hM)
  obtain ⟨A, c, rfl⟩ := Kd.R_slice hR
  exact ⟨⟨z.1.f0, z.1.f1, A, z.1.f2.length, c⟩, z, hz, hc, rfl, rfl, hR⟩)
 refine ⟨f, res, ⟨fun k hk => hk.symm, inner, by rw [hres]; exact ho, ?_, fun j r hj => ?_⟩, LeadT.of hres.symm (fun j z r hz hr => ?_)⟩
 ·rw [hres]; exact hl
 ·obtain ⟨z, hz, hc, -⟩ := hp j r hj
  have hc' : (inner.drop (j * kre.sz)).take kre.sz = r.enc := hc
  rw [hc']
  exact kre_M _ _ _ r
 ·obtain ⟨z', hz', -, hL⟩ := hp j r hr
  rw [hz] at hz'
  obtain rfl := Option.some.inj hz'
  exact hL
theorem lead_shut {W : World} {base : Nat} {okr okl : Nat → Prop} {f : Nat → Nat} {v : Value} {zs : List (S110 × Nat)} {res : List REdge} (hR : kre.R 110 W base okr v res) (hL : LeadT W base okl f zs res) (hnd : (zs.map (·.2)).Nodup) (hne : ∀ k, okl k → some k ≠ v.ownBlock) :
  Kd.S k110 110 W base (fun _ => True) v (zs.map (·.1)) := by
 obtain ⟨hown, inner, ho, hl, hr⟩ := hR
 have hlen := hL.len
 refine ⟨fun k => (zs.map (·.2)).idxOf (f k), fun _ _ => trivial, inner, by rw [List.length_zipIdx, List.length_map, hlen]; exact ho, by rw [List.length_zipIdx, List.length_map, hlen]; exact hl, fun j z hz => ?_⟩
 rw [List.getElem?_zipIdx, Nat.zero_add] at hz
 obtain ⟨x, hx, rfl⟩ := Option.map_eq_some_iff.1 hz
 rw [List.getElem?_map] at hx
 obtain ⟨z0, hz0, rfl⟩ := Option.map_eq_some_iff.1 hx
 have hj : j < zs.length := (List.getElem?_eq_some_iff.1 hz0).1
 obtain ⟨r, hr0⟩ : ∃ r, res[j]? = some r := ⟨_, List.getElem?_eq_getElem (by rw [← hlen]; exact hj)⟩
 have hc := (hr j r hr0).1
 obtain ⟨e0, e1, hR2⟩ := hL.at_ j z0 r hz0 hr0
 have hM := k110_mkM W base (fun k => okl k ∧ f k = z0.2) z0.1 hR2
 show k110.M W base (fun k => (True ∧ some k ≠ v.ownBlock) ∧ (zs.map (·.2)).idxOf (f k) = j) z0.1 ((inner.drop (j * 3)).take 3)
 have hc' : (inner.drop (j * 3)).take 3 = [.int .i64 z0.1.f0, .int .i64 z0.1.f1, .slice r.A r.n r.c] := by rw [← e0, ← e1]; exact hc
 rw [hc']
 refine Kd.M_mono _ (fun k hk => ⟨⟨trivial, hne k hk.1⟩, ?_⟩) hM
 rw [hk.2]
 have hjm : j < (zs.map (·.2)).length := by rw [List.length_map]; exact hj
 have e2 : z0.2 = (zs.map (·.2))[j] := by rw [List.getElem_map]; congr 1; rw [List.getElem?_eq_getElem hj] at hz0; exact (Option.some.inj hz0).symm
 rw [e2]
 exact hnd.idxOf_getElem j hjm
def offWay (dist : List Int) (s t c : Int) : Bool := decide (rdOf 0 dist t < 0) || (wrap64 (rdOf 0 dist t + c) != rdOf 0 dist s)
theorem impl_graph_int_best.calls_1 (B1 B2 : Nat) (Ad : Option Addr) (cd : Nat) (dist : List Int) (s : Int) (r : REdge) (W : World) (h1 : W.cell? ⟨B1, 0, none⟩ = some (.slice Ad dist.length cd)) (h2 : W.cell? ⟨B2, 0, none⟩ = some (.int .i64 s)) (hr : (Kd.int .i64).C W Ad dist.length dist) (hs : 0 ≤ s ∧ s < (dist.length : Int)) (ht : 0 ≤ r.f0 ∧ r.f0 < (dist.length : Int)) :
  Calls Try.prog 147 #[.agg #[.int .i64 r.f0, .int .i64 r.f1, .slice r.A r.n r.c], .pointer (some ⟨B1, 0, none⟩), .pointer (some ⟨B2, 0, none⟩)] W fun e w' => e = .returned (.bool (offWay dist s r.f0 r.f1)) ∧ Below W.heap.size W w' := by
 have hu := Try.underlying110
 obtain ⟨ad, rfl, hxt⟩ := Kd.at_int hr r.f0 ht.1 ht.2
 obtain ⟨ad', e', hxs⟩ := Kd.at_int hr s hs.1 hs.2
 cases e'
 have t0 := eq_true ht.1
 have t1 := eq_true ht.2
 have s0 := eq_true hs.1
 have s1 := eq_true hs.2
 have HB := ak_ (Below.refl W.heap.size W)
 have hO : offWay dist s r.f0 r.f1 = (decide (rd dist r.f0 < 0) || (wrap64 (rd dist r.f0 + r.f1) != rd dist s)) := rfl
 rw [hO]
 clear hO hr hs ht
 generalize rd dist r.f0 = dt at hxt ⊢
 generalize rd dist s = ds at hxs ⊢
 by_cases hv : dt < 0
 ·have v1 : decide (dt < 0) = true := decide_eq_true hv
  rw [v1]
  clear hv
  go_enter Try.func147, Try.ntmps147
  go_wp2_with (first | ((with_reducible refine gate_dst (N := 3) rfl ?_); refine bx_ 3 #[.int .i64 r.f0, .int .i64 r.f1, .slice r.A r.n r.c] 110 ?_; intro gb3 hg w3 hbox hb; clear hg; have n0_ := pw_cell_below hb h1; have n1_ := pw_cell_below hb h2; have n2_ := pw_cell_below hb hxt; have n3_ := pw_cell_below hb hxs; have n4_ := ak_ hb; clear h1 h2 hxt hxs HB hb; have h1 := n0_; have h2 := n1_; have hxt := n2_; have hxs := n3_; have HB := n4_; clear n0_ n1_ n2_ n3_ n4_; have hz0 := blk_cell hbox 0; have hz1 := blk_cell hbox 1; simp at hz0; simp at hz1; clear hbox))
  repeat (go_quiet (first | ((with_reducible refine gate_dst (N := 3) rfl ?_); refine bx_ 3 #[.int .i64 r.f0, .int .i64 r.f1, .slice r.A r.n r.c] 110 ?_; intro gb3 hg w3 hbox hb; clear hg; have n0_ := pw_cell_below hb h1; have n1_ := pw_cell_below hb h2; have n2_ := pw_cell_below hb hxt; have n3_ := pw_cell_below hb hxs; have n4_ := ak_ hb; clear h1 h2 hxt hxs HB hb; have h1 := n0_; have h2 := n1_; have hxt := n2_; have hxs := n3_; have HB := n4_; clear n0_ n1_ n2_ n3_ n4_; have hz0 := blk_cell hbox 0; have hz1 := blk_cell hbox 1; simp at hz0; simp at hz1; clear hbox)))
  try go_wp2
  first | go_ret | go_ret2
  exact ⟨rfl, (bb_ HB.out)⟩
 ·have v1 : decide (dt < 0) = false := decide_eq_false hv
  rw [v1]
  clear hv
  go_enter Try.func147, Try.ntmps147
  go_wp2_with (first | ((with_reducible refine gate_dst (N := 3) rfl ?_); refine bx_ 3 #[.int .i64 r.f0, .int .i64 r.f1, .slice r.A r.n r.c] 110 ?_; intro gb3 hg w3 hbox hb; clear hg; have n0_ := pw_cell_below hb h1; have n1_ := pw_cell_below hb h2; have n2_ := pw_cell_below hb hxt; have n3_ := pw_cell_below hb hxs; have n4_ := ak_ hb; clear h1 h2 hxt hxs HB hb; have h1 := n0_; have h2 := n1_; have hxt := n2_; have hxs := n3_; have HB := n4_; clear n0_ n1_ n2_ n3_ n4_; have hz0 := blk_cell hbox 0; have hz1 := blk_cell hbox 1; simp at hz0; simp at hz1; clear hbox))
  repeat (go_quiet (first | ((with_reducible refine gate_dst (N := 3) rfl ?_); refine bx_ 3 #[.int .i64 r.f0, .int .i64 r.f1, .slice r.A r.n r.c] 110 ?_; intro gb3 hg w3 hbox hb; clear hg; have n0_ := pw_cell_below hb h1; have n1_ := pw_cell_below hb h2; have n2_ := pw_cell_below hb hxt; have n3_ := pw_cell_below hb hxs; have n4_ := ak_ hb; clear h1 h2 hxt hxs HB hb; have h1 := n0_; have h2 := n1_; have hxt := n2_; have hxs := n3_; have HB := n4_; clear n0_ n1_ n2_ n3_ n4_; have hz0 := blk_cell hbox 0; have hz1 := blk_cell hbox 1; simp at hz0; simp at hz1; clear hbox)))
  try go_wp2
  first | go_ret | go_ret2
  exact ⟨(by first | rfl | (simp; done)), (bb_ HB.out)⟩
def impl_graph_int_best.f (E : Int → List S110) (N : Int) (s : Int) (dist : List Int) : Option (List S110) :=
 if 0 ≤ s ∧ s < N ∧ (dist.length : Int) = N ∧ (E s).length < 1000000 then (if ((E s).all fun e => decide (0 ≤ e.f0) && decide (e.f0 < N)) = true then some ((E s).filter fun e => !offWay dist s e.f0 e.f1) else none) else none
theorem zip_filter {α : Type} (q : α → Bool) (l : List α) : (l.zipIdx.filter fun z => q z.1).map (·.1) = l.filter q := by
 rw [show (fun z : α × Nat => q z.1) = q ∘ Prod.fst from rfl, ← List.filter_map, List.zipIdx_map_fst]
theorem zip_nodup {α : Type} (q : α × Nat → Bool) (l : List α) : ((l.zipIdx.filter q).map (·.2)).Nodup := by
 have h1 : (l.zipIdx.map Prod.snd).Nodup := by rw [List.zipIdx_map_snd]; exact List.nodup_range'
 exact List.Nodup.sublist ((List.filter_sublist (p := q) (l := l.zipIdx)).map Prod.snd) h1
theorem impl_graph_int_best.calls (fo : Nat) (cb : Array Value) (N : Int) (E : Int → List S110) (w w0 : World) (ee : ∀ args w, (callFunc fo args).run Try.prog w = .ok (.enter fo args) w) (hE : GOut fo cb N E w) (hb0 : Below w.heap.size w w0)
  (s : Int) (Ad : Option Addr) (cd : Nat) (dist : List Int) (r : List S110) (hd : (Kd.int .i64).C w0 Ad dist.length dist) (h : impl_graph_int_best.f E N s dist = some r) :
  Calls Try.prog 111 #[.agg #[.int .i64 N, .func (.func fo) #[] cb], .int .i64 s, .slice Ad dist.length cd] w0 fun e w' => ∃ v0_ : Value, e = .returned v0_ ∧ Kd.S k110 110 w' w0.heap.size (fun _ => True) v0_ r ∧ Below w0.heap.size w0 w' := by
 have hu := Try.underlying68
 have hu2 := Try.underlying110
 unfold impl_graph_int_best.f at h
 by_cases hc : 0 ≤ s ∧ s < N ∧ (dist.length : Int) = N ∧ (E s).length < 1000000
 rotate_left
 ·rw [if_neg hc] at h; exact absurd h (by simp)
 rw [if_pos hc] at h
 by_cases hall : ((E s).all fun e => decide (0 ≤ e.f0) && decide (e.f0 < N)) = true
 rotate_left
 ·rw [if_neg hall] at h; exact absurd h (by simp)
 rw [if_pos hall] at h
 obtain rfl := Option.some.inj h
 have hall2 : ∀ z ∈ (E s).zipIdx, 0 ≤ z.1.f0 ∧ z.1.f0 < (dist.length : Int) := fun z hz => by
  have h1 : z.1 ∈ E s := by
   have h2 := List.mem_map_of_mem (f := Prod.fst) hz
   rw [List.zipIdx_map_fst] at h2
   exact h2
  have h3 := List.all_eq_true.mp hall z.1 h1
  simp only [Bool.and_eq_true, decide_eq_true_eq] at h3
  exact ⟨h3.1, by rw [hc.2.2.1]; exact h3.2⟩
 have HA := ak_ hall2
 have HC := ak_ hc
 have HE := ak_ hE
 have HB0 := ak_ hb0
 have HB := ak_ (Below.refl w0.heap.size w0)
 have HD := ak_ hd
 clear h hall hall2 hc hE hb0 hd
 go_enter Try.func111, Try.ntmps111
 go_wp2_with (first | ((with_reducible refine gate_dst (N := 3) rfl ?_); refine box_event ?hg (N := 3) ?hd (cs := #[.int .i64 N, .func (.func fo) #[] cb]) (t := 68) ?hr ?_; (case hd => rfl); (case hg => rfl); (case hr => go_simp <;> rfl); intro gb3 hg w3 hbox hb; have ns_ := ak_ (Kd.C_below (HD.out) hb); have nb_ := ak_ (bs_ (bb_ HB.out) hb); have nc_ := ak_ hbox; have nd_ := ak_ ((by rw [hg]; exact (bz_ (bb_ HB.out)) : w0.heap.size ≤ gb3)); clear HD HB hb hbox hg; have HD := ns_; have HB := nb_; have BK3 := nc_; have GE3 := nd_; clear ns_ nb_ nc_ nd_; have hz3_0 := (blk_cell BK3.out 0); have hf3_0 := (blk_frozen BK3.out 0); simp at hz3_0; have hz3_1 := (blk_cell BK3.out 1); have hf3_1 := (blk_frozen BK3.out 1); simp at hz3_1; skip) | ((with_reducible refine gate_dst (N := 4) rfl ?_); refine bx_ 4 #[.int .i64 s] 3 ?_; intro gb4 hg w4 hbox hb; have n0_ := ak_ (blk_below (pk BK3.out) hb); have m0_ := ak_ ((by rw [hg]; exact Nat.ne_of_lt (blk_lt (pk BK3.out)) : gb3 ≠ gb4)); have ns_ := ak_ (Kd.C_below (HD.out) hb); have nb_ := ak_ (bs_ (bb_ HB.out) hb); have nc_ := ak_ hbox; have nd_ := ak_ ((by rw [hg]; exact (bz_ (bb_ HB.out)) : w0.heap.size ≤ gb4)); clear HD HB hb hbox hg; clear BK3; have BK3 := n0_; have NE3_4 := m0_; have HD := ns_; have HB := nb_; have BK4 := nc_; have GE4 := nd_; clear ns_ nb_ nc_ nd_ n0_ m0_; have hz4_0 := (blk_cell BK4.out 0); have hf4_0 := (blk_frozen BK4.out 0); simp at hz4_0; skip) | ((with_reducible refine gate_dst (N := 5) rfl ?_); refine bx_ 5 #[.slice Ad dist.length cd] 29 ?_; intro gb5 hg w5 hbox hb; have n0_ := ak_ (blk_below (pk BK3.out) hb); have m0_ := ak_ ((by rw [hg]; exact Nat.ne_of_lt (blk_lt (pk BK3.out)) : gb3 ≠ gb5)); have n1_ := ak_ (blk_below (pk BK4.out) hb); have m1_ := ak_ ((by rw [hg]; exact Nat.ne_of_lt (blk_lt (pk BK4.out)) : gb4 ≠ gb5)); have ns_ := ak_ (Kd.C_below (HD.out) hb); have nb_ := ak_ (bs_ (bb_ HB.out) hb); have nc_ := ak_ hbox; have nd_ := ak_ ((by rw [hg]; exact (bz_ (bb_ HB.out)) : w0.heap.size ≤ gb5)); clear HD HB hb hbox hg; clear BK3 BK4; have BK3 := n0_; have NE3_5 := m0_; have BK4 := n1_; have NE4_5 := m1_; have HD := ns_; have HB := nb_; have BK5 := nc_; have GE5 := nd_; clear ns_ nb_ nc_ nd_ n0_ m0_ n1_ m1_; have hz5_0 := (blk_cell BK5.out 0); have hf5_0 := (blk_frozen BK5.out 0); simp at hz5_0; have hq3_0 := (blk_cell BK3.out 0); have hq3_1 := (blk_cell BK3.out 1); have hq4_0 := (blk_cell BK4.out 0); simp at hq3_0; simp at hq3_1; simp at hq4_0; skip) | (go_at_fn fo; go_loud (refine (HE.out _ s (below_then HB0.out HB0.out.size (bb_ HB.out)) HC.out.1 HC.out.2.1).mono ?_; rintro e w10 ⟨v10, rfl, ho, hb⟩; obtain ⟨f, res, hR, hL⟩ := lead_open ho; have hcd_ : res.length < 1000000 := (by rw [← hL.len, List.length_zipIdx]; exact HC.out.2.2.2); have hsl_ : 0 ≤ s ∧ s < (dist.length : Int) := (And.intro HC.out.1 (by rw [HC.out.2.2.1]; exact HC.out.2.1)); have HDEL := ak_ (impl_edge_int_146.calls 147 #[.pointer (some ⟨gb5, 0, none⟩), .pointer (some ⟨gb4, 0, none⟩)] (offWay dist s) (fun r => 0 ≤ r.f0 ∧ r.f0 < (dist.length : Int)) (fun W => Below w5.heap.size w5 W) (enters_of Try.func147 (by kernel_rfl) rfl) (fun W r hS hok => impl_graph_int_best.calls_1 gb5 gb4 Ad cd dist s r W (pw_cell_below hS ((blk_cell BK5.out 0).trans rfl)) (pw_cell_below hS ((blk_cell BK4.out 0).trans rfl)) (Kd.C_below HD.out hS) hsl_ hok) w5 w10 (fun k => some k = v10.ownBlock) v10 res hb hR hcd_ (LeadT.all (p := fun a _ => 0 ≤ a ∧ a < (dist.length : Int)) hL HA.out) (fun W h => h)); have HL := ak_ hL; have HB2 := ak_ hb; clear ho hR hL hb hcd_ hsl_)))
 go_wp2_with (go_at_call 146; refine HDEL.out.mono ?_; rintro e w12 ⟨v12, rfl, hR2, hv, hg, hb2⟩; have HO := ak_ (Kd.S_lower (lead_shut hR2 ((LeadT.move (fun k hk hl => hg.block k hl hk.2) HL.out).filter (fun a b => !offWay dist s a b)) (zip_nodup _ _) (fun k hk => (by rw [hv]; exact hk.2))) (bz_ HB.out)); rw [zip_filter (fun e : S110 => !offWay dist s e.f0 e.f1)] at HO; have n0_ := ak_ (bs_ HB.out hb2); clear HB HDEL HL HB2 hR2 hv hg hb2; have HB := n0_; clear n0_)
 first | go_ret | go_ret2
 exact ⟨_, rfl, HO.out, HB.out⟩
section
variable {P : Program} {md : Region.Mode} {ops : Array Oper} {Q : Exit → Act → World → Prop}
theorem goesv_ {oi : Oper} {N : Option Tmp} {a : Act} {w : World} {K : Act → World → Prop} {f : FuncId} {xs : Array Operand} {ts : Array TypeId} (x : Operand) (cb args : Array Value) (hx : a.eval x = .func (.func f) #[] cb) (he : (callFunc f args).run P w = .ok (.enter f args) w)
  (hw : Region.wanted oi (yielded ops a.tmps) = true) (hN : oi.dst = N) (hop : oi.op = .call { callee := .value x, args := xs, argTypes := ts }) (hargs : xs.map a.eval ++ cb = args)
  (h : Calls P f args w fun e w' => ∃ v, e = .returned v ∧ K (a.put N v) w') : if Region.wanted oi (yielded ops a.tmps) = true then Oper.wp P oi a w K Q else K (a.put N undef) w := by
 refine call_ f args hw hN ?_ h
 unfold execOp
 simp [hop, resolve, Deferred.ofValue, invoke, hx, hargs, he]
end
def tlBest (E : Int → List S110) (dist : List Int) (s : Int) : List S110 := (E s).filter fun e => !offWay dist s e.f0 e.f1
def tlFold (J : Int → Int → Bool → Int) (T : Int → Int) : List S110 → Nat → Int → Int
 | [], _, n => n
 | e :: es, i, n => tlFold J T es (i + 1) (J n (T e.f0) ((i : Int) == 0))
def tlV (E : Int → List S110) (dist : List Int) (J : Int → Int → Bool → Int) (last : Int) : Nat → Int → Int
 | 0, _ => 0
 | k + 1, s => if rdOf 0 dist s = 0 then last else tlFold J (tlV E dist J last k) (tlBest E dist s) 0 0
def tlT (E : Int → List S110) (dist : List Int) (J : Int → Int → Bool → Int) (last : Int) (s : Int) : Int := tlV E dist J last ((rdOf 0 dist s).toNat + 1) s
theorem tlFold_same {J : Int → Int → Bool → Int} {T T' : Int → Int} : ∀ (es : List S110) (i : Nat) (n : Int), (∀ e ∈ es, T e.f0 = T' e.f0) → tlFold J T es i n = tlFold J T' es i n
 | [], _, _, _ => rfl
 | e :: es, i, n, h => by
  unfold tlFold
  rw [h e List.mem_cons_self]
  exact tlFold_same es (i + 1) _ (fun e he => h e (List.mem_cons_of_mem _ he))
def tlFalls (E : Int → List S110) (N : Int) (dist : List Int) : Prop := ∀ s, 0 ≤ s → s < N → ∀ e ∈ tlBest E dist s, (0 ≤ e.f0 ∧ e.f0 < N) ∧ 0 ≤ rdOf 0 dist e.f0 ∧ rdOf 0 dist e.f0 < rdOf 0 dist s
theorem tlV_enough {E : Int → List S110} {N : Int} {dist : List Int} {J : Int → Int → Bool → Int} {last : Int} (hf : tlFalls E N dist) : ∀ (k k' : Nat) (s : Int), 0 ≤ s → s < N → 0 ≤ rdOf 0 dist s → (rdOf 0 dist s).toNat < k → (rdOf 0 dist s).toNat < k' → tlV E dist J last k s = tlV E dist J last k' s
 | 0, _, _, _, _, _, h, _ => absurd h (Nat.not_lt_zero _)
 | _ + 1, 0, _, _, _, _, _, h => absurd h (Nat.not_lt_zero _)
 | k + 1, k' + 1, s, h0, h1, hd, hk, hk' => by
  unfold tlV
  split
  ·rfl
  ·refine tlFold_same _ _ _ (fun e he => ?_)
   obtain ⟨⟨a0, a1⟩, b0, b1⟩ := hf s h0 h1 e he
   exact tlV_enough hf k k' e.f0 a0 a1 b0 (by omega) (by omega)
theorem tlT_eq {E : Int → List S110} {N : Int} {dist : List Int} {J : Int → Int → Bool → Int} {last : Int} (hf : tlFalls E N dist) (s : Int) (h0 : 0 ≤ s) (h1 : s < N) (hs : rdOf 0 dist s ≠ 0) : tlT E dist J last s = tlFold J (tlT E dist J last) (tlBest E dist s) 0 0 := by
 show tlV E dist J last ((rdOf 0 dist s).toNat + 1) s = _
 unfold tlV
 rw [if_neg hs]
 refine tlFold_same _ _ _ (fun e he => ?_)
 obtain ⟨⟨a0, a1⟩, b0, b1⟩ := hf s h0 h1 e he
 exact tlV_enough hf _ _ e.f0 a0 a1 b0 (by omega) (by omega)
theorem tlT_zero {E : Int → List S110} {dist : List Int} {J : Int → Int → Bool → Int} {last : Int} (s : Int) (hs : rdOf 0 dist s = 0) : tlT E dist J last s = last := by
 show tlV E dist J last ((rdOf 0 dist s).toNat + 1) s = _
 unfold tlV
 rw [if_pos hs]
def isI (n : Int) : Prop := (Lit.int .i64 n).wf = true
theorem tlFold_isI {J : Int → Int → Bool → Int} {T : Int → Int} (hJ : ∀ a b f, isI (J a b f)) : ∀ (es : List S110) (i : Nat) (n : Int), isI n → isI (tlFold J T es i n)
 | [], _, _, h => h
 | e :: es, i, n, _ => tlFold_isI hJ es (i + 1) _ (hJ _ _ _)
theorem few_below : ∀ (N : Nat) (l : List Nat), l.Nodup → (∀ x ∈ l, x < N) → l.length ≤ N
 | 0, [], _, _ => Nat.le_refl _
 | 0, x :: _, _, h => absurd (h x List.mem_cons_self) (Nat.not_lt_zero _)
 | N + 1, l, hn, h => by
  by_cases hm : N ∈ l
  ·have h2 := few_below N (l.erase N) (hn.erase N) (fun x hx => by
    have hx2 := (List.Nodup.mem_erase_iff hn).1 hx
    have := h x hx2.2
    have := hx2.1
    omega)
   rw [List.length_erase_of_mem hm] at h2
   omega
  ·exact Nat.le_succ_of_le (few_below N l hn (fun x hx => by
    have := h x hx
    have : x ≠ N := fun e => hm (e ▸ hx)
    omega))
def tlEnt (N : Int) (T : Int → Int) (es : List (Lit × DataW Unit)) : Prop := ∀ p ∈ es, ∃ x : Int, p.1 = .int .i64 x ∧ 0 ≤ x ∧ x < N ∧ p.2 = .lit (.int .i64 (T x))
def tlKey : Lit → Nat
 | .int _ x => x.toNat
 | _ => 0
theorem tlEnt_few {N : Int} {T : Int → Int} {es : List (Lit × DataW Unit)} (h : tlEnt N T es) (hap : es.Pairwise fun p q => p.1 ≠ q.1) : es.length ≤ N.toNat := by
 have h2 := few_below N.toNat (es.map fun p => tlKey p.1) (by
  refine List.pairwise_map.2 (List.Pairwise.imp_of_mem (fun {p q} hp hq hne he => ?_) hap)
  obtain ⟨x, e1, hx0, _⟩ := h p hp
  obtain ⟨y, e2, hy0, _⟩ := h q hq
  rw [e1, e2] at he
  have he2 : x.toNat = y.toNat := he
  exact hne (by rw [e1, e2]; congr 1; omega)) (fun x hx => by
  obtain ⟨p, hp, rfl⟩ := List.mem_map.1 hx
  obtain ⟨y, e1, hy0, hy1, _⟩ := h p hp
  rw [e1]
  show y.toNat < N.toNat
  omega)
 rwa [List.length_map] at h2
def tlMap (N : Int) (T : Int → Int) (b : Nat) (W : World) : Prop := ∃ es : List (Lit × DataW Unit), W.ownsMap Try.prog 3 (plainElem Try.prog 3) b N.toNat (.map es) ∧ tlEnt N T es
theorem tlMap_grown {N : Int} {T : Int → Int} {b : Nat} {W W' : World} (h : tlMap N T b W) (hb : Below W.heap.size W W') : tlMap N T b W' := by
 obtain ⟨es, h1, h2⟩ := h
 exact ⟨es, h1.kept (row := none) ⟨hb.os, hb.tape, hb.output, hb.size, fun k hk _ => hb.block k hk⟩ (by simp), h2⟩
theorem tl_keyed : Maps.Keyed Try.prog 3 := Maps.int_keyed Try.underlying3
theorem tlMap_of {N : Int} {T : Int → Int} {b n : Nat} {W : World} {es : List (Lit × DataW Unit)} (h : W.ownsMap Try.prog 3 (plainElem Try.prog 3) b n (.map es)) (he : tlEnt N T es) : tlMap N T b W := by
 obtain ⟨es', hes, hap⟩ := h.tidy tl_keyed
 injection hes with hes
 subst hes
 have hf := tlEnt_few he hap
 obtain ⟨a, clock, hb, F, _, hD⟩ := h
 refine ⟨es, ⟨a, clock, hb, F, ?_, hD⟩, he⟩
 injection hD with hD
 have : a.size = es.length := by rw [hD, length_sorted, List.length_map, Array.length_toList]
 omega
theorem tlEnt_look {N : Int} {T : Int → Int} {es : List (Lit × DataW Unit)} (h : tlEnt N T es) {s : Int} (hs : Maps.has (.map es) (.int .i64 s) = true) (z : DataW Unit) : (DataW.map es).atKey (.int .i64 s) z = .lit (.int .i64 (T s)) := by
 rw [Maps.has_eq] at hs
 unfold DataW.atKey
 dsimp only
 cases hf : es.find? (fun p => p.1.sameKey (.int .i64 s)) with
 | none =>
  rw [List.find?_eq_none] at hf
  obtain ⟨p, hp, hk⟩ := List.any_eq_true.1 hs
  exact absurd hk (hf p hp)
 | some p =>
  have hk := List.find?_some hf
  have hm := List.mem_of_find?_eq_some hf
  obtain ⟨x, e1, _, _, e2⟩ := h p hm
  rw [e1] at hk
  have hx : x = s := by simpa [Lit.sameKey] using hk
  rw [← hx]
  exact e2
theorem tl_insert {x p : Lit × DataW Unit} : ∀ l : List (Lit × DataW Unit), p ∈ DataW.insert x l → p = x ∨ p ∈ l
 | [], h => by
  simp only [DataW.insert, List.mem_singleton] at h
  exact .inl h
 | y :: r, h => by
  simp only [DataW.insert] at h
  split at h
  ·rcases List.mem_cons.1 h with h | h
   ·exact .inl h
   ·exact .inr h
  ·rcases List.mem_cons.1 h with h | h
   ·exact .inr (by rw [h]; exact List.mem_cons_self)
   ·rcases tl_insert r h with h | h
    ·exact .inl h
    ·exact .inr (List.mem_cons_of_mem _ h)
theorem tlEnt_put {N : Int} {T : Int → Int} {es : List (Lit × DataW Unit)} (h : tlEnt N T es) {s : Int} (h0 : 0 ≤ s) (h1 : s < N) : ∃ es', (DataW.map es).put (.int .i64 s) (.lit (.int .i64 (T s))) = .map es' ∧ tlEnt N T es' := by
 refine ⟨_, rfl, fun p hp => ?_⟩
 rcases tl_insert _ hp with rfl | hp
 ·exact ⟨s, rfl, h0, h1, rfl⟩
 ·exact h p (List.mem_filter.1 hp).1
theorem tl_ne {N : Int} {T : Int → Int} {b g t : Nat} {cs : Array Value} {W : World} (h : tlMap N T b W) (hb : W.heap[g]? = some (.cells cs t (0, 0))) : some g ≠ some b := by
 obtain ⟨_, ⟨a, clock, hm, _⟩, _⟩ := h
 rintro e
 obtain rfl := Option.some.inj e
 rw [hb] at hm
 exact absurd hm (by simp)
theorem own_below {N : Nat} {b : Nat} {W W' : World} {D : DataW Unit} (h : W.ownsMap Try.prog 3 (plainElem Try.prog 3) b N D) (hb : Below W.heap.size W W') : W'.ownsMap Try.prog 3 (plainElem Try.prog 3) b N D :=
 h.kept (row := none) ⟨hb.os, hb.tape, hb.output, hb.size, fun k hk _ => hb.block k hk⟩ (by simp)
theorem tl_below {wb W W' : World} {b : Nat} (hB : Below wb.heap.size wb W) (hg : W.grownBy W' (some b)) (hb : wb.heap.size ≤ b) : Below wb.heap.size wb W' := fr_below hB hg hb
def JAsk (jn : Nat) (jb : Array Value) (J : Int → Int → Bool → Int) (wb : World) : Prop :=
 ∀ (W : World) (r : REdge) (a b : Int) (f : Bool), Below wb.heap.size wb W → Calls Try.prog jn (#[.agg #[.int .i64 r.f0, .int .i64 r.f1, .slice r.A r.n r.c], .int .i64 a, .int .i64 b, .bool f] ++ jb) W fun e w' => e = .returned (.int .i64 (J a b f)) ∧ Below W.heap.size W w'
def impl_graph_int_tally.T10 : Bool × List (List Nat × List Nat) := (true, [([], []), ([], []), ([], []), ([], []), ([], []), ([4], [4]), ([], []), ([], []), ([], []), ([], []), ([3, 5, 6, 7, 8, 9], [3, 5, 6, 7, 8, 9]), ([], []), ([11], [11]), ([0, 1, 2, 10, 12, 10], [0, 1, 2, 10, 12]), ([13, 13, 0, 1, 2, 3, 4, 5, 6, 7, 8, 9, 10, 11, 12, 13], [2, 13])])
def impl_graph_int_tally.B10 : List Nat := [0, 0, 0, 0, 0, 16, 0, 0, 0, 0, 1016, 0, 2048, 8191, 16383]
theorem impl_graph_int_tally.T10_ : rtab .any (opsOf Try.f86 10) = impl_graph_int_tally.T10 := by kernel_rfl
theorem impl_graph_int_tally.B10_ : waitsOk impl_graph_int_tally.T10.2 impl_graph_int_tally.B10 = true := by kernel_rfl
theorem impl_graph_int_tally.on (fo : Nat) (cb : Array Value) (N : Int) (E : Int → List S110) (wb : World) (ee : ∀ args w, (callFunc fo args).run Try.prog w = .ok (.enter fo args) w) (hE : GOut fo cb N E wb)
  (jn : Nat) (jb : Array Value) (J : Int → Int → Bool → Int) (ej : ∀ args w, (callFunc jn args).run Try.prog w = .ok (.enter jn args) w) (hJ : JAsk jn jb J wb) (hJi : ∀ a b f, isI (J a b f))
  (Ad : Option Addr) (cd : Nat) (dist : List Int) (hD : (Kd.int .i64).C wb Ad dist.length dist) (last : Int) (hl : isI last) (b : Nat) (hbb : wb.heap.size ≤ b) (hN : N ≤ 1000000) (hf : tlFalls E N dist)
  (hbest : ∀ s, 0 ≤ s → s < N → impl_graph_int_best.f E N s dist = some (tlBest E dist s) ∧ (tlBest E dist s).length < 1000000) (hDN : (dist.length : Int) = N) (m : Nat)
  (hI : ∀ (s : Int) (W : World), 0 ≤ s → s < N → 0 ≤ rdOf 0 dist s → (rdOf 0 dist s).toNat < m → Below wb.heap.size wb W → tlMap N (tlT E dist J last) b W →
   Calls Try.prog 86 #[.agg #[.int .i64 N, .func (.func fo) #[] cb], .int .i64 s, .slice Ad dist.length cd, .map (some b), .func (.func jn) #[] jb, .int .i64 last] W fun e w' => e = .returned (.int .i64 (tlT E dist J last s)) ∧ tlMap N (tlT E dist J last) b w' ∧ W.grownBy w' (some b))
  (s : Int) (W : World) (h0 : 0 ≤ s) (h1 : s < N) (hds : 0 ≤ rdOf 0 dist s) (hm : (rdOf 0 dist s).toNat = m) (hW : Below wb.heap.size wb W) (hM : tlMap N (tlT E dist J last) b W) :
  Calls Try.prog 86 #[.agg #[.int .i64 N, .func (.func fo) #[] cb], .int .i64 s, .slice Ad dist.length cd, .map (some b), .func (.func jn) #[] jb, .int .i64 last] W fun e w' => e = .returned (.int .i64 (tlT E dist J last s)) ∧ tlMap N (tlT E dist J last) b w' ∧ W.grownBy w' (some b) := by
 have hu := Try.underlying68
 have hu2 := Try.underlying110
 obtain ⟨ad, rfl, hx0⟩ := Kd.at_int hD s h0 (by omega)
 have hx := pw_cell_below hW hx0
 have e0 : rd dist s = rdOf 0 dist s := rfl
 rw [e0] at hx
 have p0 := eq_true h0
 have p1 : (s < (dist.length : Int)) = True := eq_true (by omega)
 have HB := ak_ hW
 have HG := ak_ (World.grownBy.refl W (some b))
 obtain ⟨T, hT⟩ : ∃ T, T = tlT E dist J last := ⟨_, rfl⟩
 have hTz := tlT_zero (E := E) (dist := dist) (J := J) (last := last) s
 have hTn := tlT_eq (J := J) (last := last) hf s h0 h1
 rw [← hT] at hM hI hTz hTn ⊢
 have hTi : isI (T s) := by
  by_cases hz : rdOf 0 dist s = 0
  ·rw [hTz hz]; exact hl
  ·rw [hTn hz]; exact tlFold_isI hJi _ _ _ (by unfold isI; decide)
 have HSI := ak_ (And.intro h0 (And.intro h1 hTi))
 have HI := ak_ hI
 have HDN := ak_ (And.intro hDN hN)
 clear hx0 e0 h0 h1 hI hl hTi hDN hN
 by_cases hz : rdOf 0 dist s = 0
 ·have HM := ak_ hM
  have z1 : (rdOf 0 dist s == 0) = true := beq_iff_eq.mpr hz
  have HT := ak_ (hTz hz)
  clear hM hW hz hTz hTn hT hf hbest hE hJ hD hJi hm hds
  go_enter Try.func86, Try.ntmps86
  go_wp2_with ((with_reducible refine gate_dst (N := 6) rfl ?_); refine box_event ?hg (N := 6) ?hd (cs := #[.int .i64 N, .func (.func fo) #[] cb]) (t := 68) ?hr ?_; (case hd => rfl); (case hg => rfl); (case hr => go_simp <;> rfl); intro gb6 hg w6 hbox hb; have hx2_ := pw_cell_below hb hx; have n9_ := ak_ hbox; have n0_ := ak_ (below_then HB.out HB.out.size hb); have n1_ := ak_ (tlMap_grown HM.out hb); have n2_ := ak_ (gr_below HG.out hb); clear HB HM HG hb hbox hx hg; have HB := n0_; have HM := n1_; have HG := n2_; clear n0_ n1_ n2_; have hx := hx2_; have BK6 := n9_; clear hx2_ n9_; have hz6_0 := (blk_cell BK6.out 0); have hz6_1 := (blk_cell BK6.out 1); simp at hz6_0; simp at hz6_1)
  first | go_ret | go_ret2
  exact ⟨by rw [HT.out]; rfl, tlMap_grown HM.out be_, gr_below HG.out be_⟩
 ·have z1 : (rdOf 0 dist s == 0) = false := beq_eq_false_iff_ne.mpr hz
  obtain ⟨es, hown, hent⟩ := hM
  have HM := ak_ (show tlMap N T b W from ⟨es, hown, hent⟩)
  have HOWN := ak_ hown
  have HENT := ak_ hent
  have hwf : (Lit.int .i64 s).wf = true := by
   have := HSI.out
   have := HDN.out
   simp [Lit.wf, IntKind.min, IntKind.max, IntKind.signed, IntKind.bits]
   omega
  have HWF := ak_ hwf
  cases hh : Maps.has (.map es) (.int .i64 s)
  rotate_left
  ·have HH := ak_ hh
   clear hown hent hW hz hTz hTn hT hf hbest hE hJ hD hJi hm hds hh hwf
   go_enter Try.func86, Try.ntmps86
   go_wp2_with (first | ((with_reducible refine gate_dst (N := 6) rfl ?_); refine box_event ?hg (N := 6) ?hd (cs := #[.int .i64 N, .func (.func fo) #[] cb]) (t := 68) ?hr ?_; (case hd => rfl); (case hg => rfl); (case hr => go_simp <;> rfl); intro gb6 hg w6 hbox hb; have hx2_ := pw_cell_below hb hx; have n9_ := ak_ hbox; have n0_ := ak_ (below_then HB.out HB.out.size hb); have n1_ := ak_ (tlMap_grown HM.out hb); have n2_ := ak_ (gr_below HG.out hb); have n3_ := ak_ (own_below HOWN.out hb); clear HB HM HG HOWN hb hbox hx hg; have HB := n0_; have HM := n1_; have HG := n2_; have HOWN := n3_; clear n0_ n1_ n2_ n3_; have hx := hx2_; have BK6 := n9_; clear hx2_ n9_; have hz6_0 := (blk_cell BK6.out 0); have hz6_1 := (blk_cell BK6.out 1); simp at hz6_0; simp at hz6_1) | (at_lookup; go_loud (refine wpList_lookup_own_ok_int _ rfl (.tmp 25) (.tmp 26) 108 rfl 3 3 .i64 tl_keyed Try.underlying108 Try.underlying3 rfl b N.toNat (.map es) rfl HOWN.out _ (.int .i64 s) rfl (Maps.keyOf_int_mk Try.underlying3 HWF.out) ?_; intro c hat hwc; rw [HH.out]; have HC := ak_ (show c = T s from (by have h_ := tlEnt_look HENT.out HH.out (.lit (.int .i64 0)); rw [hat] at h_; injection h_ with h_; injection h_)); clear hat hwc)))
   first | go_ret | go_ret2
   exact ⟨by rw [HC.out]; rfl, tlMap_grown HM.out be_, gr_below HG.out be_⟩
  ·have HH := ak_ hh
   have HTN := ak_ (hTn hz)
   obtain ⟨bs, hbs⟩ : ∃ bs, bs = tlBest E dist s := ⟨_, rfl⟩
   rw [← hbs] at HTN
   have HBEST := ak_ fun (W' : World) (h : Below wb.heap.size wb W') => impl_graph_int_best.calls fo cb N E wb W' ee hE h s (some ad) cd dist bs (Kd.C_below hD h) (by rw [hbs]; exact (hbest s HSI.out.1 HSI.out.2.1).1)
   have HBL := ak_ (show bs.length < 1000000 from by rw [hbs]; exact (hbest s HSI.out.1 HSI.out.2.1).2)
   have HF := ak_ (show ∀ e ∈ bs, (0 ≤ e.f0 ∧ e.f0 < N) ∧ 0 ≤ rdOf 0 dist e.f0 ∧ (rdOf 0 dist e.f0).toNat < m from fun e he => by
    have h_ := hf s HSI.out.1 HSI.out.2.1 e (by rw [← hbs]; exact he)
    exact ⟨h_.1, h_.2.1, by have := h_.2.2; omega⟩)
   have HJ := ak_ hJ
   have HJI := ak_ hJi
   have HBB := ak_ hbb
   clear hown hent hW hz hTz hTn hT hf hbest hE hJ hD hJi hm hds hh hwf hbs hbb
   go_enter Try.func86, Try.ntmps86
   go_wp2_with (first | ((with_reducible refine gate_dst (N := 6) rfl ?_); refine box_event ?hg (N := 6) ?hd (cs := #[.int .i64 N, .func (.func fo) #[] cb]) (t := 68) ?hr ?_; (case hd => rfl); (case hg => rfl); (case hr => go_simp <;> rfl); intro gb6 hg w6 hbox hb; have hx2_ := pw_cell_below hb hx; have n9_ := ak_ hbox; have n0_ := ak_ (below_then HB.out HB.out.size hb); have n1_ := ak_ (tlMap_grown HM.out hb); have n2_ := ak_ (gr_below HG.out hb); have n3_ := ak_ (own_below HOWN.out hb); clear HB HM HG HOWN hb hbox hx hg; have HB := n0_; have HM := n1_; have HG := n2_; have HOWN := n3_; clear n0_ n1_ n2_ n3_; have hx := hx2_; have BK6 := n9_; clear hx2_ n9_; have hz6_0 := (blk_cell BK6.out 0); have hz6_1 := (blk_cell BK6.out 1); simp at hz6_0; simp at hz6_1) | (at_lookup; go_loud (refine wpList_lookup_own_ok_int _ rfl (.tmp 25) (.tmp 26) 108 rfl 3 3 .i64 tl_keyed Try.underlying108 Try.underlying3 rfl b N.toNat (.map es) rfl HOWN.out _ (.int .i64 s) rfl (Maps.keyOf_int_mk Try.underlying3 HWF.out) ?_; intro c hat hwc; rw [HH.out]; clear hat hwc)) | (go_at_call 111; refine (HBEST.out _ HB.out).mono ?_; rintro e w35 ⟨v35, rfl, ho, hb⟩; obtain ⟨Ae, ce, rfl⟩ := Kd.S_slice ho; have HED := ak_ (frEd_of ho); have n0_ := ak_ (blk_below (pk BK6.out) hb); have n1_ := ak_ (below_then HB.out HB.out.size hb); have n2_ := ak_ (tlMap_grown HM.out hb); have n3_ := ak_ (gr_below HG.out hb); clear BK6 HB HM HG hb ho; have BK6 := n0_; have HB := n1_; have HM := n2_; have HG := n3_; clear n0_ n1_ n2_ n3_))
   go_loopg [15, 37] bs.length (fun gg v15 v37 wr => ∃ (j : Nat) (nn : Int), v15 = .int .i64 nn ∧ v37 = .int .i64 (j : Int) ∧ Aside0 (j ≤ bs.length ∧ bs.length - j ≤ gg) ∧ Aside0 (tlFold J T (bs.drop j) j nn = T s) ∧ Aside0 (frEd wr Ae bs) ∧ Aside0 (wr.heap[gb6]? = some (.cells #[.int .i64 N, .func (.func fo) #[] cb] 68 (0, 0))) ∧ Aside0 (tlMap N T b wr) ∧ Aside0 (W.grownBy wr (some b)) ∧ Aside0 (Below wb.heap.size wb wr))
   case atStart => exact ⟨0, 0, rfl, rfl, ⟨⟨Nat.zero_le _, Nat.le_refl _⟩⟩, ⟨HTN.out.symm⟩, HED, ⟨pk BK6.out⟩, ⟨tlMap_grown HM.out be_⟩, ⟨gr_below HG.out be_⟩, ⟨below_then HB.out HB.out.size be_⟩⟩
   case round =>
    clear HTN HED BK6 HM HG HB HOWN HENT HH
    obtain ⟨j, nn, rfl, rfl, HJ1, HFO, HED, BK6, HM, HG, HB⟩ := hrel
    by_cases hj : j < bs.length
    ·have j1 : decide ((j : Int) < (bs.length : Int)) = true := decide_eq_true (by omega)
     have j1n : decide (j < bs.length) = true := decide_eq_true hj
     have j0p : ((0 : Int) ≤ (j : Int)) = True := eq_true (by omega)
     have j1p : ((j : Int) < (bs.length : Int)) = True := eq_true (by omega)
     rcases HED.out with h0 | ⟨ge, cl, rfl, hbe, hcl⟩
     ·exact absurd h0 (by omega)
     have BKE := ak_ hbe
     have HCL := ak_ hcl
     obtain ⟨A2, n2, c2, he0, he1, he2⟩ := hcl (j : Int) (by omega) (by omega)
     rw [Int.toNat_natCast] at he0 he1 he2
     rw [← blk_cell hbe] at he0 he1 he2
     obtain ⟨e, he⟩ : ∃ e, e = rd_T110 bs (j : Int) := ⟨_, rfl⟩
     rw [← he] at he0 he1
     have heq : bs[j] = e := by rw [he]; unfold rd_T110; rw [Int.toNat_natCast, List.getD_eq_getElem?_getD, List.getElem?_eq_getElem hj]; rfl
     have h := HFO.out
     rw [List.drop_eq_getElem_cons hj, heq] at h
     simp only [tlFold] at h
     have HEF := ak_ (HF.out e (by rw [← heq]; exact List.getElem_mem hj))
     have hw37 : IntKind.i64.wrap ((j : Int) + 1) = ((j + 1 : Nat) : Int) := by have := HBL.out; rw [IntWalk.i64_in _ ⟨by omega, by omega⟩]; omega
     have HF2 := ak_ h
     have HJJ := ak_ hj
     clear h hbe hcl he heq HFO hj HED
     go_upto_region 10 with (fail)
     obtain ⟨w17, hw17⟩ : ∃ W, W = wr.alloc (.cells #[.int .i64 e.f0, .int .i64 e.f1, .slice A2 n2 c2] 110) := ⟨_, rfl⟩
     have hb : Below wr.heap.size wr w17 := (by rw [hw17]; exact ba_ (Below.refl _ _) _)
     have hbk : w17.heap[wr.heap.size]? = some (.cells #[.int .i64 e.f0, .int .i64 e.f1, .slice A2 n2 c2] 110 (0, 0)) := (by rw [hw17]; exact blk_new wr _)
     rw [← hw17]
     clear hw17 he0 he1 he2
     have n0_ := ak_ (blk_below BK6.out hb); have n1_ := ak_ (blk_below BKE.out hb); have n2_ := ak_ (below_then HB.out HB.out.size hb); have n3_ := ak_ (tlMap_grown HM.out hb); have n4_ := ak_ (gr_below HG.out hb); clear BK6 BKE HB HM HG hb; have BK6 := n0_; have BKE := n1_; have HB := n2_; have HM := n3_; have HG := n4_; clear n0_ n1_ n2_ n3_ n4_
     obtain ⟨gb17, hg17⟩ : ∃ g, g = wr.heap.size := ⟨_, rfl⟩
     rw [← hg17] at hbk ⊢
     have BK17 := ak_ hbk
     clear hbk hg17
     have n0_ := ak_ (k1_ BK6.out); have n1_ := ak_ (k1_ BKE.out); have n2_ := ak_ (k1_ BK17.out); have n3_ := ak_ (tlMap_grown HM.out (below_drew (Below.refl _ _))); have n4_ := ak_ (gr_below HG.out (below_drew (Below.refl _ _))); have n5_ := ak_ (b1_ HB.out); clear BK6 BKE BK17 HM HG HB; have BK6 := n0_; have BKE := n1_; have BK17 := n2_; have HM := n3_; have HG := n4_; have HB := n5_; clear n0_ n1_ n2_ n3_ n4_ n5_
     refine start_ (n := 15) (S := fun w' => w'.cell? ⟨gb17, 0, none⟩ = some (.int .i64 e.f0) ∧ w'.cell? ⟨gb17, 1, none⟩ = some (.int .i64 e.f1) ∧ w'.cell? ⟨gb17, 2, none⟩ = some (.slice A2 n2 c2) ∧ w'.cell? ⟨gb6, 0, none⟩ = some (.int .i64 N) ∧ w'.cell? ⟨gb6, 1, none⟩ = some (.func (.func fo) #[] cb)) (ds := []) (mb_ 15 0) (by kernel_rfl) rfl rfl ⟨(blk_cell BK17.out 0).trans rfl, (blk_cell BK17.out 1).trans rfl, (blk_cell BK17.out 2).trans rfl, (blk_cell BK6.out 0).trans rfl, (blk_cell BK6.out 1).trans rfl⟩ (fun hHeld => ?_); refine with_tabW impl_graph_int_tally.T10_ impl_graph_int_tally.B10_ (fun HT_ HW_ => ?_)
     generalize w17.drew = w9 at BK6 BKE BK17 HM HG HB hHeld ⊢
     refine pu_ 0 42 15 1 ?_
     refine tk_ 1 43 15 3 ?_ (hy := by rintro w' ⟨s0, s1, s2, s3, s4⟩; go_simp; with_reducible rfl)
     refine pu_ 2 44 15 7 ?_
     refine tk_ 3 45 15 15 ?_ (hy := by rintro w' ⟨s0, s1, s2, s3, s4⟩; go_simp; with_reducible rfl)
     refine pu_ 4 46 15 31 ?_
     refine tk_ 5 47 15 63 ?_ (hy := by rintro w' ⟨s0, s1, s2, s3, s4⟩; go_simp; with_reducible rfl)
     refine pu_ 6 48 15 127 ?_
     refine pu_ 7 49 15 255 ?_
     refine pu_ 8 50 15 511 ?_
     refine pu_ 9 51 15 1023 ?_
     refine pu_ 11 53 15 3071 ?_
     refine pu_ 12 54 15 7167 ?_
     refine on_ 10 52 15 8191 (fun K hK => ?_)
     refine goes_ Try.func86 (by kernel_rfl) rfl #[.agg #[.int .i64 N, .func (.func fo) #[] cb], .int .i64 e.f0, .slice (some ad) dist.length cd, .map (some b), .func (.func jn) #[] jb, .int .i64 last] (by rfl) rfl rfl (by first | rfl | (simp only [map_toArray, map_cons, map_nil]; try rfl)) ?_
     refine (HI.out e.f0 _ HEF.out.1.1 HEF.out.1.2 HEF.out.2.1 HEF.out.2.2 HB.out HM.out).mono ?_
     rintro e_ w10 ⟨rfl, hm2, hg2⟩
     refine ⟨_, rfl, ?_⟩
     have n0_ := ak_ (blk_grown BK6.out hg2 (tl_ne HM.out BK6.out)); have n1_ := ak_ (blk_grown BKE.out hg2 (tl_ne HM.out BKE.out)); have n2_ := ak_ (blk_grown BK17.out hg2 (tl_ne HM.out BK17.out)); have n3_ := ak_ (gr_gr HG.out hg2); have n4_ := ak_ (tl_below HB.out hg2 HBB.out); have n5_ := ak_ (hm2); clear BK6 BKE BK17 HG HB HM hm2 hg2; have BK6 := n0_; have BKE := n1_; have BK17 := n2_; have HG := n3_; have HB := n4_; have HM := n5_; clear n0_ n1_ n2_ n3_ n4_ n5_
     refine hK.out _ _ ⟨(blk_cell BK17.out 0).trans rfl, (blk_cell BK17.out 1).trans rfl, (blk_cell BK17.out 2).trans rfl, (blk_cell BK6.out 0).trans rfl, (blk_cell BK6.out 1).trans rfl⟩ (fun hHeld => ?_)
     clear hK K
     refine nm_ ?_
     refine on_ 13 55 15 16383 (fun K hK => ?_)
     refine goesv_ (.tmp 42) jb (#[.agg #[.int .i64 e.f0, .int .i64 e.f1, .slice A2 n2 c2], .int .i64 nn, .int .i64 (T e.f0), .bool ((j : Int) == 0)] ++ jb) rfl (ej _ _) (by rfl) rfl rfl (by simp only [List.map_toArray, List.map_cons, List.map_nil]; rfl) ?_
     refine (HJ.out _ ⟨e.f0, e.f1, A2, n2, c2⟩ nn (T e.f0) ((j : Int) == 0) HB.out).mono ?_
     rintro e_ w11 ⟨rfl, hb2⟩
     refine ⟨_, rfl, ?_⟩
     have n0_ := ak_ (blk_below BK6.out hb2); have n1_ := ak_ (blk_below BKE.out hb2); have n2_ := ak_ (blk_below BK17.out hb2); have n3_ := ak_ (tlMap_grown HM.out hb2); have n4_ := ak_ (gr_below HG.out hb2); have n5_ := ak_ (below_then HB.out HB.out.size hb2); clear BK6 BKE BK17 HM HG HB hb2; have BK6 := n0_; have BKE := n1_; have BK17 := n2_; have HM := n3_; have HG := n4_; have HB := n5_; clear n0_ n1_ n2_ n3_ n4_ n5_
     refine hK.out _ _ ⟨(blk_cell BK17.out 0).trans rfl, (blk_cell BK17.out 1).trans rfl, (blk_cell BK17.out 2).trans rfl, (blk_cell BK6.out 0).trans rfl, (blk_cell BK6.out 1).trans rfl⟩ (fun hHeld => ?_)
     clear hK K
     refine nm_ ?_
     refine pu_ 14 15 15 32767 ?_
     refine done_ (done_of HT_.out (by kernel_rfl)) ?_
     try go_wp2
     go_roundg (bs.length - (j + 1))
     case measure => have := HJ1.out; have := HJJ.out; omega
     case rel => exact ⟨j + 1, J nn (T e.f0) ((j : Int) == 0), rfl, (by first | rfl | (simp; done)), ⟨⟨by have := HJJ.out; omega, Nat.le_refl _⟩⟩, HF2, ⟨.inr ⟨ge, cl, rfl, pk BKE.out, HCL.out⟩⟩, ⟨pk BK6.out⟩, ⟨tlMap_grown HM.out be_⟩, ⟨gr_below HG.out be_⟩, ⟨below_then HB.out HB.out.size be_⟩⟩
    ·have j1 : decide ((j : Int) < (bs.length : Int)) = false := decide_eq_false (by omega)
     have j1n : decide (j < bs.length) = false := decide_eq_false hj
     have h := HFO.out
     rw [List.drop_of_length_le (by omega)] at h
     have HNN := ak_ (show nn = T s from h)
     clear h HFO hj
     obtain ⟨es2, hown2, hent2⟩ := HM.out
     obtain ⟨es3, e3, hent3⟩ := tlEnt_put hent2 HSI.out.1 HSI.out.2.1
     have HOWN2 := ak_ hown2
     have HENT3 := ak_ hent3
     have HE3 := ak_ e3
     clear hown2 hent2 hent3 e3 HM
     go_wp2_with (at_mapUpdate; go_loud (refine wpList_mapUpdate_own _ rfl (.tmp 57) (.tmp 58) (.tmp 59) 108 rfl 3 3 tl_keyed Try.underlying108 (plainElem Try.prog 3) b N.toNat (.map es2) rfl HOWN2.out ?hn _ _ (.int .i64 s) rfl rfl (Maps.keyOf_int_mk Try.underlying3 HWF.out) (.lit (.int .i64 (T s))) [] ?hval ?_; (case hn => (have := HDN.out; unfold maxLen; omega)); (case hval => (rw [HNN.out]; exact plainElem_int Try.underlying3 HSI.out.2.2)); intro w12 hown3 hgr; rw [HE3.out] at hown3; have HM := ak_ (tlMap_of hown3 HENT3.out); have n0_ := ak_ (gr_gr HG.out hgr); clear HG hgr hown3; have HG := n0_; clear n0_))
     first | go_ret | go_ret2
     exact ⟨by rw [← HNN.out]; rfl, tlMap_grown HM.out be_, gr_below HG.out be_⟩
theorem impl_graph_int_tally.calls (fo : Nat) (cb : Array Value) (N : Int) (E : Int → List S110) (wb : World) (ee : ∀ args w, (callFunc fo args).run Try.prog w = .ok (.enter fo args) w) (hE : GOut fo cb N E wb)
  (jn : Nat) (jb : Array Value) (J : Int → Int → Bool → Int) (ej : ∀ args w, (callFunc jn args).run Try.prog w = .ok (.enter jn args) w) (hJ : JAsk jn jb J wb) (hJi : ∀ a b f, isI (J a b f))
  (Ad : Option Addr) (cd : Nat) (dist : List Int) (hD : (Kd.int .i64).C wb Ad dist.length dist) (last : Int) (hl : isI last) (b : Nat) (hbb : wb.heap.size ≤ b) (hN : N ≤ 1000000) (hf : tlFalls E N dist)
  (hbest : ∀ s, 0 ≤ s → s < N → impl_graph_int_best.f E N s dist = some (tlBest E dist s) ∧ (tlBest E dist s).length < 1000000) (hDN : (dist.length : Int) = N) (m : Nat) :
  ∀ (s : Int) (W : World), 0 ≤ s → s < N → 0 ≤ rdOf 0 dist s → (rdOf 0 dist s).toNat = m → Below wb.heap.size wb W → tlMap N (tlT E dist J last) b W →
   Calls Try.prog 86 #[.agg #[.int .i64 N, .func (.func fo) #[] cb], .int .i64 s, .slice Ad dist.length cd, .map (some b), .func (.func jn) #[] jb, .int .i64 last] W fun e w' => e = .returned (.int .i64 (tlT E dist J last s)) ∧ tlMap N (tlT E dist J last) b w' ∧ W.grownBy w' (some b) := by
 induction m using Nat.strongRecOn with
 | _ m ih =>
  intro s W h0 h1 hds hm hW hM
  exact impl_graph_int_tally.on fo cb N E wb ee hE jn jb J ej hJ hJi Ad cd dist hD last hl b hbb hN hf hbest hDN m (fun s' W' a0 a1 a2 a3 a4 a5 => ih _ a3 s' W' a0 a1 a2 rfl a4 a5) s W h0 h1 hds hm hW hM
def grOk (E : Int → List S110) (N : Int) (s : Int) (dist : List Int) : Bool :=
 decide (N ≤ 1000000) && (decide (0 ≤ s) && (decide (s < N) && (decide ((dist.length : Int) = N) && (decide (0 ≤ rdOf 0 dist s) && (dist.all (fun x => decide (x < 1000000000000)) &&
  (List.range N.toNat).all fun i => decide ((E (i : Int)).length < 1000000) && (E (i : Int)).all fun e => decide (0 ≤ e.f0) && (decide (e.f0 < N) && (decide (1 ≤ e.f1) && decide (e.f1 < 1000000))))))))
structure GrOk (E : Int → List S110) (N : Int) (s : Int) (dist : List Int) : Prop where
 n : N ≤ 1000000
 s0 : 0 ≤ s
 s1 : s < N
 len : (dist.length : Int) = N
 ds : 0 ≤ rdOf 0 dist s
 d : ∀ x ∈ dist, x < 1000000000000
 e : ∀ t, 0 ≤ t → t < N → (E t).length < 1000000 ∧ ∀ e ∈ E t, 0 ≤ e.f0 ∧ e.f0 < N ∧ 1 ≤ e.f1 ∧ e.f1 < 1000000
theorem grOk_iff {E : Int → List S110} {N : Int} {s : Int} {dist : List Int} (h : grOk E N s dist = true) : GrOk E N s dist := by
 unfold grOk at h
 simp only [Bool.and_eq_true, decide_eq_true_eq, List.all_eq_true, List.mem_range] at h
 obtain ⟨h1, h2, h3, h4, h5, h6, h7⟩ := h
 refine ⟨h1, h2, h3, h4, h5, h6, fun t t0 t1 => ?_⟩
 have h8 := h7 t.toNat (by omega)
 rw [Int.toNat_of_nonneg t0] at h8
 exact ⟨h8.1, fun e he => h8.2 e he⟩
theorem rdOf_mem {dist : List Int} {t : Int} (h0 : 0 ≤ t) (h1 : t < (dist.length : Int)) : rdOf 0 dist t ∈ dist := by
 unfold rdOf
 rw [List.getD_eq_getElem?_getD, List.getElem?_eq_getElem (by omega)]
 exact List.getElem_mem _
theorem GrOk.falls {E : Int → List S110} {N : Int} {s : Int} {dist : List Int} (h : GrOk E N s dist) : tlFalls E N dist := by
 intro t t0 t1 e he
 unfold tlBest at he
 rw [List.mem_filter] at he
 obtain ⟨hm, ho⟩ := he
 obtain ⟨a0, a1, a2, a3⟩ := (h.e t t0 t1).2 e hm
 have hd := h.d _ (rdOf_mem a0 (by rw [h.len]; exact a1))
 simp only [offWay, Bool.not_eq_true', Bool.or_eq_false_iff, decide_eq_false_iff_not, bne_eq_false_iff_eq] at ho
 obtain ⟨o1, o2⟩ := ho
 have hw : wrap64 (rdOf 0 dist e.f0 + e.f1) = rdOf 0 dist e.f0 + e.f1 := by unfold wrap64; omega
 rw [hw] at o2
 exact ⟨⟨a0, a1⟩, by omega, by omega⟩
theorem GrOk.best {E : Int → List S110} {N : Int} {s : Int} {dist : List Int} (h : GrOk E N s dist) (t : Int) (t0 : 0 ≤ t) (t1 : t < N) : impl_graph_int_best.f E N t dist = some (tlBest E dist t) ∧ (tlBest E dist t).length < 1000000 := by
 obtain ⟨a, b⟩ := h.e t t0 t1
 unfold impl_graph_int_best.f
 rw [if_pos ⟨t0, t1, h.len, a⟩, if_pos (List.all_eq_true.2 (fun e he => by have := b e he; simp only [Bool.and_eq_true, decide_eq_true_eq]; exact ⟨this.1, this.2.1⟩))]
 exact ⟨rfl, Nat.lt_of_le_of_lt (List.length_filter_le _ _) a⟩
theorem GOut.up {fo : Nat} {cb : Array Value} {N : Int} {E : Int → List S110} {w w0 : World} (h : GOut fo cb N E w) (hb : Below w.heap.size w w0) : GOut fo cb N E w0 := fun W s hW => h W s (below_then hb hb.size hW)
theorem frRun_congr {E E' : Int → List S110} {N : Int} (h : ∀ s, 0 ≤ s → s < N → E s = E' s) : ∀ k d i dist w, frRun E N k d i dist w = frRun E' N k d i dist w
 | 0, _, _, _, _ => rfl
 | k + 1, d, i, dist, w => by
  rw [frRun.eq_2, frRun.eq_2]
  by_cases hs : 0 ≤ rdOf 0 (w.getD d []) (i : Int) ∧ rdOf 0 (w.getD d []) (i : Int) < N
  ·rw [h _ hs.1 hs.2]
   simp only [frRun_congr h k]
  ·have e1 : ¬ (0 ≤ rdOf 0 (w.getD d []) (i : Int) ∧ rdOf 0 (w.getD d []) (i : Int) < N ∧ i < 1000000 ∧ d < 1000000 ∧ (E (rdOf 0 (w.getD d []) (i : Int))).length < 1000000) := fun hc => hs ⟨hc.1, hc.2.1⟩
   have e2 : ¬ (0 ≤ rdOf 0 (w.getD d []) (i : Int) ∧ rdOf 0 (w.getD d []) (i : Int) < N ∧ i < 1000000 ∧ d < 1000000 ∧ (E' (rdOf 0 (w.getD d []) (i : Int))).length < 1000000) := fun hc => hs ⟨hc.1, hc.2.1⟩
   simp only [if_neg e1, if_neg e2, frRun_congr h k]
theorem tlV_congr {E E' : Int → List S110} {N : Int} {dist : List Int} {J : Int → Int → Bool → Int} {last : Int} (h : ∀ s, 0 ≤ s → s < N → E s = E' s) (hf : tlFalls E N dist) : ∀ k s, 0 ≤ s → s < N → tlV E dist J last k s = tlV E' dist J last k s
 | 0, _, _, _ => rfl
 | k + 1, s, s0, s1 => by
  unfold tlV
  have e : tlBest E' dist s = tlBest E dist s := by unfold tlBest; rw [h s s0 s1]
  rw [e]
  split
  ·rfl
  ·exact tlFold_same _ _ _ (fun x hx => tlV_congr h hf k x.f0 (hf s s0 s1 x hx).1.1 (hf s s0 s1 x hx).1.2)
theorem grOk_congr {E E' : Int → List S110} {N : Int} {s : Int} {dist : List Int} (h : ∀ s, 0 ≤ s → s < N → E s = E' s) : grOk E N s dist = grOk E' N s dist := by
 unfold grOk
 have e : ∀ i ∈ List.range N.toNat, E (i : Int) = E' (i : Int) := fun i hi => h i (by omega) (by rw [List.mem_range] at hi; omega)
 congr 6
 refine Bool.eq_iff_iff.2 ?_
 rw [List.all_eq_true, List.all_eq_true]
 constructor
 ·intro h2 i hi
  rw [← e i hi]; exact h2 i hi
 ·intro h2 i hi
  rw [e i hi]; exact h2 i hi
def grE (g : Int → Option (List S110)) : Int → List S110 := fun s => (g s).getD []
def grAll (g : Int → Option (List S110)) (N : Int) : Bool := (List.range N.toNat).all fun i => (g (i : Int)).isSome
theorem grAll_at {g : Int → Option (List S110)} {N : Int} (h : grAll g N = true) (s : Int) (s0 : 0 ≤ s) (s1 : s < N) : g s = some (grE g s) := by
 have h2 := List.all_eq_true.1 h s.toNat (List.mem_range.2 (by omega))
 rw [Int.toNat_of_nonneg s0] at h2
 unfold grE
 cases hg : g s with
 | none => rw [hg] at h2; exact absurd h2 (by simp)
 | some r => rfl
theorem grAll_le {g g' : Int → Option (List S110)} {N : Int} (hg : ∀ s, LeO (g s) (g' s)) (h : grAll g N = true) : grAll g' N = true ∧ ∀ s, 0 ≤ s → s < N → grE g s = grE g' s := by
 have h2 : ∀ s, 0 ≤ s → s < N → g' s = some (grE g s) := fun s s0 s1 => hg s _ (grAll_at h s s0 s1)
 refine ⟨List.all_eq_true.2 (fun i hi => ?_), fun s s0 s1 => ?_⟩
 ·rw [h2 i (by omega) (by rw [List.mem_range] at hi; omega)]; rfl
 ·show grE g s = (g' s).getD []
  rw [h2 s s0 s1]; rfl
def frG (g : Int → Option (List S110)) (k : Nat) (N : Int) (starts : List Int) : Option (List Int) := if grAll g N = true then impl_graph_int_from.f (grE g) k N starts else none
theorem frG_mono {g g' : Int → Option (List S110)} (hg : ∀ s, LeO (g s) (g' s)) (k : Nat) (N : Int) (starts : List Int) : LeO (frG g k N starts) (frG g' (k + 1) N starts) := by
 intro r h
 unfold frG at h ⊢
 by_cases ha : grAll g N = true
 ·rw [if_pos ha] at h
  obtain ⟨h1, h2⟩ := grAll_le hg ha
  rw [if_pos h1]
  have h3 := impl_graph_int_from.mono _ _ _ _ r h
  unfold impl_graph_int_from.f at h3 ⊢
  simp only [frRun_congr h2] at h3
  exact h3
 ·rw [if_neg ha] at h; exact absurd h (by simp)
theorem GOut.of {fo : Nat} {cb : Array Value} {N : Int} {g : Int → Option (List S110)} {w0 : World} (ha : grAll g N = true)
  (h : ∀ (W : World) (s : Int) (es : List S110), Below w0.heap.size w0 W → g s = some es → Calls Try.prog fo (#[.int .i64 s] ++ cb) W fun e w' => ∃ v : Value, e = .returned v ∧ Kd.S k110 110 w' W.heap.size (fun _ => True) v es ∧ Below W.heap.size W w') : GOut fo cb N (grE g) w0 :=
 fun W s hW s0 s1 => h W s _ hW (grAll_at ha s s0 s1)
theorem impl_graph_int_count.calls_1 (wb : World) : JAsk 87 #[] (fun a b _ => wrap64 (a + b)) wb := by
 intro W r a b f hW
 have hu := Try.underlying110
 rw [Array.append_empty]
 go_enter Try.func87, Try.ntmps87
 go_wp2
 first | go_ret | go_ret2
 exact ⟨rfl, be_⟩
def impl_graph_int_count.f (E : Int → List S110) (N : Int) (s : Int) (dist : List Int) : Option Int := if grOk E N s dist = true then some (tlT E dist (fun a b _ => wrap64 (a + b)) 1 s) else none
theorem impl_graph_int_count.calls (fo : Nat) (cb : Array Value) (N : Int) (E : Int → List S110) (w w0 : World) (ee : ∀ args w, (callFunc fo args).run Try.prog w = .ok (.enter fo args) w) (hE : GOut fo cb N E w) (hb0 : Below w.heap.size w w0)
  (s : Int) (Ad : Option Addr) (cd : Nat) (dist : List Int) (r : Int) (hd : (Kd.int .i64).C w0 Ad dist.length dist) (h : impl_graph_int_count.f E N s dist = some r) :
  Calls Try.prog 43 #[.agg #[.int .i64 N, .func (.func fo) #[] cb], .int .i64 s, .slice Ad dist.length cd] w0 fun e w' => e = .returned (.int .i64 r) ∧ Below w0.heap.size w0 w' := by
 have hu := Try.underlying68
 unfold impl_graph_int_count.f at h
 by_cases hok : grOk E N s dist = true
 rotate_left
 ·rw [if_neg hok] at h; exact absurd h (by simp)
 rw [if_pos hok] at h
 have hG := grOk_iff hok
 obtain ⟨T, hT⟩ : ∃ T, T = tlT E dist (fun a b _ => wrap64 (a + b)) 1 := ⟨_, rfl⟩
 have HT := ak_ fun (b : Nat) (hbb : w0.heap.size ≤ b) (W : World) (hW : Below w0.heap.size w0 W) (hM : tlMap N T b W) => (show Calls Try.prog 86 #[.agg #[.int .i64 N, .func (.func fo) #[] cb], .int .i64 s, .slice Ad dist.length cd, .map (some b), .func (.func 87) #[] #[], .int .i64 1] W fun e w' => e = .returned (.int .i64 (T s)) ∧ tlMap N T b w' ∧ W.grownBy w' (some b) from by
  rw [hT] at hM ⊢
  exact impl_graph_int_tally.calls fo cb N E w0 ee (hE.up hb0) 87 #[] (fun a b _ => wrap64 (a + b)) (enters_of Try.func87 (by kernel_rfl) rfl) (impl_graph_int_count.calls_1 w0) (fun a b _ => wrap64_wf _) Ad cd dist hd 1 (by unfold isI; decide) b hbb hG.n hG.falls hG.best hG.len _ s W hG.s0 hG.s1 hG.ds rfl hW hM)
 obtain rfl := Option.some.inj h
 rw [← hT]
 have HB := ak_ (Below.refl w0.heap.size w0)
 have hmm := @run_makeMap Try.prog
 clear h hok hG hT hd hE hb0
 go_enter Try.func43, Try.ntmps43
 go_wp2_with (first | ((with_reducible refine gate_dst (N := 3) rfl ?_); refine box_event ?hg (N := 3) ?hd (cs := #[.int .i64 N, .func (.func fo) #[] cb]) (t := 68) ?hr ?_; (case hd => rfl); (case hg => rfl); (case hr => go_simp <;> rfl); intro gb3 hg w3 hbox hb; have nb_ := ak_ (bs_ (bb_ HB.out) hb); have nc_ := ak_ hbox; have nd_ := ak_ ((by rw [hg]; exact (bz_ (bb_ HB.out)) : w0.heap.size ≤ gb3)); clear HB hb hbox hg; have HB := nb_; have BK3 := nc_; have GE3 := nd_; clear nb_ nc_ nd_; have hz3_0 := (blk_cell BK3.out 0); have hf3_0 := (blk_frozen BK3.out 0); simp at hz3_0; have hz3_1 := (blk_cell BK3.out 1); have hf3_1 := (blk_frozen BK3.out 1); simp at hz3_1; skip) | (go_at_call 86; go_loud (refine (HT.out _ ?hb _ ?hW (tlMap_of (World.ownsMap_made _ _ _ _) (fun p hp => by simp at hp))).mono ?_; (case hb => exact bz_ (bb_ HB.out)); (case hW => exact (bb_ HB.out)); rintro e w11 ⟨rfl, -, hg⟩; have n0_ := ak_ (tl_below (wb := w0) (bb_ HB.out) hg (bz_ (bb_ HB.out))); clear HB HT hg; have HB := n0_; clear n0_)))
 first | go_ret | go_ret2
 exact ⟨rfl, (bb_ HB.out)⟩
def coG (g : Int → Option (List S110)) (N : Int) (s : Int) (dist : List Int) : Option Int := if grAll g N = true then impl_graph_int_count.f (grE g) N s dist else none
theorem coG_mono {g g' : Int → Option (List S110)} (hg : ∀ s, LeO (g s) (g' s)) (N : Int) (s : Int) (dist : List Int) : LeO (coG g N s dist) (coG g' N s dist) := by
 intro r h
 unfold coG at h ⊢
 by_cases ha : grAll g N = true
 ·rw [if_pos ha] at h
  obtain ⟨h1, h2⟩ := grAll_le hg ha
  rw [if_pos h1]
  unfold impl_graph_int_count.f at h ⊢
  rw [← grOk_congr h2]
  by_cases hok : grOk (grE g) N s dist = true
  ·rw [if_pos hok] at h ⊢
   have hG := grOk_iff hok
   rw [← h]
   congr 1
   exact (tlV_congr h2 hG.falls _ s hG.s0 hG.s1).symm
  ·rw [if_neg hok] at h; exact absurd h (by simp)
 ·rw [if_neg ha] at h; exact absurd h (by simp)
def impl_in.f (a0 : Int) (a1 : Int) (a2 : Int) : Option (Bool) := if a1 ≤ a0 then (some (decide (a0 ≤ a2))) else (some false)
theorem impl_in.calls (a0 : Int) (a1 : Int) (a2 : Int) (r : Bool) (w : World) (h : impl_in.f a0 a1 a2 = some r) :
  Calls Try.prog 82 #[.int .i64 a0, .int .i64 a1, .int .i64 a2] w fun e w' => e = .returned (.bool r) ∧ Drawn0 w w' := by
 have H : (if a1 ≤ a0 then (some (decide (a0 ≤ a2))) else (some false)) = some r := h
 clear h
 by_cases c4 : a1 ≤ a0
 ·rw [if_pos c4] at H
  have c4b0 : decide (a1 ≤ a0) = true := decide_eq_true c4
  clear c4
  obtain rfl := Option.some.inj H
  go_enter Try.func82, Try.ntmps82
  go_wp2
  go_ret
  exact ⟨ry_, by repeat (first | exact Drawn0.refl _ | apply Drawn0.step)⟩
 ·rw [if_neg c4] at H
  have c4b0 : decide (a1 ≤ a0) = false := decide_eq_false c4
  clear c4
  obtain rfl := Option.some.inj H
  go_enter Try.func82, Try.ntmps82
  go_wp2
  go_ret
  exact ⟨ry_, by repeat (first | exact Drawn0.refl _ | apply Drawn0.step)⟩
end Go.Proofs.Ythkchdfkeieabaa.QGr
