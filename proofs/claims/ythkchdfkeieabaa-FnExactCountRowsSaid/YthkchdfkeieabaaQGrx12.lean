/- Contracts of functions of the given program, walked: each call returns what its Lean function says. Conditions: those that stand at each theorem. (Written by a program of this session.) -/
import Derived.Test.YthkchdfkeieabaaQGrx0
import Derived.Test.YthkchdfkeieabaaQGrx7
import Derived.Test.YthkchdfkeieabaaQGrx10
import Derived.Test.YthkchdfkeieabaaQGrx11
namespace Go.Proofs.Ythkchdfkeieabaa.QGr
open Go.RowKit Go.Proofs.YthkchdfkeieabaaW.PrintWords Go.Proofs.YthkchdfkeieabaaW.PrintLast Go.Proofs.YthkchdfkeieabaaW.PrintMore
attribute [local go_sem] max2_int min2_int max_two min_two max_three min_three max_four min_four   -- for this text's walks alone
set_option linter.unusedVariables false
set_option linter.unusedSimpArgs false

/-! ### impl_graph_int_tally: function 86 -/
section
variable {P : Program} {md : Region.Mode} {ops : Array Oper} {Q : Exit → Act → World → Prop}
/-- A call of a function value, by its contract. -/
theorem goesv_ {oi : Oper} {N : Option Tmp} {a : Act} {w : World} {K : Act → World → Prop} {f : FuncId} {xs : Array Operand} {ts : Array TypeId} (x : Operand) (cb args : Array Value) (hx : a.eval x = .func (.func f) #[] cb) (he : (callFunc f args).run P w = .ok (.enter f args) w)
    (hw : Region.wanted oi (yielded ops a.tmps) = true) (hN : oi.dst = N) (hop : oi.op = .call { callee := .value x, args := xs, argTypes := ts }) (hargs : xs.map a.eval ++ cb = args)
    (h : Calls P f args w fun e w' => ∃ v, e = .returned v ∧ K (a.put N v) w') : if Region.wanted oi (yielded ops a.tmps) = true then Oper.wp P oi a w K Q else K (a.put N undef) w := by
  refine call_ f args hw hN ?_ h
  unfold execOp
  simp [hop, resolve, Deferred.ofValue, invoke, hx, hargs, he]
end
/-- The edges on least ways from s. -/
def tlBest (E : Int → List S110) (dist : List Int) (s : Int) : List S110 := (E s).filter fun e => !offWay dist s e.f0 e.f1
def tlFold (J : Int → Int → Bool → Int) (T : Int → Int) : List S110 → Nat → Int → Int
  | [], _, n => n
  | e :: es, i, n => tlFold J T es (i + 1) (J n (T e.f0) ((i : Int) == 0))
/-- What is told of the least ways from s. -/
def tlV (E : Int → List S110) (dist : List Int) (J : Int → Int → Bool → Int) (last : Int) : Nat → Int → Int
  | 0, _ => 0
  | k + 1, s => if rdOf 0 dist s = 0 then last else tlFold J (tlV E dist J last k) (tlBest E dist s) 0 0
def tlT (E : Int → List S110) (dist : List Int) (J : Int → Int → Bool → Int) (last : Int) (s : Int) : Int := tlV E dist J last ((rdOf 0 dist s).toNat + 1) s
theorem tlFold_same {J : Int → Int → Bool → Int} {T T' : Int → Int} : ∀ (es : List S110) (i : Nat) (n : Int), (∀ e ∈ es, T e.f0 = T' e.f0) → tlFold J T es i n = tlFold J T' es i n
  | [], _, _, _ => rfl
  | e :: es, i, n, h => by
    unfold tlFold
    rw [h e List.mem_cons_self]
    exact tlFold_same es (i + 1) _ (fun e he => h e (List.mem_cons_of_mem _ he))
/-- Distances fall along the edges on least ways. -/
def tlFalls (E : Int → List S110) (N : Int) (dist : List Int) : Prop := ∀ s, 0 ≤ s → s < N → ∀ e ∈ tlBest E dist s, (0 ≤ e.f0 ∧ e.f0 < N) ∧ 0 ≤ rdOf 0 dist e.f0 ∧ rdOf 0 dist e.f0 < rdOf 0 dist s
theorem tlV_enough {E : Int → List S110} {N : Int} {dist : List Int} {J : Int → Int → Bool → Int} {last : Int} (hf : tlFalls E N dist) : ∀ (k k' : Nat) (s : Int), 0 ≤ s → s < N → 0 ≤ rdOf 0 dist s → (rdOf 0 dist s).toNat < k → (rdOf 0 dist s).toNat < k' → tlV E dist J last k s = tlV E dist J last k' s
  | 0, _, _, _, _, _, h, _ => absurd h (Nat.not_lt_zero _)
  | _ + 1, 0, _, _, _, _, _, h => absurd h (Nat.not_lt_zero _)
  | k + 1, k' + 1, s, h0, h1, hd, hk, hk' => by
    unfold tlV
    split
    · rfl
    · refine tlFold_same _ _ _ (fun e he => ?_)
      obtain ⟨⟨a0, a1⟩, b0, b1⟩ := hf s h0 h1 e he
      exact tlV_enough hf k k' e.f0 a0 a1 b0 (by omega) (by omega)
theorem tlT_eq {E : Int → List S110} {N : Int} {dist : List Int} {J : Int → Int → Bool → Int} {last : Int} (hf : tlFalls E N dist) (s : Int) (h0 : 0 ≤ s) (h1 : s < N) (hs : rdOf 0 dist s ≠ 0) : tlT E dist J last s = tlFold J (tlT E dist J last) (tlBest E dist s) 0 0 := by
  show tlV E dist J last ((rdOf 0 dist s).toNat + 1) s = _
  unfold tlV
  rw [if_neg hs]
  refine tlFold_same _ _ _ (fun e he => ?_)
  obtain ⟨⟨a0, a1⟩, b0, b1⟩ := hf s h0 h1 e he
  exact tlV_enough hf _ _ e.f0 a0 a1 b0 (by omega) (by omega)
theorem tlT_zero {E : Int → List S110} {dist : List Int} {J : Int → Int → Bool → Int} {last : Int} (s : Int) (hs : rdOf 0 dist s = 0) : tlT E dist J last s = last := by
  show tlV E dist J last ((rdOf 0 dist s).toNat + 1) s = _
  unfold tlV
  rw [if_pos hs]
def isI (n : Int) : Prop := (Lit.int .i64 n).wf = true
theorem tlFold_isI {J : Int → Int → Bool → Int} {T : Int → Int} (hJ : ∀ a b f, isI (J a b f)) : ∀ (es : List S110) (i : Nat) (n : Int), isI n → isI (tlFold J T es i n)
  | [], _, _, h => h
  | e :: es, i, n, _ => tlFold_isI hJ es (i + 1) _ (hJ _ _ _)
/-! The map of what is known. -/
theorem few_below : ∀ (N : Nat) (l : List Nat), l.Nodup → (∀ x ∈ l, x < N) → l.length ≤ N
  | 0, [], _, _ => Nat.le_refl _
  | 0, x :: _, _, h => absurd (h x List.mem_cons_self) (Nat.not_lt_zero _)
  | N + 1, l, hn, h => by
    by_cases hm : N ∈ l
    · have h2 := few_below N (l.erase N) (hn.erase N) (fun x hx => by
        have hx2 := (List.Nodup.mem_erase_iff hn).1 hx
        have := h x hx2.2
        have := hx2.1
        omega)
      rw [List.length_erase_of_mem hm] at h2
      omega
    · exact Nat.le_succ_of_le (few_below N l hn (fun x hx => by
        have := h x hx
        have : x ≠ N := fun e => hm (e ▸ hx)
        omega))
def tlEnt (N : Int) (T : Int → Int) (es : List (Lit × DataW Unit)) : Prop := ∀ p ∈ es, ∃ x : Int, p.1 = .int .i64 x ∧ 0 ≤ x ∧ x < N ∧ p.2 = .lit (.int .i64 (T x))
def tlKey : Lit → Nat
  | .int _ x => x.toNat
  | _ => 0
theorem tlEnt_few {N : Int} {T : Int → Int} {es : List (Lit × DataW Unit)} (h : tlEnt N T es) (hap : es.Pairwise fun p q => p.1 ≠ q.1) : es.length ≤ N.toNat := by
  have h2 := few_below N.toNat (es.map fun p => tlKey p.1) (by
    refine List.pairwise_map.2 (List.Pairwise.imp_of_mem (fun {p q} hp hq hne he => ?_) hap)
    obtain ⟨x, e1, hx0, _⟩ := h p hp
    obtain ⟨y, e2, hy0, _⟩ := h q hq
    rw [e1, e2] at he
    have he2 : x.toNat = y.toNat := he
    exact hne (by rw [e1, e2]; congr 1; omega)) (fun x hx => by
    obtain ⟨p, hp, rfl⟩ := List.mem_map.1 hx
    obtain ⟨y, e1, hy0, hy1, _⟩ := h p hp
    rw [e1]
    show y.toNat < N.toNat
    omega)
  rwa [List.length_map] at h2
/-- Block b is a map of what is known of states. -/
def tlMap (N : Int) (T : Int → Int) (b : Nat) (W : World) : Prop := ∃ es : List (Lit × DataW Unit), W.ownsMap Try.prog 3 (plainElem Try.prog 3) b N.toNat (.map es) ∧ tlEnt N T es
theorem tlMap_grown {N : Int} {T : Int → Int} {b : Nat} {W W' : World} (h : tlMap N T b W) (hb : Below W.heap.size W W') : tlMap N T b W' := by
  obtain ⟨es, h1, h2⟩ := h
  exact ⟨es, h1.kept (row := none) ⟨hb.os, hb.tape, hb.output, hb.size, fun k hk _ => hb.block k hk⟩ (by simp), h2⟩
theorem tl_keyed : Maps.Keyed Try.prog 3 := Maps.int_keyed Try.underlying3
theorem tlMap_of {N : Int} {T : Int → Int} {b n : Nat} {W : World} {es : List (Lit × DataW Unit)} (h : W.ownsMap Try.prog 3 (plainElem Try.prog 3) b n (.map es)) (he : tlEnt N T es) : tlMap N T b W := by
  obtain ⟨es', hes, hap⟩ := h.tidy tl_keyed
  injection hes with hes
  subst hes
  have hf := tlEnt_few he hap
  obtain ⟨a, clock, hb, F, _, hD⟩ := h
  refine ⟨es, ⟨a, clock, hb, F, ?_, hD⟩, he⟩
  injection hD with hD
  have : a.size = es.length := by rw [hD, length_sorted, List.length_map, Array.length_toList]
  omega
theorem tlEnt_look {N : Int} {T : Int → Int} {es : List (Lit × DataW Unit)} (h : tlEnt N T es) {s : Int} (hs : Maps.has (.map es) (.int .i64 s) = true) (z : DataW Unit) : (DataW.map es).atKey (.int .i64 s) z = .lit (.int .i64 (T s)) := by
  rw [Maps.has_eq] at hs
  unfold DataW.atKey
  dsimp only
  cases hf : es.find? (fun p => p.1.sameKey (.int .i64 s)) with
  | none =>
    rw [List.find?_eq_none] at hf
    obtain ⟨p, hp, hk⟩ := List.any_eq_true.1 hs
    exact absurd hk (hf p hp)
  | some p =>
    have hk := List.find?_some hf
    have hm := List.mem_of_find?_eq_some hf
    obtain ⟨x, e1, _, _, e2⟩ := h p hm
    rw [e1] at hk
    have hx : x = s := by simpa [Lit.sameKey] using hk
    rw [← hx]
    exact e2
theorem tl_insert {x p : Lit × DataW Unit} : ∀ l : List (Lit × DataW Unit), p ∈ DataW.insert x l → p = x ∨ p ∈ l
  | [], h => by
    simp only [DataW.insert, List.mem_singleton] at h
    exact .inl h
  | y :: r, h => by
    simp only [DataW.insert] at h
    split at h
    · rcases List.mem_cons.1 h with h | h
      · exact .inl h
      · exact .inr h
    · rcases List.mem_cons.1 h with h | h
      · exact .inr (by rw [h]; exact List.mem_cons_self)
      · rcases tl_insert r h with h | h
        · exact .inl h
        · exact .inr (List.mem_cons_of_mem _ h)
theorem tlEnt_put {N : Int} {T : Int → Int} {es : List (Lit × DataW Unit)} (h : tlEnt N T es) {s : Int} (h0 : 0 ≤ s) (h1 : s < N) : ∃ es', (DataW.map es).put (.int .i64 s) (.lit (.int .i64 (T s))) = .map es' ∧ tlEnt N T es' := by
  refine ⟨_, rfl, fun p hp => ?_⟩
  rcases tl_insert _ hp with rfl | hp
  · exact ⟨s, rfl, h0, h1, rfl⟩
  · exact h p (List.mem_filter.1 hp).1
theorem tl_ne {N : Int} {T : Int → Int} {b g t : Nat} {cs : Array Value} {W : World} (h : tlMap N T b W) (hb : W.heap[g]? = some (.cells cs t (0, 0))) : some g ≠ some b := by
  obtain ⟨_, ⟨a, clock, hm, _⟩, _⟩ := h
  rintro e
  obtain rfl := Option.some.inj e
  rw [hb] at hm
  exact absurd hm (by simp)
theorem own_below {N : Nat} {b : Nat} {W W' : World} {D : DataW Unit} (h : W.ownsMap Try.prog 3 (plainElem Try.prog 3) b N D) (hb : Below W.heap.size W W') : W'.ownsMap Try.prog 3 (plainElem Try.prog 3) b N D :=
  h.kept (row := none) ⟨hb.os, hb.tape, hb.output, hb.size, fun k hk _ => hb.block k hk⟩ (by simp)
theorem tl_below {wb W W' : World} {b : Nat} (hB : Below wb.heap.size wb W) (hg : W.grownBy W' (some b)) (hb : wb.heap.size ≤ b) : Below wb.heap.size wb W' := fr_below hB hg hb
/-- What joins: no more is asked of it than a number. -/
def JAsk (jn : Nat) (jb : Array Value) (J : Int → Int → Bool → Int) (wb : World) : Prop :=
  ∀ (W : World) (r : REdge) (a b : Int) (f : Bool), Below wb.heap.size wb W → Calls Try.prog jn (#[.agg #[.int .i64 r.f0, .int .i64 r.f1, .slice r.A r.n r.c], .int .i64 a, .int .i64 b, .bool f] ++ jb) W fun e w' => e = .returned (.int .i64 (J a b f)) ∧ Below W.heap.size W w'
def impl_graph_int_tally.T10 : Bool × List (List Nat × List Nat) := (true, [([], []), ([], []), ([], []), ([], []), ([], []), ([4], [4]), ([], []), ([], []), ([], []), ([], []), ([3, 5, 6, 7, 8, 9], [3, 5, 6, 7, 8, 9]), ([], []), ([11], [11]), ([0, 1, 2, 10, 12, 10], [0, 1, 2, 10, 12]), ([13, 13, 0, 1, 2, 3, 4, 5, 6, 7, 8, 9, 10, 11, 12, 13], [2, 13])])
def impl_graph_int_tally.B10 : List Nat := [0, 0, 0, 0, 0, 16, 0, 0, 0, 0, 1016, 0, 2048, 8191, 16383]
theorem impl_graph_int_tally.T10_ : rtab .any (opsOf Try.f86 10) = impl_graph_int_tally.T10 := by kernel_rfl
theorem impl_graph_int_tally.B10_ : waitsOk impl_graph_int_tally.T10.2 impl_graph_int_tally.B10 = true := by kernel_rfl
set_option maxHeartbeats 8000000 in
set_option maxRecDepth 100000 in
theorem impl_graph_int_tally.on (fo : Nat) (cb : Array Value) (N : Int) (E : Int → List S110) (wb : World) (ee : ∀ args w, (callFunc fo args).run Try.prog w = .ok (.enter fo args) w) (hE : GOut fo cb N E wb)
    (jn : Nat) (jb : Array Value) (J : Int → Int → Bool → Int) (ej : ∀ args w, (callFunc jn args).run Try.prog w = .ok (.enter jn args) w) (hJ : JAsk jn jb J wb) (hJi : ∀ a b f, isI (J a b f))
    (Ad : Option Addr) (cd : Nat) (dist : List Int) (hD : (Kd.int .i64).C wb Ad dist.length dist) (last : Int) (hl : isI last) (b : Nat) (hbb : wb.heap.size ≤ b) (hN : N ≤ 1000000) (hf : tlFalls E N dist)
    (hbest : ∀ s, 0 ≤ s → s < N → impl_graph_int_best.f E N s dist = some (tlBest E dist s) ∧ (tlBest E dist s).length < 1000000) (hDN : (dist.length : Int) = N) (m : Nat)
    (hI : ∀ (s : Int) (W : World), 0 ≤ s → s < N → 0 ≤ rdOf 0 dist s → (rdOf 0 dist s).toNat < m → Below wb.heap.size wb W → tlMap N (tlT E dist J last) b W →
      Calls Try.prog 86 #[.agg #[.int .i64 N, .func (.func fo) #[] cb], .int .i64 s, .slice Ad dist.length cd, .map (some b), .func (.func jn) #[] jb, .int .i64 last] W fun e w' => e = .returned (.int .i64 (tlT E dist J last s)) ∧ tlMap N (tlT E dist J last) b w' ∧ W.grownBy w' (some b))
    (s : Int) (W : World) (h0 : 0 ≤ s) (h1 : s < N) (hds : 0 ≤ rdOf 0 dist s) (hm : (rdOf 0 dist s).toNat = m) (hW : Below wb.heap.size wb W) (hM : tlMap N (tlT E dist J last) b W) :
    Calls Try.prog 86 #[.agg #[.int .i64 N, .func (.func fo) #[] cb], .int .i64 s, .slice Ad dist.length cd, .map (some b), .func (.func jn) #[] jb, .int .i64 last] W fun e w' => e = .returned (.int .i64 (tlT E dist J last s)) ∧ tlMap N (tlT E dist J last) b w' ∧ W.grownBy w' (some b) := by
  have hu := Try.underlying68
  have hu2 := Try.underlying110
  obtain ⟨ad, rfl, hx0⟩ := Kd.at_int hD s h0 (by omega)
  have hx := pw_cell_below hW hx0
  have e0 : rd dist s = rdOf 0 dist s := rfl
  rw [e0] at hx
  have p0 := eq_true h0
  have p1 : (s < (dist.length : Int)) = True := eq_true (by omega)
  have HB := Aside0.mk hW
  have HG := Aside0.mk (World.grownBy.refl W (some b))
  obtain ⟨T, hT⟩ : ∃ T, T = tlT E dist J last := ⟨_, rfl⟩
  have hTz := tlT_zero (E := E) (dist := dist) (J := J) (last := last) s
  have hTn := tlT_eq (J := J) (last := last) hf s h0 h1
  rw [← hT] at hM hI hTz hTn ⊢
  have hTi : isI (T s) := by
    by_cases hz : rdOf 0 dist s = 0
    · rw [hTz hz]; exact hl
    · rw [hTn hz]; exact tlFold_isI hJi _ _ _ (by unfold isI; decide)
  have HSI := Aside0.mk (And.intro h0 (And.intro h1 hTi))
  have HI := Aside0.mk hI
  have HDN := Aside0.mk (And.intro hDN hN)
  clear hx0 e0 h0 h1 hI hl hTi hDN hN
  by_cases hz : rdOf 0 dist s = 0
  · have HM := Aside0.mk hM
    have z1 : (rdOf 0 dist s == 0) = true := beq_iff_eq.mpr hz
    have HT := Aside0.mk (hTz hz)
    clear hM hW hz hTz hTn hT hf hbest hE hJ hD hJi hm hds
    go_enter Try.func86, Try.ntmps86
    go_wp2_with ((with_reducible refine gate_dst (N := 6) rfl ?_); refine box_event ?hg (N := 6) ?hd (cs := #[.int .i64 N, .func (.func fo) #[] cb]) (t := 68) ?hr ?_; (case hd => rfl); (case hg => rfl); (case hr => first | (go_simp; done) | (go_simp; rfl)); intro gb6 hg w6 hbox hb; have hx2_ := pw_cell_below hb hx; have n9_ := Aside0.mk hbox; have n0_ := Aside0.mk (below_then HB.out HB.out.size hb); have n1_ := Aside0.mk (tlMap_grown HM.out hb); have n2_ := Aside0.mk (gr_below HG.out hb); clear HB HM HG hb hbox hx hg; have HB := n0_; have HM := n1_; have HG := n2_; clear n0_ n1_ n2_; have hx := hx2_; have BK6 := n9_; clear hx2_ n9_; have hz6_0 := (blk_cell BK6.out 0); have hz6_1 := (blk_cell BK6.out 1); simp at hz6_0; simp at hz6_1)
    first | go_ret | go_ret2
    exact ⟨by rw [HT.out]; rfl, tlMap_grown HM.out (by repeat (first | exact Below.refl _ _ | apply pw_below_drewN | apply below_drew1 | apply below_alloc)), gr_below HG.out (by repeat (first | exact Below.refl _ _ | apply pw_below_drewN | apply below_drew1 | apply below_alloc))⟩
  · have z1 : (rdOf 0 dist s == 0) = false := beq_eq_false_iff_ne.mpr hz
    obtain ⟨es, hown, hent⟩ := hM
    have HM := Aside0.mk (show tlMap N T b W from ⟨es, hown, hent⟩)
    have HOWN := Aside0.mk hown
    have HENT := Aside0.mk hent
    have hwf : (Lit.int .i64 s).wf = true := by
      have := HSI.out
      have := HDN.out
      simp [Lit.wf, IntKind.min, IntKind.max, IntKind.signed, IntKind.bits]
      omega
    have HWF := Aside0.mk hwf
    cases hh : Maps.has (.map es) (.int .i64 s)
    rotate_left
    · have HH := Aside0.mk hh
      clear hown hent hW hz hTz hTn hT hf hbest hE hJ hD hJi hm hds hh hwf
      go_enter Try.func86, Try.ntmps86
      go_wp2_with (first | ((with_reducible refine gate_dst (N := 6) rfl ?_); refine box_event ?hg (N := 6) ?hd (cs := #[.int .i64 N, .func (.func fo) #[] cb]) (t := 68) ?hr ?_; (case hd => rfl); (case hg => rfl); (case hr => first | (go_simp; done) | (go_simp; rfl)); intro gb6 hg w6 hbox hb; have hx2_ := pw_cell_below hb hx; have n9_ := Aside0.mk hbox; have n0_ := Aside0.mk (below_then HB.out HB.out.size hb); have n1_ := Aside0.mk (tlMap_grown HM.out hb); have n2_ := Aside0.mk (gr_below HG.out hb); have n3_ := Aside0.mk (own_below HOWN.out hb); clear HB HM HG HOWN hb hbox hx hg; have HB := n0_; have HM := n1_; have HG := n2_; have HOWN := n3_; clear n0_ n1_ n2_ n3_; have hx := hx2_; have BK6 := n9_; clear hx2_ n9_; have hz6_0 := (blk_cell BK6.out 0); have hz6_1 := (blk_cell BK6.out 1); simp at hz6_0; simp at hz6_1) | (at_lookup; go_loud (refine wpList_lookup_own_ok_int _ rfl (.tmp 25) (.tmp 26) 108 rfl 3 3 .i64 tl_keyed Try.underlying108 Try.underlying3 rfl b N.toNat (.map es) rfl HOWN.out _ (.int .i64 s) rfl (Maps.keyOf_int_mk Try.underlying3 HWF.out) ?_; intro c hat hwc; rw [HH.out]; have HC := Aside0.mk (show c = T s from (by have h_ := tlEnt_look HENT.out HH.out (.lit (.int .i64 0)); rw [hat] at h_; injection h_ with h_; injection h_)); clear hat hwc)))
      first | go_ret | go_ret2
      exact ⟨by rw [HC.out]; rfl, tlMap_grown HM.out (by repeat (first | exact Below.refl _ _ | apply pw_below_drewN | apply below_drew1 | apply below_alloc)), gr_below HG.out (by repeat (first | exact Below.refl _ _ | apply pw_below_drewN | apply below_drew1 | apply below_alloc))⟩
    · have HH := Aside0.mk hh
      have HTN := Aside0.mk (hTn hz)
      obtain ⟨bs, hbs⟩ : ∃ bs, bs = tlBest E dist s := ⟨_, rfl⟩
      rw [← hbs] at HTN
      have HBEST := Aside0.mk fun (W' : World) (h : Below wb.heap.size wb W') => impl_graph_int_best.calls fo cb N E wb W' ee hE h s (some ad) cd dist bs (Kd.C_below hD h) (by rw [hbs]; exact (hbest s HSI.out.1 HSI.out.2.1).1)
      have HBL := Aside0.mk (show bs.length < 1000000 from by rw [hbs]; exact (hbest s HSI.out.1 HSI.out.2.1).2)
      have HF := Aside0.mk (show ∀ e ∈ bs, (0 ≤ e.f0 ∧ e.f0 < N) ∧ 0 ≤ rdOf 0 dist e.f0 ∧ (rdOf 0 dist e.f0).toNat < m from fun e he => by
        have h_ := hf s HSI.out.1 HSI.out.2.1 e (by rw [← hbs]; exact he)
        exact ⟨h_.1, h_.2.1, by have := h_.2.2; omega⟩)
      have HJ := Aside0.mk hJ
      have HJI := Aside0.mk hJi
      have HBB := Aside0.mk hbb
      clear hown hent hW hz hTz hTn hT hf hbest hE hJ hD hJi hm hds hh hwf hbs hbb
      go_enter Try.func86, Try.ntmps86
      go_wp2_with (first | ((with_reducible refine gate_dst (N := 6) rfl ?_); refine box_event ?hg (N := 6) ?hd (cs := #[.int .i64 N, .func (.func fo) #[] cb]) (t := 68) ?hr ?_; (case hd => rfl); (case hg => rfl); (case hr => first | (go_simp; done) | (go_simp; rfl)); intro gb6 hg w6 hbox hb; have hx2_ := pw_cell_below hb hx; have n9_ := Aside0.mk hbox; have n0_ := Aside0.mk (below_then HB.out HB.out.size hb); have n1_ := Aside0.mk (tlMap_grown HM.out hb); have n2_ := Aside0.mk (gr_below HG.out hb); have n3_ := Aside0.mk (own_below HOWN.out hb); clear HB HM HG HOWN hb hbox hx hg; have HB := n0_; have HM := n1_; have HG := n2_; have HOWN := n3_; clear n0_ n1_ n2_ n3_; have hx := hx2_; have BK6 := n9_; clear hx2_ n9_; have hz6_0 := (blk_cell BK6.out 0); have hz6_1 := (blk_cell BK6.out 1); simp at hz6_0; simp at hz6_1) | (at_lookup; go_loud (refine wpList_lookup_own_ok_int _ rfl (.tmp 25) (.tmp 26) 108 rfl 3 3 .i64 tl_keyed Try.underlying108 Try.underlying3 rfl b N.toNat (.map es) rfl HOWN.out _ (.int .i64 s) rfl (Maps.keyOf_int_mk Try.underlying3 HWF.out) ?_; intro c hat hwc; rw [HH.out]; clear hat hwc)) | (go_at_call 111; refine (HBEST.out _ HB.out).mono ?_; rintro e w35 ⟨v35, rfl, ho, hb⟩; obtain ⟨Ae, ce, rfl⟩ := Kd.S_slice ho; have HED := Aside0.mk (frEd_of ho); have n0_ := Aside0.mk (blk_below (pk BK6.out) hb); have n1_ := Aside0.mk (below_then HB.out HB.out.size hb); have n2_ := Aside0.mk (tlMap_grown HM.out hb); have n3_ := Aside0.mk (gr_below HG.out hb); clear BK6 HB HM HG hb ho; have BK6 := n0_; have HB := n1_; have HM := n2_; have HG := n3_; clear n0_ n1_ n2_ n3_))
      go_loopg [15, 37] bs.length (fun gg v15 v37 wr => ∃ (j : Nat) (nn : Int), v15 = .int .i64 nn ∧ v37 = .int .i64 (j : Int) ∧ Aside0 (j ≤ bs.length ∧ bs.length - j ≤ gg) ∧ Aside0 (tlFold J T (bs.drop j) j nn = T s) ∧ Aside0 (frEd wr Ae bs) ∧ Aside0 (wr.heap[gb6]? = some (.cells #[.int .i64 N, .func (.func fo) #[] cb] 68 (0, 0))) ∧ Aside0 (tlMap N T b wr) ∧ Aside0 (W.grownBy wr (some b)) ∧ Aside0 (Below wb.heap.size wb wr))
      case atStart => exact ⟨0, 0, rfl, rfl, ⟨⟨Nat.zero_le _, Nat.le_refl _⟩⟩, ⟨HTN.out.symm⟩, HED, ⟨pk BK6.out⟩, ⟨tlMap_grown HM.out (by repeat (first | exact Below.refl _ _ | apply pw_below_drewN | apply below_drew1 | apply below_alloc))⟩, ⟨gr_below HG.out (by repeat (first | exact Below.refl _ _ | apply pw_below_drewN | apply below_drew1 | apply below_alloc))⟩, ⟨below_then HB.out HB.out.size (by repeat (first | exact Below.refl _ _ | apply pw_below_drewN | apply below_drew1 | apply below_alloc))⟩⟩
      case round =>
        clear HTN HED BK6 HM HG HB HOWN HENT HH
        obtain ⟨j, nn, rfl, rfl, HJ1, HFO, HED, BK6, HM, HG, HB⟩ := hrel
        by_cases hj : j < bs.length
        · have j1 : decide ((j : Int) < (bs.length : Int)) = true := decide_eq_true (by omega)
          have j1n : decide (j < bs.length) = true := decide_eq_true hj
          have j0p : ((0 : Int) ≤ (j : Int)) = True := eq_true (by omega)
          have j1p : ((j : Int) < (bs.length : Int)) = True := eq_true (by omega)
          rcases HED.out with h0 | ⟨ge, cl, rfl, hbe, hcl⟩
          · exact absurd h0 (by omega)
          have BKE := Aside0.mk hbe
          have HCL := Aside0.mk hcl
          obtain ⟨A2, n2, c2, he0, he1, he2⟩ := hcl (j : Int) (by omega) (by omega)
          rw [Int.toNat_natCast] at he0 he1 he2
          rw [← blk_cell hbe] at he0 he1 he2
          obtain ⟨e, he⟩ : ∃ e, e = rd_T110 bs (j : Int) := ⟨_, rfl⟩
          rw [← he] at he0 he1
          have heq : bs[j] = e := by rw [he]; unfold rd_T110; rw [Int.toNat_natCast, List.getD_eq_getElem?_getD, List.getElem?_eq_getElem hj]; rfl
          have h := HFO.out
          rw [List.drop_eq_getElem_cons hj, heq] at h
          simp only [tlFold] at h
          have HEF := Aside0.mk (HF.out e (by rw [← heq]; exact List.getElem_mem hj))
          have hw37 : IntKind.i64.wrap ((j : Int) + 1) = ((j + 1 : Nat) : Int) := by have := HBL.out; rw [IntWalk.i64_in _ ⟨by omega, by omega⟩]; omega
          have HF2 := Aside0.mk h
          have HJJ := Aside0.mk hj
          clear h hbe hcl he heq HFO hj HED
          go_upto_region 10 with (fail)
          obtain ⟨w17, hw17⟩ : ∃ W, W = wr.alloc (.cells #[.int .i64 e.f0, .int .i64 e.f1, .slice A2 n2 c2] 110) := ⟨_, rfl⟩
          have hb : Below wr.heap.size wr w17 := (by rw [hw17]; exact below_alloc (Below.refl _ _) _)
          have hbk : w17.heap[wr.heap.size]? = some (.cells #[.int .i64 e.f0, .int .i64 e.f1, .slice A2 n2 c2] 110 (0, 0)) := (by rw [hw17]; exact blk_new wr _)
          rw [← hw17]
          clear hw17 he0 he1 he2
          have n0_ := Aside0.mk (blk_below BK6.out hb); have n1_ := Aside0.mk (blk_below BKE.out hb); have n2_ := Aside0.mk (below_then HB.out HB.out.size hb); have n3_ := Aside0.mk (tlMap_grown HM.out hb); have n4_ := Aside0.mk (gr_below HG.out hb); clear BK6 BKE HB HM HG hb; have BK6 := n0_; have BKE := n1_; have HB := n2_; have HM := n3_; have HG := n4_; clear n0_ n1_ n2_ n3_ n4_
          obtain ⟨gb17, hg17⟩ : ∃ g, g = wr.heap.size := ⟨_, rfl⟩
          rw [← hg17] at hbk ⊢
          have BK17 := Aside0.mk hbk
          clear hbk hg17
          have n0_ := Aside0.mk (blk_drew BK6.out); have n1_ := Aside0.mk (blk_drew BKE.out); have n2_ := Aside0.mk (blk_drew BK17.out); have n3_ := Aside0.mk (tlMap_grown HM.out (below_drew (Below.refl _ _))); have n4_ := Aside0.mk (gr_below HG.out (below_drew (Below.refl _ _))); have n5_ := Aside0.mk (below_drew1 HB.out); clear BK6 BKE BK17 HM HG HB; have BK6 := n0_; have BKE := n1_; have BK17 := n2_; have HM := n3_; have HG := n4_; have HB := n5_; clear n0_ n1_ n2_ n3_ n4_ n5_
          refine start_ (n := 15) (S := fun w' => w'.cell? ⟨gb17, 0, none⟩ = some (.int .i64 e.f0) ∧ w'.cell? ⟨gb17, 1, none⟩ = some (.int .i64 e.f1) ∧ w'.cell? ⟨gb17, 2, none⟩ = some (.slice A2 n2 c2) ∧ w'.cell? ⟨gb6, 0, none⟩ = some (.int .i64 N) ∧ w'.cell? ⟨gb6, 1, none⟩ = some (.func (.func fo) #[] cb)) (ds := []) #[false, false, false, false, false, false, false, false, false, false, false, false, false, false, false] (by kernel_rfl) rfl rfl ⟨(blk_cell BK17.out 0).trans rfl, (blk_cell BK17.out 1).trans rfl, (blk_cell BK17.out 2).trans rfl, (blk_cell BK6.out 0).trans rfl, (blk_cell BK6.out 1).trans rfl⟩ (fun hHeld => ?_); refine with_tabW impl_graph_int_tally.T10_ impl_graph_int_tally.B10_ (fun HT_ HW_ => ?_)
          generalize w17.drew = w9 at BK6 BKE BK17 HM HG HB hHeld ⊢
          refine pure_ (i := 0) (N := some 42) (v := ?_) (a' := ?_) #[true, false, false, false, false, false, false, false, false, false, false, false, false, false, false] rfl rfl (any_of HT_.out (by kernel_rfl)) (fun _ _ _ h => h) (Or.inl ⟨by rfl, ?_⟩) ?_ ?_
          rotate_left
          · intro w'
            go_simp
            with_reducible rfl
          rotate_left
          · simp only [Act.put, List.setIfInBounds_toArray, List.set_cons_zero, List.set_cons_succ, i64_w, i32_w]
            rfl
          refine take_ (i := 1) (N := some 43) (v := ?_) (a' := ?_) #[true, true, false, false, false, false, false, false, false, false, false, false, false, false, false] rfl rfl (take_ofW HT_.out HW_.out (by kernel_rfl)) (fun _ _ _ h => h) (Or.inl ⟨by rfl, ?_⟩) hHeld ?_ ?_
          rotate_left
          · rintro w' ⟨s0, s1, s2, s3, s4⟩
            go_simp
            with_reducible rfl
          rotate_left
          · simp only [Act.put, List.setIfInBounds_toArray, List.set_cons_zero, List.set_cons_succ, i64_w, i32_w]
            rfl
          refine pure_ (i := 2) (N := some 44) (v := ?_) (a' := ?_) #[true, true, true, false, false, false, false, false, false, false, false, false, false, false, false] rfl rfl (any_of HT_.out (by kernel_rfl)) (fun _ _ _ h => h) (Or.inl ⟨by rfl, ?_⟩) ?_ ?_
          rotate_left
          · intro w'
            go_simp
            with_reducible rfl
          rotate_left
          · simp only [Act.put, List.setIfInBounds_toArray, List.set_cons_zero, List.set_cons_succ, i64_w, i32_w]
            rfl
          refine take_ (i := 3) (N := some 45) (v := ?_) (a' := ?_) #[true, true, true, true, false, false, false, false, false, false, false, false, false, false, false] rfl rfl (take_ofW HT_.out HW_.out (by kernel_rfl)) (fun _ _ _ h => h) (Or.inl ⟨by rfl, ?_⟩) hHeld ?_ ?_
          rotate_left
          · rintro w' ⟨s0, s1, s2, s3, s4⟩
            go_simp
            with_reducible rfl
          rotate_left
          · simp only [Act.put, List.setIfInBounds_toArray, List.set_cons_zero, List.set_cons_succ, i64_w, i32_w]
            rfl
          refine pure_ (i := 4) (N := some 46) (v := ?_) (a' := ?_) #[true, true, true, true, true, false, false, false, false, false, false, false, false, false, false] rfl rfl (any_of HT_.out (by kernel_rfl)) (fun _ _ _ h => h) (Or.inl ⟨by rfl, ?_⟩) ?_ ?_
          rotate_left
          · intro w'
            go_simp
            with_reducible rfl
          rotate_left
          · simp only [Act.put, List.setIfInBounds_toArray, List.set_cons_zero, List.set_cons_succ, i64_w, i32_w]
            rfl
          refine take_ (i := 5) (N := some 47) (v := ?_) (a' := ?_) #[true, true, true, true, true, true, false, false, false, false, false, false, false, false, false] rfl rfl (take_ofW HT_.out HW_.out (by kernel_rfl)) (fun _ _ _ h => h) (Or.inl ⟨by rfl, ?_⟩) hHeld ?_ ?_
          rotate_left
          · rintro w' ⟨s0, s1, s2, s3, s4⟩
            go_simp
            with_reducible rfl
          rotate_left
          · simp only [Act.put, List.setIfInBounds_toArray, List.set_cons_zero, List.set_cons_succ, i64_w, i32_w]
            rfl
          refine pure_ (i := 6) (N := some 48) (v := ?_) (a' := ?_) #[true, true, true, true, true, true, true, false, false, false, false, false, false, false, false] rfl rfl (any_of HT_.out (by kernel_rfl)) (fun _ _ _ h => h) (Or.inl ⟨by rfl, ?_⟩) ?_ ?_
          rotate_left
          · intro w'
            go_simp
            with_reducible rfl
          rotate_left
          · simp only [Act.put, List.setIfInBounds_toArray, List.set_cons_zero, List.set_cons_succ, i64_w, i32_w]
            rfl
          refine pure_ (i := 7) (N := some 49) (v := ?_) (a' := ?_) #[true, true, true, true, true, true, true, true, false, false, false, false, false, false, false] rfl rfl (any_of HT_.out (by kernel_rfl)) (fun _ _ _ h => h) (Or.inl ⟨by rfl, ?_⟩) ?_ ?_
          rotate_left
          · intro w'
            go_simp
            with_reducible rfl
          rotate_left
          · simp only [Act.put, List.setIfInBounds_toArray, List.set_cons_zero, List.set_cons_succ, i64_w, i32_w]
            rfl
          refine pure_ (i := 8) (N := some 50) (v := ?_) (a' := ?_) #[true, true, true, true, true, true, true, true, true, false, false, false, false, false, false] rfl rfl (any_of HT_.out (by kernel_rfl)) (fun _ _ _ h => h) (Or.inl ⟨by rfl, ?_⟩) ?_ ?_
          rotate_left
          · intro w'
            go_simp
            with_reducible rfl
          rotate_left
          · simp only [Act.put, List.setIfInBounds_toArray, List.set_cons_zero, List.set_cons_succ, i64_w, i32_w]
            rfl
          refine pure_ (i := 9) (N := some 51) (v := ?_) (a' := ?_) #[true, true, true, true, true, true, true, true, true, true, false, false, false, false, false] rfl rfl (any_of HT_.out (by kernel_rfl)) (fun _ _ _ h => h) (Or.inl ⟨by rfl, ?_⟩) ?_ ?_
          rotate_left
          · intro w'
            go_simp
            with_reducible rfl
          rotate_left
          · simp only [Act.put, List.setIfInBounds_toArray, List.set_cons_zero, List.set_cons_succ, i64_w, i32_w]
            rfl
          refine pure_ (i := 11) (N := some 53) (v := ?_) (a' := ?_) #[true, true, true, true, true, true, true, true, true, true, false, true, false, false, false] rfl rfl (any_of HT_.out (by kernel_rfl)) (fun _ _ _ h => h) (Or.inl ⟨by rfl, ?_⟩) ?_ ?_
          rotate_left
          · intro w'
            go_simp
            with_reducible rfl
          rotate_left
          · simp only [Act.put, List.setIfInBounds_toArray, List.set_cons_zero, List.set_cons_succ, i64_w, i32_w]
            rfl
          refine pure_ (i := 12) (N := some 54) (v := ?_) (a' := ?_) #[true, true, true, true, true, true, true, true, true, true, false, true, true, false, false] rfl rfl (any_of HT_.out (by kernel_rfl)) (fun _ _ _ h => h) (Or.inl ⟨by rfl, ?_⟩) ?_ ?_
          rotate_left
          · intro w'
            go_simp
            with_reducible rfl
          rotate_left
          · simp only [Act.put, List.setIfInBounds_toArray, List.set_cons_zero, List.set_cons_succ, i64_w, i32_w]
            rfl
          refine one_ (i := 10) (N := some 52) #[true, true, true, true, true, true, true, true, true, true, true, true, true, false, false] rfl rfl (one_of HT_.out (by kernel_rfl)) (by decide) (fun K hK => ?_)
          refine goes_ Try.func86 (by kernel_rfl) rfl #[.agg #[.int .i64 N, .func (.func fo) #[] cb], .int .i64 e.f0, .slice (some ad) dist.length cd, .map (some b), .func (.func jn) #[] jb, .int .i64 last] (by rfl) rfl rfl (by (try simp only [List.map_toArray, List.map_cons, List.map_nil]); first | done | rfl | (simp only [List.length_drop, List.length_take]; rfl)) ?_
          refine (HI.out e.f0 _ HEF.out.1.1 HEF.out.1.2 HEF.out.2.1 HEF.out.2.2 HB.out HM.out).mono ?_
          rintro e_ w10 ⟨rfl, hm2, hg2⟩
          refine ⟨_, rfl, ?_⟩
          have n0_ := Aside0.mk (blk_grown BK6.out hg2 (tl_ne HM.out BK6.out)); have n1_ := Aside0.mk (blk_grown BKE.out hg2 (tl_ne HM.out BKE.out)); have n2_ := Aside0.mk (blk_grown BK17.out hg2 (tl_ne HM.out BK17.out)); have n3_ := Aside0.mk (gr_gr HG.out hg2); have n4_ := Aside0.mk (tl_below HB.out hg2 HBB.out); have n5_ := Aside0.mk (hm2); clear BK6 BKE BK17 HG HB HM hm2 hg2; have BK6 := n0_; have BKE := n1_; have BK17 := n2_; have HG := n3_; have HB := n4_; have HM := n5_; clear n0_ n1_ n2_ n3_ n4_ n5_
          refine hK.out _ _ ⟨(blk_cell BK17.out 0).trans rfl, (blk_cell BK17.out 1).trans rfl, (blk_cell BK17.out 2).trans rfl, (blk_cell BK6.out 0).trans rfl, (blk_cell BK6.out 1).trans rfl⟩ (fun hHeld => ?_)
          clear hK K
          refine norm_ (a' := ?_) ?_ ?_
          rotate_left
          · show Act.put _ (some 52) _ = _
            simp only [Act.put, List.setIfInBounds_toArray, List.set_cons_zero, List.set_cons_succ, i64_w, i32_w]
            rfl
          refine one_ (i := 13) (N := some 55) #[true, true, true, true, true, true, true, true, true, true, true, true, true, true, false] rfl rfl (one_of HT_.out (by kernel_rfl)) (by decide) (fun K hK => ?_)
          refine goesv_ (.tmp 42) jb (#[.agg #[.int .i64 e.f0, .int .i64 e.f1, .slice A2 n2 c2], .int .i64 nn, .int .i64 (T e.f0), .bool ((j : Int) == 0)] ++ jb) rfl (ej _ _) (by rfl) rfl rfl (by simp only [List.map_toArray, List.map_cons, List.map_nil]; rfl) ?_
          refine (HJ.out _ ⟨e.f0, e.f1, A2, n2, c2⟩ nn (T e.f0) ((j : Int) == 0) HB.out).mono ?_
          rintro e_ w11 ⟨rfl, hb2⟩
          refine ⟨_, rfl, ?_⟩
          have n0_ := Aside0.mk (blk_below BK6.out hb2); have n1_ := Aside0.mk (blk_below BKE.out hb2); have n2_ := Aside0.mk (blk_below BK17.out hb2); have n3_ := Aside0.mk (tlMap_grown HM.out hb2); have n4_ := Aside0.mk (gr_below HG.out hb2); have n5_ := Aside0.mk (below_then HB.out HB.out.size hb2); clear BK6 BKE BK17 HM HG HB hb2; have BK6 := n0_; have BKE := n1_; have BK17 := n2_; have HM := n3_; have HG := n4_; have HB := n5_; clear n0_ n1_ n2_ n3_ n4_ n5_
          refine hK.out _ _ ⟨(blk_cell BK17.out 0).trans rfl, (blk_cell BK17.out 1).trans rfl, (blk_cell BK17.out 2).trans rfl, (blk_cell BK6.out 0).trans rfl, (blk_cell BK6.out 1).trans rfl⟩ (fun hHeld => ?_)
          clear hK K
          refine norm_ (a' := ?_) ?_ ?_
          rotate_left
          · show Act.put _ (some 55) _ = _
            simp only [Act.put, List.setIfInBounds_toArray, List.set_cons_zero, List.set_cons_succ, i64_w, i32_w]
            rfl
          refine pure_ (i := 14) (N := some 15) (v := ?_) (a' := ?_) #[true, true, true, true, true, true, true, true, true, true, true, true, true, true, true] rfl rfl (any_of HT_.out (by kernel_rfl)) (fun _ _ _ h => h) (Or.inl ⟨by rfl, ?_⟩) ?_ ?_
          rotate_left
          · intro w'
            go_simp
            with_reducible rfl
          rotate_left
          · simp only [Act.put, List.setIfInBounds_toArray, List.set_cons_zero, List.set_cons_succ, i64_w, i32_w]
            rfl
          refine done_ (done_of HT_.out (by kernel_rfl)) ?_
          try go_wp2
          go_roundg (bs.length - (j + 1))
          case measure => have := HJ1.out; have := HJJ.out; omega
          case rel => exact ⟨j + 1, J nn (T e.f0) ((j : Int) == 0), rfl, (by first | rfl | (simp; done)), ⟨⟨by have := HJJ.out; omega, Nat.le_refl _⟩⟩, HF2, ⟨.inr ⟨ge, cl, rfl, pk BKE.out, HCL.out⟩⟩, ⟨pk BK6.out⟩, ⟨tlMap_grown HM.out (by repeat (first | exact Below.refl _ _ | apply pw_below_drewN | apply below_drew1 | apply below_alloc))⟩, ⟨gr_below HG.out (by repeat (first | exact Below.refl _ _ | apply pw_below_drewN | apply below_drew1 | apply below_alloc))⟩, ⟨below_then HB.out HB.out.size (by repeat (first | exact Below.refl _ _ | apply pw_below_drewN | apply below_drew1 | apply below_alloc))⟩⟩
        · have j1 : decide ((j : Int) < (bs.length : Int)) = false := decide_eq_false (by omega)
          have j1n : decide (j < bs.length) = false := decide_eq_false hj
          have h := HFO.out
          rw [List.drop_of_length_le (by omega)] at h
          have HNN := Aside0.mk (show nn = T s from h)
          clear h HFO hj
          obtain ⟨es2, hown2, hent2⟩ := HM.out
          obtain ⟨es3, e3, hent3⟩ := tlEnt_put hent2 HSI.out.1 HSI.out.2.1
          have HOWN2 := Aside0.mk hown2
          have HENT3 := Aside0.mk hent3
          have HE3 := Aside0.mk e3
          clear hown2 hent2 hent3 e3 HM
          go_wp2_with (at_mapUpdate; go_loud (refine wpList_mapUpdate_own _ rfl (.tmp 57) (.tmp 58) (.tmp 59) 108 rfl 3 3 tl_keyed Try.underlying108 (plainElem Try.prog 3) b N.toNat (.map es2) rfl HOWN2.out ?hn _ _ (.int .i64 s) rfl rfl (Maps.keyOf_int_mk Try.underlying3 HWF.out) (.lit (.int .i64 (T s))) [] ?hval ?_; (case hn => (have := HDN.out; unfold maxLen; omega)); (case hval => (rw [HNN.out]; exact plainElem_int Try.underlying3 HSI.out.2.2)); intro w12 hown3 hgr; rw [HE3.out] at hown3; have HM := Aside0.mk (tlMap_of hown3 HENT3.out); have n0_ := Aside0.mk (gr_gr HG.out hgr); clear HG hgr hown3; have HG := n0_; clear n0_))
          first | go_ret | go_ret2
          exact ⟨by rw [← HNN.out]; rfl, tlMap_grown HM.out (by repeat (first | exact Below.refl _ _ | apply pw_below_drewN | apply below_drew1 | apply below_alloc)), gr_below HG.out (by repeat (first | exact Below.refl _ _ | apply pw_below_drewN | apply below_drew1 | apply below_alloc))⟩
theorem impl_graph_int_tally.calls (fo : Nat) (cb : Array Value) (N : Int) (E : Int → List S110) (wb : World) (ee : ∀ args w, (callFunc fo args).run Try.prog w = .ok (.enter fo args) w) (hE : GOut fo cb N E wb)
    (jn : Nat) (jb : Array Value) (J : Int → Int → Bool → Int) (ej : ∀ args w, (callFunc jn args).run Try.prog w = .ok (.enter jn args) w) (hJ : JAsk jn jb J wb) (hJi : ∀ a b f, isI (J a b f))
    (Ad : Option Addr) (cd : Nat) (dist : List Int) (hD : (Kd.int .i64).C wb Ad dist.length dist) (last : Int) (hl : isI last) (b : Nat) (hbb : wb.heap.size ≤ b) (hN : N ≤ 1000000) (hf : tlFalls E N dist)
    (hbest : ∀ s, 0 ≤ s → s < N → impl_graph_int_best.f E N s dist = some (tlBest E dist s) ∧ (tlBest E dist s).length < 1000000) (hDN : (dist.length : Int) = N) (m : Nat) :
    ∀ (s : Int) (W : World), 0 ≤ s → s < N → 0 ≤ rdOf 0 dist s → (rdOf 0 dist s).toNat = m → Below wb.heap.size wb W → tlMap N (tlT E dist J last) b W →
      Calls Try.prog 86 #[.agg #[.int .i64 N, .func (.func fo) #[] cb], .int .i64 s, .slice Ad dist.length cd, .map (some b), .func (.func jn) #[] jb, .int .i64 last] W fun e w' => e = .returned (.int .i64 (tlT E dist J last s)) ∧ tlMap N (tlT E dist J last) b w' ∧ W.grownBy w' (some b) := by
  induction m using Nat.strongRecOn with
  | _ m ih =>
    intro s W h0 h1 hds hm hW hM
    exact impl_graph_int_tally.on fo cb N E wb ee hE jn jb J ej hJ hJi Ad cd dist hD last hl b hbb hN hf hbest hDN m (fun s' W' a0 a1 a2 a3 a4 a5 => ih _ a3 s' W' a0 a1 a2 rfl a4 a5) s W h0 h1 hds hm hW hM

/-! ### impl_graph_int_count: function 43, its closure -/
def grOk (E : Int → List S110) (N : Int) (s : Int) (dist : List Int) : Bool :=
  decide (N ≤ 1000000) && (decide (0 ≤ s) && (decide (s < N) && (decide ((dist.length : Int) = N) && (decide (0 ≤ rdOf 0 dist s) && (dist.all (fun x => decide (x < 1000000000000)) &&
    (List.range N.toNat).all fun i => decide ((E (i : Int)).length < 1000000) && (E (i : Int)).all fun e => decide (0 ≤ e.f0) && (decide (e.f0 < N) && (decide (1 ≤ e.f1) && decide (e.f1 < 1000000))))))))
structure GrOk (E : Int → List S110) (N : Int) (s : Int) (dist : List Int) : Prop where
  n : N ≤ 1000000
  s0 : 0 ≤ s
  s1 : s < N
  len : (dist.length : Int) = N
  ds : 0 ≤ rdOf 0 dist s
  d : ∀ x ∈ dist, x < 1000000000000
  e : ∀ t, 0 ≤ t → t < N → (E t).length < 1000000 ∧ ∀ e ∈ E t, 0 ≤ e.f0 ∧ e.f0 < N ∧ 1 ≤ e.f1 ∧ e.f1 < 1000000
theorem grOk_iff {E : Int → List S110} {N : Int} {s : Int} {dist : List Int} (h : grOk E N s dist = true) : GrOk E N s dist := by
  unfold grOk at h
  simp only [Bool.and_eq_true, decide_eq_true_eq, List.all_eq_true, List.mem_range] at h
  obtain ⟨h1, h2, h3, h4, h5, h6, h7⟩ := h
  refine ⟨h1, h2, h3, h4, h5, h6, fun t t0 t1 => ?_⟩
  have h8 := h7 t.toNat (by omega)
  rw [Int.toNat_of_nonneg t0] at h8
  exact ⟨h8.1, fun e he => h8.2 e he⟩
theorem rdOf_mem {dist : List Int} {t : Int} (h0 : 0 ≤ t) (h1 : t < (dist.length : Int)) : rdOf 0 dist t ∈ dist := by
  unfold rdOf
  rw [List.getD_eq_getElem?_getD, List.getElem?_eq_getElem (by omega)]
  exact List.getElem_mem _
theorem GrOk.falls {E : Int → List S110} {N : Int} {s : Int} {dist : List Int} (h : GrOk E N s dist) : tlFalls E N dist := by
  intro t t0 t1 e he
  unfold tlBest at he
  rw [List.mem_filter] at he
  obtain ⟨hm, ho⟩ := he
  obtain ⟨a0, a1, a2, a3⟩ := (h.e t t0 t1).2 e hm
  have hd := h.d _ (rdOf_mem a0 (by rw [h.len]; exact a1))
  simp only [offWay, Bool.not_eq_true', Bool.or_eq_false_iff, decide_eq_false_iff_not, bne_eq_false_iff_eq] at ho
  obtain ⟨o1, o2⟩ := ho
  have hw : wrap64 (rdOf 0 dist e.f0 + e.f1) = rdOf 0 dist e.f0 + e.f1 := by unfold wrap64; omega
  rw [hw] at o2
  exact ⟨⟨a0, a1⟩, by omega, by omega⟩
theorem GrOk.best {E : Int → List S110} {N : Int} {s : Int} {dist : List Int} (h : GrOk E N s dist) (t : Int) (t0 : 0 ≤ t) (t1 : t < N) : impl_graph_int_best.f E N t dist = some (tlBest E dist t) ∧ (tlBest E dist t).length < 1000000 := by
  obtain ⟨a, b⟩ := h.e t t0 t1
  unfold impl_graph_int_best.f
  rw [if_pos ⟨t0, t1, h.len, a⟩, if_pos (List.all_eq_true.2 (fun e he => by have := b e he; simp only [Bool.and_eq_true, decide_eq_true_eq]; exact ⟨this.1, this.2.1⟩))]
  exact ⟨rfl, Nat.lt_of_le_of_lt (List.length_filter_le _ _) a⟩
theorem GOut.up {fo : Nat} {cb : Array Value} {N : Int} {E : Int → List S110} {w w0 : World} (h : GOut fo cb N E w) (hb : Below w.heap.size w w0) : GOut fo cb N E w0 := fun W s hW => h W s (below_then hb hb.size hW)
/-! Edges that a function with rounds tells. -/
theorem frRun_congr {E E' : Int → List S110} {N : Int} (h : ∀ s, 0 ≤ s → s < N → E s = E' s) : ∀ k d i dist w, frRun E N k d i dist w = frRun E' N k d i dist w
  | 0, _, _, _, _ => rfl
  | k + 1, d, i, dist, w => by
    rw [frRun.eq_2, frRun.eq_2]
    by_cases hs : 0 ≤ rdOf 0 (w.getD d []) (i : Int) ∧ rdOf 0 (w.getD d []) (i : Int) < N
    · rw [h _ hs.1 hs.2]
      simp only [frRun_congr h k]
    · have e1 : ¬ (0 ≤ rdOf 0 (w.getD d []) (i : Int) ∧ rdOf 0 (w.getD d []) (i : Int) < N ∧ i < 1000000 ∧ d < 1000000 ∧ (E (rdOf 0 (w.getD d []) (i : Int))).length < 1000000) := fun hc => hs ⟨hc.1, hc.2.1⟩
      have e2 : ¬ (0 ≤ rdOf 0 (w.getD d []) (i : Int) ∧ rdOf 0 (w.getD d []) (i : Int) < N ∧ i < 1000000 ∧ d < 1000000 ∧ (E' (rdOf 0 (w.getD d []) (i : Int))).length < 1000000) := fun hc => hs ⟨hc.1, hc.2.1⟩
      simp only [if_neg e1, if_neg e2, frRun_congr h k]
theorem tlV_congr {E E' : Int → List S110} {N : Int} {dist : List Int} {J : Int → Int → Bool → Int} {last : Int} (h : ∀ s, 0 ≤ s → s < N → E s = E' s) (hf : tlFalls E N dist) : ∀ k s, 0 ≤ s → s < N → tlV E dist J last k s = tlV E' dist J last k s
  | 0, _, _, _ => rfl
  | k + 1, s, s0, s1 => by
    unfold tlV
    have e : tlBest E' dist s = tlBest E dist s := by unfold tlBest; rw [h s s0 s1]
    rw [e]
    split
    · rfl
    · exact tlFold_same _ _ _ (fun x hx => tlV_congr h hf k x.f0 (hf s s0 s1 x hx).1.1 (hf s s0 s1 x hx).1.2)
theorem grOk_congr {E E' : Int → List S110} {N : Int} {s : Int} {dist : List Int} (h : ∀ s, 0 ≤ s → s < N → E s = E' s) : grOk E N s dist = grOk E' N s dist := by
  unfold grOk
  have e : ∀ i ∈ List.range N.toNat, E (i : Int) = E' (i : Int) := fun i hi => h i (by omega) (by rw [List.mem_range] at hi; omega)
  congr 6
  refine Bool.eq_iff_iff.2 ?_
  rw [List.all_eq_true, List.all_eq_true]
  constructor
  · intro h2 i hi
    rw [← e i hi]; exact h2 i hi
  · intro h2 i hi
    rw [e i hi]; exact h2 i hi
def grE (g : Int → Option (List S110)) : Int → List S110 := fun s => (g s).getD []
def grAll (g : Int → Option (List S110)) (N : Int) : Bool := (List.range N.toNat).all fun i => (g (i : Int)).isSome
theorem grAll_at {g : Int → Option (List S110)} {N : Int} (h : grAll g N = true) (s : Int) (s0 : 0 ≤ s) (s1 : s < N) : g s = some (grE g s) := by
  have h2 := List.all_eq_true.1 h s.toNat (List.mem_range.2 (by omega))
  rw [Int.toNat_of_nonneg s0] at h2
  unfold grE
  cases hg : g s with
  | none => rw [hg] at h2; exact absurd h2 (by simp)
  | some r => rfl
theorem grAll_le {g g' : Int → Option (List S110)} {N : Int} (hg : ∀ s, LeO (g s) (g' s)) (h : grAll g N = true) : grAll g' N = true ∧ ∀ s, 0 ≤ s → s < N → grE g s = grE g' s := by
  have h2 : ∀ s, 0 ≤ s → s < N → g' s = some (grE g s) := fun s s0 s1 => hg s _ (grAll_at h s s0 s1)
  refine ⟨List.all_eq_true.2 (fun i hi => ?_), fun s s0 s1 => ?_⟩
  · rw [h2 i (by omega) (by rw [List.mem_range] at hi; omega)]; rfl
  · show grE g s = (g' s).getD []
    rw [h2 s s0 s1]; rfl
def frG (g : Int → Option (List S110)) (k : Nat) (N : Int) (starts : List Int) : Option (List Int) := if grAll g N = true then impl_graph_int_from.f (grE g) k N starts else none
theorem frG_mono {g g' : Int → Option (List S110)} (hg : ∀ s, LeO (g s) (g' s)) (k : Nat) (N : Int) (starts : List Int) : LeO (frG g k N starts) (frG g' (k + 1) N starts) := by
  intro r h
  unfold frG at h ⊢
  by_cases ha : grAll g N = true
  · rw [if_pos ha] at h
    obtain ⟨h1, h2⟩ := grAll_le hg ha
    rw [if_pos h1]
    have h3 := impl_graph_int_from.mono _ _ _ _ r h
    unfold impl_graph_int_from.f at h3 ⊢
    simp only [frRun_congr h2] at h3
    exact h3
  · rw [if_neg ha] at h; exact absurd h (by simp)
theorem GOut.of {fo : Nat} {cb : Array Value} {N : Int} {g : Int → Option (List S110)} {w0 : World} (ha : grAll g N = true)
    (h : ∀ (W : World) (s : Int) (es : List S110), Below w0.heap.size w0 W → g s = some es → Calls Try.prog fo (#[.int .i64 s] ++ cb) W fun e w' => ∃ v : Value, e = .returned v ∧ Kd.S k110 110 w' W.heap.size (fun _ => True) v es ∧ Below W.heap.size W w') : GOut fo cb N (grE g) w0 :=
  fun W s hW s0 s1 => h W s _ hW (grAll_at ha s s0 s1)
set_option maxHeartbeats 8000000 in
set_option maxRecDepth 100000 in
theorem impl_graph_int_count.calls_1 (wb : World) : JAsk 87 #[] (fun a b _ => wrap64 (a + b)) wb := by
  intro W r a b f hW
  have hu := Try.underlying110
  rw [Array.append_empty]
  go_enter Try.func87, Try.ntmps87
  go_wp2
  first | go_ret | go_ret2
  exact ⟨rfl, (by repeat (first | exact Below.refl _ _ | apply pw_below_drewN | apply below_drew1 | apply below_alloc))⟩
def impl_graph_int_count.f (E : Int → List S110) (N : Int) (s : Int) (dist : List Int) : Option Int := if grOk E N s dist = true then some (tlT E dist (fun a b _ => wrap64 (a + b)) 1 s) else none
set_option maxHeartbeats 8000000 in
set_option maxRecDepth 100000 in
theorem impl_graph_int_count.calls (fo : Nat) (cb : Array Value) (N : Int) (E : Int → List S110) (w w0 : World) (ee : ∀ args w, (callFunc fo args).run Try.prog w = .ok (.enter fo args) w) (hE : GOut fo cb N E w) (hb0 : Below w.heap.size w w0)
    (s : Int) (Ad : Option Addr) (cd : Nat) (dist : List Int) (r : Int) (hd : (Kd.int .i64).C w0 Ad dist.length dist) (h : impl_graph_int_count.f E N s dist = some r) :
    Calls Try.prog 43 #[.agg #[.int .i64 N, .func (.func fo) #[] cb], .int .i64 s, .slice Ad dist.length cd] w0 fun e w' => e = .returned (.int .i64 r) ∧ Below w0.heap.size w0 w' := by
  have hu := Try.underlying68
  unfold impl_graph_int_count.f at h
  by_cases hok : grOk E N s dist = true
  rotate_left
  · rw [if_neg hok] at h; exact absurd h (by simp)
  rw [if_pos hok] at h
  have hG := grOk_iff hok
  obtain ⟨T, hT⟩ : ∃ T, T = tlT E dist (fun a b _ => wrap64 (a + b)) 1 := ⟨_, rfl⟩
  have HT := Aside0.mk fun (b : Nat) (hbb : w0.heap.size ≤ b) (W : World) (hW : Below w0.heap.size w0 W) (hM : tlMap N T b W) => (show Calls Try.prog 86 #[.agg #[.int .i64 N, .func (.func fo) #[] cb], .int .i64 s, .slice Ad dist.length cd, .map (some b), .func (.func 87) #[] #[], .int .i64 1] W fun e w' => e = .returned (.int .i64 (T s)) ∧ tlMap N T b w' ∧ W.grownBy w' (some b) from by
    rw [hT] at hM ⊢
    exact impl_graph_int_tally.calls fo cb N E w0 ee (hE.up hb0) 87 #[] (fun a b _ => wrap64 (a + b)) (enters_of Try.func87 (by kernel_rfl) rfl) (impl_graph_int_count.calls_1 w0) (fun a b _ => wrap64_wf _) Ad cd dist hd 1 (by unfold isI; decide) b hbb hG.n hG.falls hG.best hG.len _ s W hG.s0 hG.s1 hG.ds rfl hW hM)
  obtain rfl := Option.some.inj h
  rw [← hT]
  have HB := Aside0.mk (Below.refl w0.heap.size w0)
  have hmm := @run_makeMap Try.prog
  clear h hok hG hT hd hE hb0
  go_enter Try.func43, Try.ntmps43
  go_wp2_with (first | ((with_reducible refine gate_dst (N := 3) rfl ?_); refine box_event ?hg (N := 3) ?hd (cs := #[.int .i64 N, .func (.func fo) #[] cb]) (t := 68) ?hr ?_; (case hd => rfl); (case hg => rfl); (case hr => first | (go_simp; done) | (go_simp; rfl)); intro gb3 hg w3 hbox hb; have nb_ := Aside0.mk (below_step (by repeat (first | (with_reducible first | exact HB.out | apply below_alloc | apply pw_below_drewN | apply below_drew1) | exact HB.out)) hb); have nc_ := Aside0.mk hbox; have nd_ := Aside0.mk ((by rw [hg]; exact (below_size (by repeat (first | (with_reducible first | exact HB.out | apply below_alloc | apply pw_below_drewN | apply below_drew1) | exact HB.out))) : w0.heap.size ≤ gb3)); clear HB hb hbox hg; have HB := nb_; have BK3 := nc_; have GE3 := nd_; clear nb_ nc_ nd_; have hz3_0 := (blk_cell BK3.out 0); have hf3_0 := (blk_frozen BK3.out 0); simp at hz3_0; have hz3_1 := (blk_cell BK3.out 1); have hf3_1 := (blk_frozen BK3.out 1); simp at hz3_1; skip) | (go_at_call 86; go_loud (refine (HT.out _ ?hb _ ?hW (tlMap_of (World.ownsMap_made _ _ _ _) (fun p hp => by simp at hp))).mono ?_; (case hb => exact below_size (by repeat (first | (with_reducible first | exact HB.out | apply below_alloc | apply pw_below_drewN | apply below_drew1) | exact HB.out))); (case hW => exact (by repeat (first | (with_reducible first | exact HB.out | apply below_alloc | apply pw_below_drewN | apply below_drew1) | exact HB.out))); rintro e w11 ⟨rfl, -, hg⟩; have n0_ := Aside0.mk (tl_below (wb := w0) (by repeat (first | (with_reducible first | exact HB.out | apply below_alloc | apply pw_below_drewN | apply below_drew1) | exact HB.out)) hg (below_size (by repeat (first | (with_reducible first | exact HB.out | apply below_alloc | apply pw_below_drewN | apply below_drew1) | exact HB.out)))); clear HB HT hg; have HB := n0_; clear n0_)))
  first | go_ret | go_ret2
  exact ⟨rfl, (by repeat (first | (with_reducible first | exact HB.out | apply below_alloc | apply pw_below_drewN | apply below_drew1) | exact HB.out))⟩
def coG (g : Int → Option (List S110)) (N : Int) (s : Int) (dist : List Int) : Option Int := if grAll g N = true then impl_graph_int_count.f (grE g) N s dist else none
theorem coG_mono {g g' : Int → Option (List S110)} (hg : ∀ s, LeO (g s) (g' s)) (N : Int) (s : Int) (dist : List Int) : LeO (coG g N s dist) (coG g' N s dist) := by
  intro r h
  unfold coG at h ⊢
  by_cases ha : grAll g N = true
  · rw [if_pos ha] at h
    obtain ⟨h1, h2⟩ := grAll_le hg ha
    rw [if_pos h1]
    unfold impl_graph_int_count.f at h ⊢
    rw [← grOk_congr h2]
    by_cases hok : grOk (grE g) N s dist = true
    · rw [if_pos hok] at h ⊢
      have hG := grOk_iff hok
      rw [← h]
      congr 1
      exact (tlV_congr h2 hG.falls _ s hG.s0 hG.s1).symm
    · rw [if_neg hok] at h; exact absurd h (by simp)
  · rw [if_neg ha] at h; exact absurd h (by simp)

/-! ### impl_Company_costs: function 42 -/
attribute [local go_sem] run_store_fn_
theorem gr_typ {W : World} {a b t u : Nat} {cs ds : Array Value} (h : W.heap[a]? = some (.cells cs t (0, 0))) (h2 : W.heap[b]? = some (.cells ds u (0, 0))) (ht : t ≠ u) : a ≠ b := by
  rintro rfl
  rw [h] at h2
  injection h2 with h2
  injection h2 with _ h2
  exact ht h2
def impl_Company_costs.f (k : Nat) (n : Nat) (se : Int) : Option (List Int × Bool) := (impl_last.f (n : Int)).bind fun q => (frG (cmG k n se) k (grN n) [q]).bind fun dist => if 0 < dist.length then some (dist, decide (0 ≤ rdOf 0 dist 0)) else none
theorem impl_Company_costs.mono : ∀ n se k, LeO (impl_Company_costs.f k n se) (impl_Company_costs.f (k + 1) n se) := fun n se k => LeO.bind (LeO.refl _) (fun _ => LeO.bind (frG_mono (fun s => cmG_mono k n se s) _ _ _) (fun _ => LeO.refl _))
def impl_Company_costs.T2 : Bool × List (List Nat × List Nat) := (true, [([], []), ([], []), ([1], [1]), ([2], [2]), ([3], [3]), ([4], [4]), ([0, 5, 4], [0, 5]), ([6, 6, 0, 1, 2, 3, 4, 5, 6], [6])])
def impl_Company_costs.B2 : List Nat := [0, 0, 2, 6, 14, 30, 63, 127]
theorem impl_Company_costs.T2_ : rtab .any (opsOf Try.f42 2) = impl_Company_costs.T2 := by kernel_rfl
theorem impl_Company_costs.B2_ : waitsOk impl_Company_costs.T2.2 impl_Company_costs.B2 = true := by kernel_rfl
def impl_Company_costs.T3 : Bool × List (List Nat × List Nat) := (true, [([], []), ([], []), ([], []), ([2], [2]), ([3], [3]), ([4], [4]), ([0, 0], [0]), ([1, 6, 0, 1, 6], [1]), ([5, 7, 0, 1, 2, 3, 4, 5, 6, 7], [5])])
def impl_Company_costs.B3 : List Nat := [0, 0, 0, 4, 12, 28, 1, 67, 255]
theorem impl_Company_costs.T3_ : rtab .any (opsOf Try.f42 3) = impl_Company_costs.T3 := by kernel_rfl
theorem impl_Company_costs.B3_ : waitsOk impl_Company_costs.T3.2 impl_Company_costs.B3 = true := by kernel_rfl
set_option maxHeartbeats 8000000 in
set_option maxRecDepth 100000 in
theorem impl_Company_costs.calls (k : Nat) (co : Int) (n : Nat) (se : Int) (dist : List Int) (b : Bool) (w : World) (hco : 0 ≤ co ∧ co ≤ 4) (hn : n = 2 * co.toNat) (h : impl_Company_costs.f k n se = some (dist, b)) :
    Calls Try.prog 42 #[.agg #[.int .i64 co, .int .i64 se]] w fun e w' => ∃ (fo : Nat) (cb : Array Value) (gd cd : Nat), e = .returned (.tuple #[.agg #[.int .i64 (grN n), .func (.func fo) #[] cb], .slice (some ⟨gd, 0, none⟩) dist.length cd, .bool b]) ∧
      (∀ args w, (callFunc fo args).run Try.prog w = .ok (.enter fo args) w) ∧ grAll (cmG k n se) (grN n) = true ∧ GOut fo cb (grN n) (grE (cmG k n se)) w' ∧ Kd.R (Kd.int .i64) 3 w' w.heap.size (fun _ => True) (.slice (some ⟨gd, 0, none⟩) dist.length cd) dist ∧ Below w.heap.size w w' := by
  have hu := Try.underlying26
  have hu2 := Try.underlying68
  unfold impl_Company_costs.f at h
  obtain ⟨q, h1, h⟩ := Option.bind_eq_some_iff.mp h
  obtain ⟨dist', h2, h⟩ := Option.bind_eq_some_iff.mp h
  by_cases hd : 0 < dist'.length
  rotate_left
  · rw [if_neg hd] at h; exact absurd h (by simp)
  rw [if_pos hd] at h
  obtain ⟨rfl, rfl⟩ : dist' = dist ∧ decide (0 ≤ rdOf 0 dist' 0) = b := by simpa using h
  unfold frG at h2
  by_cases ha : grAll (cmG k n se) (grN n) = true
  rotate_left
  · rw [if_neg ha] at h2; exact absurd h2 (by simp)
  rw [if_pos ha] at h2
  have A1 := Aside0.mk fun (W : World) (hb : Below w.heap.size w W) => impl_Company_graph.calls co n se W hco hn
  have A2 := Aside0.mk fun (W : World) => impl_last.calls (n : Int) q W h1
  have HE := Aside0.mk fun (W : World) (hb : Below w.heap.size w W) (Bn Bc : Nat) (hB : W.heap[Bn]? = some (.cells #[.int .i64 (n : Int)] 3 (0, 0)) ∧ W.heap[Bc]? = some (.cells #[.int .i64 co, .int .i64 se] 26 (0, 0))) => (GOut.of ha (fun W' s es hW' hs => impl_Company_graph.calls_1 k Bn Bc co n se s es W' (blk_below hB.1 hW') (blk_below hB.2 hW') hs) : GOut 122 #[.pointer (some ⟨Bn, 0, none⟩), .pointer (some ⟨Bc, 0, none⟩)] (grN n) (grE (cmG k n se)) W)
  have A3 := Aside0.mk fun (W W0 : World) (cb : Array Value) (hE : GOut 122 cb (grN n) (grE (cmG k n se)) W) (bs cs : Nat) (hb0 : Below W.heap.size W W0) (hs : Kd.R (Kd.int .i64) 3 W0 W.heap.size (fun _ => True) (.slice (some ⟨bs, 0, none⟩) [q].length cs) [q]) => impl_graph_int_from.calls 122 cb (grN n) (grE (cmG k n se)) W W0 (enters_of Try.func122 (by kernel_rfl) rfl) hE k [q] dist' bs cs hb0 hs h2
  have HA := Aside0.mk ha
  have HD0 := Aside0.mk hd
  have HB := Aside0.mk (Below.refl w.heap.size w)
  have hc0 : (0 : Int) < (dist'.length : Int) := by omega
  have hcn : (0 < dist'.length) = True := eq_true hd
  have hw0 : IntKind.i64.wrap (2 * co) = (n : Int) := by rw [IntWalk.i64_in _ ⟨by omega, by omega⟩]; omega
  clear h h1 h2 hd ha hco hn
  go_enter Try.func42, Try.ntmps42
  go_upto_region 1 with (first | ((with_reducible refine gate_dst (N := 1) rfl ?_); refine box_event ?hg (N := 1) ?hd (cs := #[.int .i64 co, .int .i64 se]) (t := 26) ?hr ?_; (case hd => rfl); (case hg => rfl); (case hr => first | (go_simp; done) | (go_simp; rfl)); intro gb2 hg w2 hbox hb; have nb_ := Aside0.mk (below_step (by repeat (first | (with_reducible first | exact HB.out | apply below_alloc | apply pw_below_drewN | apply below_drew1) | exact HB.out)) hb); have nc_ := Aside0.mk hbox; have nd_ := Aside0.mk ((by rw [hg]; exact (below_size (by repeat (first | (with_reducible first | exact HB.out | apply below_alloc | apply pw_below_drewN | apply below_drew1) | exact HB.out))) : w.heap.size ≤ gb2)); clear HB hb hbox hg; have HB := nb_; have BK2 := nc_; have GE2 := nd_; clear nb_ nc_ nd_; have hz2_0 := (blk_cell BK2.out 0); have hf2_0 := (blk_frozen BK2.out 0); simp at hz2_0; have hz2_1 := (blk_cell BK2.out 1); have hf2_1 := (blk_frozen BK2.out 1); simp at hz2_1; skip) | ((with_reducible refine gate_dst (N := 2) rfl ?_); refine box_event ?hg (N := 2) ?hd (cs := #[.int .i64 0, .nilFunc]) (t := 68) ?hr ?_; (case hd => rfl); (case hg => rfl); (case hr => first | (go_simp; done) | (go_simp; rfl)); intro gb4 hg w4 hbox hb; have n0_ := Aside0.mk (blk_below (pk BK2.out) hb); have m0_ := Aside0.mk ((by rw [hg]; exact Nat.ne_of_lt (blk_lt (pk BK2.out)) : gb2 ≠ gb4)); have nb_ := Aside0.mk (below_step (by repeat (first | (with_reducible first | exact HB.out | apply below_alloc | apply pw_below_drewN | apply below_drew1) | exact HB.out)) hb); have nc_ := Aside0.mk hbox; have nd_ := Aside0.mk ((by rw [hg]; exact (below_size (by repeat (first | (with_reducible first | exact HB.out | apply below_alloc | apply pw_below_drewN | apply below_drew1) | exact HB.out))) : w.heap.size ≤ gb4)); clear HB hb hbox hg; clear BK2; have BK2 := n0_; have NE2_4 := m0_; have HB := nb_; have BK4 := nc_; have GE4 := nd_; clear nb_ nc_ nd_ n0_ m0_; have hz4_0 := (blk_cell BK4.out 0); have hf4_0 := (blk_frozen BK4.out 0); simp at hz4_0; have hz4_1 := (blk_cell BK4.out 1); have hf4_1 := (blk_frozen BK4.out 1); simp at hz4_1; skip))
  have hq0 := blk_cell BK2.out 0
  have hq1 := blk_cell BK2.out 1
  simp at hq0
  simp at hq1
  go_upto_region 2 with (first | (go_at_call 83; refine (A1.out _ (by repeat (first | (with_reducible first | exact HB.out | apply below_alloc | apply pw_below_drewN | apply below_drew1) | exact HB.out))).mono ?_; rintro e w11 ⟨Bn, Bc, rfl, hB, hb⟩; have HK := Aside0.mk hB; clear hB A1; have n0_ := Aside0.mk (blk_below (pk BK2.out) hb); have n1_ := Aside0.mk (blk_below (pk BK4.out) hb); have n2_ := Aside0.mk (below_step (by repeat (first | (with_reducible first | exact HB.out | apply below_alloc | apply pw_below_drewN | apply below_drew1) | exact HB.out)) hb); clear BK2 BK4 HB hb; have BK2 := n0_; have BK4 := n1_; have HB := n2_; clear n0_ n1_ n2_) | ((with_reducible refine gate_dst (N := 5) rfl ?_); refine box_event ?hg (N := 5) ?hd (cs := #[.int .i64 0, .nilFunc]) (t := 68) ?hr ?_; (case hd => rfl); (case hg => rfl); (case hr => first | (go_simp; done) | (go_simp; rfl)); intro gb7 hg w7 hbox hb; have n0_ := Aside0.mk (blk_below (pk BK2.out) hb); have m0_ := Aside0.mk ((by rw [hg]; exact Nat.ne_of_lt (blk_lt (pk BK2.out)) : gb2 ≠ gb7)); have n1_ := Aside0.mk (blk_below (pk BK4.out) hb); have m1_ := Aside0.mk ((by rw [hg]; exact Nat.ne_of_lt (blk_lt (pk BK4.out)) : gb4 ≠ gb7)); have nb_ := Aside0.mk (below_step (by repeat (first | (with_reducible first | exact HB.out | apply below_alloc | apply pw_below_drewN | apply below_drew1) | exact HB.out)) hb); have nc_ := Aside0.mk hbox; have nd_ := Aside0.mk ((by rw [hg]; exact (below_size (by repeat (first | (with_reducible first | exact HB.out | apply below_alloc | apply pw_below_drewN | apply below_drew1) | exact HB.out))) : w.heap.size ≤ gb7)); have nk_ := Aside0.mk (show w7.heap[Bn]? = some (.cells #[.int .i64 (n : Int)] 3 (0, 0)) ∧ w7.heap[Bc]? = some (.cells #[.int .i64 co, .int .i64 se] 26 (0, 0)) from And.intro (blk_below (pk HK.out.1) hb) (blk_below (pk HK.out.2) hb)); clear HB hb hbox hg HK; have HK := nk_; clear nk_; clear BK2 BK4; have BK2 := n0_; have NE2_7 := m0_; have BK4 := n1_; have NE4_7 := m1_; have HB := nb_; have BK7 := nc_; have GE7 := nd_; clear nb_ nc_ nd_ n0_ m0_ n1_ m1_; have hz7_0 := (blk_cell BK7.out 0); have hf7_0 := (blk_frozen BK7.out 0); simp at hz7_0; have hz7_1 := (blk_cell BK7.out 1); have hf7_1 := (blk_frozen BK7.out 1); simp at hz7_1; skip))
  have B71 := Aside0.mk (blk_put (cs' := #[.int .i64 (grN n), .func (.func 122) #[] #[.pointer (some ⟨Bn, 0, none⟩), .pointer (some ⟨Bc, 0, none⟩)]]) (blk_put (cs' := #[.int .i64 (grN n), .nilFunc]) BK7.out 0 (.int .i64 (grN n)) rfl) 1 (.func (.func 122) #[] #[.pointer (some ⟨Bn, 0, none⟩), .pointer (some ⟨Bc, 0, none⟩)]) rfl)
  have B21 := Aside0.mk (blk_far (p := ⟨gb7, 1, none⟩) (blk_far (p := ⟨gb7, 0, none⟩) BK2.out NE2_7.out (.int .i64 (grN n))) NE2_7.out (.func (.func 122) #[] #[.pointer (some ⟨Bn, 0, none⟩), .pointer (some ⟨Bc, 0, none⟩)]))
  have B41 := Aside0.mk (blk_far (p := ⟨gb7, 1, none⟩) (blk_far (p := ⟨gb7, 0, none⟩) BK4.out NE4_7.out (.int .i64 (grN n))) NE4_7.out (.func (.func 122) #[] #[.pointer (some ⟨Bn, 0, none⟩), .pointer (some ⟨Bc, 0, none⟩)]))
  have K71 := Aside0.mk (show ((w7.setCell ⟨gb7, 0, none⟩ (.int .i64 (grN n))).setCell ⟨gb7, 1, none⟩ (.func (.func 122) #[] #[.pointer (some ⟨Bn, 0, none⟩), .pointer (some ⟨Bc, 0, none⟩)])).heap[Bn]? = some (.cells #[.int .i64 (n : Int)] 3 (0, 0)) ∧ ((w7.setCell ⟨gb7, 0, none⟩ (.int .i64 (grN n))).setCell ⟨gb7, 1, none⟩ (.func (.func 122) #[] #[.pointer (some ⟨Bn, 0, none⟩), .pointer (some ⟨Bc, 0, none⟩)])).heap[Bc]? = some (.cells #[.int .i64 co, .int .i64 se] 26 (0, 0)) from And.intro (blk_far (blk_far HK.out.1 (gr_typ HK.out.1 BK7.out (by decide)) (.int .i64 (grN n))) (gr_typ HK.out.1 BK7.out (by decide)) (.func (.func 122) #[] #[.pointer (some ⟨Bn, 0, none⟩), .pointer (some ⟨Bc, 0, none⟩)])) (blk_far (blk_far HK.out.2 (gr_typ HK.out.2 BK7.out (by decide)) (.int .i64 (grN n))) (gr_typ HK.out.2 BK7.out (by decide)) (.func (.func 122) #[] #[.pointer (some ⟨Bn, 0, none⟩), .pointer (some ⟨Bc, 0, none⟩)])))
  have HB1 := Aside0.mk (below_set (v := (.func (.func 122) #[] #[.pointer (some ⟨Bn, 0, none⟩), .pointer (some ⟨Bc, 0, none⟩)])) (j := 1) (below_set (v := (.int .i64 (grN n))) (j := 0) HB.out GE7.out) GE7.out)
  generalize (w7.setCell ⟨gb7, 0, none⟩ (.int .i64 (grN n))).setCell ⟨gb7, 1, none⟩ (.func (.func 122) #[] #[.pointer (some ⟨Bn, 0, none⟩), .pointer (some ⟨Bc, 0, none⟩)]) = w8 at B71 B21 B41 K71 HB1 ⊢
  clear BK2 BK4 BK7 HB HK
  have BK2 := B21; have BK4 := B41; have BK7 := B71; have HB := HB1; have HK := K71
  clear B21 B41 B71 HB1 K71
  have n0_ := Aside0.mk (blk_drew BK2.out); have n1_ := Aside0.mk (blk_drew BK4.out); have n2_ := Aside0.mk (blk_drew BK7.out); have n3_ := Aside0.mk (And.intro (blk_drew HK.out.1) (blk_drew HK.out.2)); have n4_ := Aside0.mk (below_drew1 HB.out); clear BK2 BK4 BK7 HK HB; have BK2 := n0_; have BK4 := n1_; have BK7 := n2_; have HK := n3_; have HB := n4_; clear n0_ n1_ n2_ n3_ n4_
  refine start_ (n := 8) (S := fun w' => w'.cell? ⟨gb7, 0, none⟩ = some (.int .i64 (grN n)) ∧ w'.cell? ⟨gb7, 1, none⟩ = some (.func (.func 122) #[] #[.pointer (some ⟨Bn, 0, none⟩), .pointer (some ⟨Bc, 0, none⟩)]) ∧ w'.cell? ⟨gb2, 0, none⟩ = some (.int .i64 co)) (ds := []) #[false, false, false, false, false, false, false, false] (by kernel_rfl) rfl rfl ⟨(blk_cell BK7.out 0).trans rfl, (blk_cell BK7.out 1).trans rfl, (blk_cell BK2.out 0).trans rfl⟩ (fun hHeld => ?_); refine with_tabW impl_Company_costs.T2_ impl_Company_costs.B2_ (fun HT_ HW_ => ?_)
  generalize w8.drew = w9 at BK2 BK4 BK7 HK HB hHeld ⊢
  refine take_ (i := 0) (N := some 9) (v := ?_) (a' := ?_) #[true, false, false, false, false, false, false, false] rfl rfl (take_ofW HT_.out HW_.out (by kernel_rfl)) (fun _ _ _ h => h) (Or.inl ⟨by rfl, ?_⟩) hHeld ?_ ?_
  rotate_left
  · rintro w' ⟨s0, s1, s2⟩
    go_simp
    with_reducible rfl
  rotate_left
  · simp only [Act.put, List.setIfInBounds_toArray, List.set_cons_zero, List.set_cons_succ, i64_w, i32_w]
    rfl
  refine pure_ (i := 1) (N := some 10) (v := ?_) (a' := ?_) #[true, true, false, false, false, false, false, false] rfl rfl (any_of HT_.out (by kernel_rfl)) (fun _ _ _ h => h) (Or.inl ⟨by rfl, ?_⟩) ?_ ?_
  rotate_left
  · intro w'
    go_simp
    with_reducible rfl
  rotate_left
  · simp only [Act.put, List.setIfInBounds_toArray, List.set_cons_zero, List.set_cons_succ, i64_w, i32_w]
    rfl
  refine take_ (i := 2) (N := some 11) (v := ?_) (a' := ?_) #[true, true, true, false, false, false, false, false] rfl rfl (take_ofW HT_.out HW_.out (by kernel_rfl)) (fun _ _ _ h => h) (Or.inl ⟨by rfl, ?_⟩) hHeld ?_ ?_
  rotate_left
  · rintro w' ⟨s0, s1, s2⟩
    go_simp
    with_reducible rfl
  rotate_left
  · simp only [Act.put, List.setIfInBounds_toArray, List.set_cons_zero, List.set_cons_succ, i64_w, i32_w]
    rfl
  refine pure_ (i := 3) (N := some 12) (v := ?_) (a' := ?_) #[true, true, true, true, false, false, false, false] rfl rfl (any_of HT_.out (by kernel_rfl)) (fun _ _ _ h => h) (Or.inl ⟨by rfl, ?_⟩) ?_ ?_
  rotate_left
  · intro w'
    go_simp
    with_reducible rfl
  rotate_left
  · simp only [Act.put, List.setIfInBounds_toArray, List.set_cons_zero, List.set_cons_succ, i64_w, i32_w]
    rfl
  refine one_ (i := 4) (N := some 13) #[true, true, true, true, true, false, false, false] rfl rfl (one_of HT_.out (by kernel_rfl)) (by decide) (fun K hK => ?_)
  refine goes_ Try.func85 (by kernel_rfl) rfl #[.int .i64 (n : Int)] (by rfl) rfl rfl (by (try simp only [List.map_toArray, List.map_cons, List.map_nil]); first | done | rfl | (simp only [List.length_drop, List.length_take]; rfl)) ?_
  refine (A2.out _).mono ?_
  rintro e_ w10 ⟨rfl, ⟨nd, rfl⟩⟩
  refine ⟨_, rfl, ?_⟩
  have n0_ := Aside0.mk (blk_drewN BK2.out nd); have n1_ := Aside0.mk (blk_drewN BK4.out nd); have n2_ := Aside0.mk (blk_drewN BK7.out nd); have n3_ := Aside0.mk (And.intro (blk_drewN HK.out.1 nd) (blk_drewN HK.out.2 nd)); have n4_ := Aside0.mk (pw_below_drewN HB.out nd); clear BK2 BK4 BK7 HK HB; have BK2 := n0_; have BK4 := n1_; have BK7 := n2_; have HK := n3_; have HB := n4_; clear n0_ n1_ n2_ n3_ n4_
  generalize w9.drewN nd = w10 at BK2 BK4 BK7 HK HB ⊢
  refine hK.out _ _ ⟨(blk_cell BK7.out 0).trans rfl, (blk_cell BK7.out 1).trans rfl, (blk_cell BK2.out 0).trans rfl⟩ (fun hHeld => ?_)
  clear hK K
  refine norm_ (a' := ?_) ?_ ?_
  rotate_left
  · show Act.put _ (some 13) _ = _
    simp only [Act.put, List.setIfInBounds_toArray, List.set_cons_zero, List.set_cons_succ, i64_w, i32_w]
    rfl
  refine one_ (i := 5) (N := some 14) #[true, true, true, true, true, true, false, false] rfl rfl (one_of HT_.out (by kernel_rfl)) (by decide) (fun K hK => ?_)
  refine Kd.R_lit_step (Kd.int .i64) w10.heap.size 3 ?hg (N := 14) ?hd (xs := [q]) (inner := [.int .i64 q]) (ok := fun _ => True) (okp := fun _ => True) ?hr ?hp (fun _ hk => hk) trivial (Below.refl w10.heap.size w10) (Nat.le_refl _) (by simp) ?_; (case hd => rfl); (case hg => rfl); (case hr => first | (go_simp; done) | (go_simp; rfl)); (case hp => exact (Reps.one (show Kd.M (Kd.int .i64) _ _ _ q [.int .i64 q] from rfl) (Reps.none _ _)))
  intro s2 w11 ho0 hb0 hg_ hnew_
  clear hg_ hnew_
  obtain ⟨bs, cs, rfl, -, -, -⟩ := Kd.R_form ho0 (by simp)
  have HS := Aside0.mk ho0
  have HB11 := Aside0.mk hb0
  have HB10 := Aside0.mk HB.out; have B10 := Aside0.mk (And.intro BK2.out (And.intro BK4.out BK7.out)); have HE2 := Aside0.mk (HE.out w10 HB.out Bn Bc HK.out)
  have n0_ := Aside0.mk (blk_below BK2.out hb0); have n1_ := Aside0.mk (blk_below BK4.out hb0); have n2_ := Aside0.mk (blk_below BK7.out hb0); have n3_ := Aside0.mk (below_step HB.out hb0); clear BK2 BK4 BK7 HB hb0 ho0; have BK2 := n0_; have BK4 := n1_; have BK7 := n2_; have HB := n3_; clear n0_ n1_ n2_ n3_
  refine hK.out _ _ ⟨(blk_cell BK7.out 0).trans rfl, (blk_cell BK7.out 1).trans rfl, (blk_cell BK2.out 0).trans rfl⟩ (fun hHeld => ?_)
  clear hK K
  refine norm_ (a' := ?_) ?_ ?_
  rotate_left
  · show Act.put _ (some 14) _ = _
    simp only [Act.put, List.setIfInBounds_toArray, List.set_cons_zero, List.set_cons_succ, i64_w, i32_w]
    rfl
  refine one_ (i := 6) (N := some 15) #[true, true, true, true, true, true, true, false] rfl rfl (one_of HT_.out (by kernel_rfl)) (by decide) (fun K hK => ?_)
  refine goes_ Try.func84 (by kernel_rfl) rfl #[.agg #[.int .i64 (grN n), .func (.func 122) #[] #[.pointer (some ⟨Bn, 0, none⟩), .pointer (some ⟨Bc, 0, none⟩)]], .slice (some ⟨bs, 0, none⟩) [q].length cs] (by rfl) rfl rfl (by (try simp only [List.map_toArray, List.map_cons, List.map_nil]); first | done | rfl | (simp only [List.length_drop, List.length_take]; rfl)) ?_
  refine (A3.out w10 w11 _ HE2.out bs cs HB11.out HS.out).mono ?_
  rintro e_ w12 ⟨v12, rfl, hdi, hb⟩
  refine ⟨_, rfl, ?_⟩
  obtain ⟨gd, cd, rfl, -, -, -⟩ := Kd.R_form hdi HD0.out
  have HD := Aside0.mk (Kd.R_lower hdi (below_size HB10.out))
  have n0_ := Aside0.mk (blk_below B10.out.1 hb); have n1_ := Aside0.mk (blk_below B10.out.2.1 hb); have n2_ := Aside0.mk (blk_below B10.out.2.2 hb); have n3_ := Aside0.mk (And.intro (blk_below HK.out.1 hb) (blk_below HK.out.2 hb)); have n4_ := Aside0.mk (below_step HB10.out hb); clear BK2 BK4 BK7 HE2 HK HB HS HB11 HB10 hdi hb B10; have BK2 := n0_; have BK4 := n1_; have BK7 := n2_; have HK := n3_; have HB := n4_; clear n0_ n1_ n2_ n3_ n4_
  refine hK.out _ _ ⟨(blk_cell BK7.out 0).trans rfl, (blk_cell BK7.out 1).trans rfl, (blk_cell BK2.out 0).trans rfl⟩ (fun hHeld => ?_)
  clear hK K
  refine norm_ (a' := ?_) ?_ ?_
  rotate_left
  · show Act.put _ (some 15) _ = _
    simp only [Act.put, List.setIfInBounds_toArray, List.set_cons_zero, List.set_cons_succ, i64_w, i32_w]
    rfl
  refine pure_ (i := 7) (N := some 6) (v := ?_) (a' := ?_) #[true, true, true, true, true, true, true, true] rfl rfl (any_of HT_.out (by kernel_rfl)) (fun _ _ _ h => h) (Or.inl ⟨by rfl, ?_⟩) ?_ ?_
  rotate_left
  · intro w'
    go_simp
    with_reducible rfl
  rotate_left
  · simp only [Act.put, List.setIfInBounds_toArray, List.set_cons_zero, List.set_cons_succ, i64_w, i32_w]
    rfl
  refine done_ (done_of HT_.out (by kernel_rfl)) ?_
  try go_wp2
  have n0_ := Aside0.mk (blk_drew BK2.out); have n1_ := Aside0.mk (blk_drew BK4.out); have n2_ := Aside0.mk (blk_drew BK7.out); have n3_ := Aside0.mk (And.intro (blk_drew HK.out.1) (blk_drew HK.out.2)); have n4_ := Aside0.mk (below_drew1 HB.out); have n5_ := Aside0.mk (Kd.R_drew HD.out); clear BK2 BK4 BK7 HK HB HD; have BK2 := n0_; have BK4 := n1_; have BK7 := n2_; have HK := n3_; have HB := n4_; have HD := n5_; clear n0_ n1_ n2_ n3_ n4_ n5_
  have hx0_ := ((Kd.R_celln 0 HD.out 0 (by omega) (by omega)).1 : w12.drew.cell? ⟨gd, 0, none⟩ = some (.int .i64 (rdOf 0 dist' 0)))
  have HX := Aside0.mk hx0_
  clear hx0_
  refine start_ (n := 9) (S := fun w' => w'.cell? ⟨gb7, 0, none⟩ = some (.int .i64 (grN n)) ∧ w'.cell? ⟨gb7, 1, none⟩ = some (.func (.func 122) #[] #[.pointer (some ⟨Bn, 0, none⟩), .pointer (some ⟨Bc, 0, none⟩)]) ∧ w'.cell? ⟨gd, 0, none⟩ = some (.int .i64 (rdOf 0 dist' 0))) (ds := []) #[false, false, false, false, false, false, false, false, false] (by kernel_rfl) rfl rfl ⟨(blk_cell BK7.out 0).trans rfl, (blk_cell BK7.out 1).trans rfl, HX.out⟩ (fun hHeld => ?_); refine with_tabW impl_Company_costs.T3_ impl_Company_costs.B3_ (fun HT_ HW_ => ?_)
  generalize w12.drew = w13 at BK2 BK4 BK7 HK HB HD HX hHeld ⊢
  refine take_ (i := 0) (N := some 16) (v := ?_) (a' := ?_) #[true, false, false, false, false, false, false, false, false] rfl rfl (take_ofW HT_.out HW_.out (by kernel_rfl)) (fun _ _ _ h => h) (Or.inl ⟨by rfl, ?_⟩) hHeld ?_ ?_
  rotate_left
  · rintro w' ⟨s0, s1, s2⟩
    go_simp
    with_reducible rfl
  rotate_left
  · simp only [Act.put, List.setIfInBounds_toArray, List.set_cons_zero, List.set_cons_succ, i64_w, i32_w]
    rfl
  refine pure_ (i := 1) (N := some 17) (v := ?_) (a' := ?_) #[true, true, false, false, false, false, false, false, false] rfl rfl (any_of HT_.out (by kernel_rfl)) (fun _ _ _ h => h) (Or.inl ⟨by rfl, ?_⟩) ?_ ?_
  rotate_left
  · intro w'
    go_simp
    with_reducible rfl
  rotate_left
  · simp only [Act.put, List.setIfInBounds_toArray, List.set_cons_zero, List.set_cons_succ, i64_w, i32_w]
    rfl
  refine pure_ (i := 2) (N := some 18) (v := ?_) (a' := ?_) #[true, true, true, false, false, false, false, false, false] rfl rfl (any_of HT_.out (by kernel_rfl)) (fun _ _ _ h => h) (Or.inl ⟨by rfl, ?_⟩) ?_ ?_
  rotate_left
  · intro w'
    go_simp
    with_reducible rfl
  rotate_left
  · simp only [Act.put, List.setIfInBounds_toArray, List.set_cons_zero, List.set_cons_succ, i64_w, i32_w]
    rfl
  refine pure_ (i := 3) (N := some 19) (v := ?_) (a' := ?_) #[true, true, true, true, false, false, false, false, false] rfl rfl (any_of HT_.out (by kernel_rfl)) (fun _ _ _ h => h) (Or.inl ⟨by rfl, ?_⟩) ?_ ?_
  rotate_left
  · intro w'
    go_simp
    with_reducible rfl
  rotate_left
  · simp only [Act.put, List.setIfInBounds_toArray, List.set_cons_zero, List.set_cons_succ, i64_w, i32_w]
    rfl
  refine take_ (i := 4) (N := some 20) (v := ?_) (a' := ?_) #[true, true, true, true, true, false, false, false, false] rfl rfl (take_ofW HT_.out HW_.out (by kernel_rfl)) (fun _ _ _ h => h) (Or.inl ⟨by rfl, ?_⟩) hHeld ?_ ?_
  rotate_left
  · rintro w' ⟨s0, s1, s2⟩
    go_simp
    with_reducible rfl
  rotate_left
  · simp only [Act.put, List.setIfInBounds_toArray, List.set_cons_zero, List.set_cons_succ, i64_w, i32_w]
    rfl
  refine pure_ (i := 5) (N := some 21) (v := ?_) (a' := ?_) #[true, true, true, true, true, true, false, false, false] rfl rfl (any_of HT_.out (by kernel_rfl)) (fun _ _ _ h => h) (Or.inl ⟨by rfl, ?_⟩) ?_ ?_
  rotate_left
  · intro w'
    go_simp
    with_reducible rfl
  rotate_left
  · simp only [Act.put, List.setIfInBounds_toArray, List.set_cons_zero, List.set_cons_succ, i64_w, i32_w]
    rfl
  refine one_ (i := 6) (N := none) #[true, true, true, true, true, true, true, false, false] rfl rfl (one_of HT_.out (by kernel_rfl)) (by decide) (fun K hK => ?_)
  have hz40 := blk_cell BK4.out 0
  have hz41 := blk_cell BK4.out 1
  have hf40 := blk_frozen BK4.out 0
  have hf41 := blk_frozen BK4.out 1
  simp at hz40
  simp at hz41
  have B41 := Aside0.mk (blk_put (cs' := #[.int .i64 (grN n), .func (.func 122) #[] #[.pointer (some ⟨Bn, 0, none⟩), .pointer (some ⟨Bc, 0, none⟩)]]) (blk_put (cs' := #[.int .i64 (grN n), .nilFunc]) BK4.out 0 (.int .i64 (grN n)) rfl) 1 (.func (.func 122) #[] #[.pointer (some ⟨Bn, 0, none⟩), .pointer (some ⟨Bc, 0, none⟩)]) rfl)
  have B71 := Aside0.mk (blk_far (p := ⟨gb4, 1, none⟩) (blk_far (p := ⟨gb4, 0, none⟩) BK7.out NE4_7.out.symm (.int .i64 (grN n))) NE4_7.out.symm (.func (.func 122) #[] #[.pointer (some ⟨Bn, 0, none⟩), .pointer (some ⟨Bc, 0, none⟩)]))
  have D1 := Aside0.mk (Kd.R_set (Kd.R_set HD.out BK4.out (by decide) 0 (.int .i64 (grN n))) (blk_put (cs' := #[.int .i64 (grN n), .nilFunc]) BK4.out 0 (.int .i64 (grN n)) rfl) (by decide) 1 (.func (.func 122) #[] #[.pointer (some ⟨Bn, 0, none⟩), .pointer (some ⟨Bc, 0, none⟩)]))
  have HB1 := Aside0.mk (below_set (v := (.func (.func 122) #[] #[.pointer (some ⟨Bn, 0, none⟩), .pointer (some ⟨Bc, 0, none⟩)])) (j := 1) (below_set (v := (.int .i64 (grN n))) (j := 0) HB.out GE4.out) GE4.out)
  have K1 := Aside0.mk (show ((w13.setCell ⟨gb4, 0, none⟩ (.int .i64 (grN n))).setCell ⟨gb4, 1, none⟩ (.func (.func 122) #[] #[.pointer (some ⟨Bn, 0, none⟩), .pointer (some ⟨Bc, 0, none⟩)])).heap[Bn]? = some (.cells #[.int .i64 (n : Int)] 3 (0, 0)) ∧ ((w13.setCell ⟨gb4, 0, none⟩ (.int .i64 (grN n))).setCell ⟨gb4, 1, none⟩ (.func (.func 122) #[] #[.pointer (some ⟨Bn, 0, none⟩), .pointer (some ⟨Bc, 0, none⟩)])).heap[Bc]? = some (.cells #[.int .i64 co, .int .i64 se] 26 (0, 0)) from And.intro (blk_far (blk_far HK.out.1 (gr_typ HK.out.1 BK4.out (by decide)) (.int .i64 (grN n))) (gr_typ HK.out.1 BK4.out (by decide)) (.func (.func 122) #[] #[.pointer (some ⟨Bn, 0, none⟩), .pointer (some ⟨Bc, 0, none⟩)])) (blk_far (blk_far HK.out.2 (gr_typ HK.out.2 BK4.out (by decide)) (.int .i64 (grN n))) (gr_typ HK.out.2 BK4.out (by decide)) (.func (.func 122) #[] #[.pointer (some ⟨Bn, 0, none⟩), .pointer (some ⟨Bc, 0, none⟩)])))
  refine skip_ (w1 := ?_) (by rfl) rfl ?_ ?_
  rotate_left
  · go_simp
    rfl
  generalize (w13.setCell ⟨gb4, 0, none⟩ (.int .i64 (grN n))).setCell ⟨gb4, 1, none⟩ (.func (.func 122) #[] #[.pointer (some ⟨Bn, 0, none⟩), .pointer (some ⟨Bc, 0, none⟩)]) = w14 at B41 B71 D1 HB1 K1 ⊢
  have hx0_ := ((Kd.R_celln 0 D1.out 0 (by omega) (by omega)).1 : w14.cell? ⟨gd, 0, none⟩ = some (.int .i64 (rdOf 0 dist' 0)))
  refine hK.out _ _ ⟨(blk_cell B71.out 0).trans rfl, (blk_cell B71.out 1).trans rfl, hx0_⟩ (fun hHeld => ?_)
  clear hK K hx0_
  refine pure_ (i := 7) (N := some 3) (v := ?_) (a' := ?_) #[true, true, true, true, true, true, true, true, false] rfl rfl (any_of HT_.out (by kernel_rfl)) (fun _ _ _ h => h) (Or.inl ⟨by rfl, ?_⟩) ?_ ?_
  rotate_left
  · intro w'
    go_simp
    with_reducible rfl
  rotate_left
  · simp only [Act.put, List.setIfInBounds_toArray, List.set_cons_zero, List.set_cons_succ, i64_w, i32_w]
    rfl
  refine pure_ (i := 8) (N := some 4) (v := ?_) (a' := ?_) #[true, true, true, true, true, true, true, true, true] rfl rfl (any_of HT_.out (by kernel_rfl)) (fun _ _ _ h => h) (Or.inl ⟨by rfl, ?_⟩) ?_ ?_
  rotate_left
  · intro w'
    go_simp
    with_reducible rfl
  rotate_left
  · simp only [Act.put, List.setIfInBounds_toArray, List.set_cons_zero, List.set_cons_succ, i64_w, i32_w]
    rfl
  refine done_ (done_of HT_.out (by kernel_rfl)) ?_
  try go_wp2
  refine bodyPost_ret (results_ctt rfl _ _ gb4 68 #[.int .i64 (grN n), .func (.func 122) #[] #[.pointer (some ⟨Bn, 0, none⟩), .pointer (some ⟨Bc, 0, none⟩)]] (0, 0) _ rfl B41.out Try.underlying68 rfl (by kernel_rfl)) rfl ?_
  exact ⟨122, #[.pointer (some ⟨Bn, 0, none⟩), .pointer (some ⟨Bc, 0, none⟩)], gd, cd, rfl, enters_of Try.func122 (by kernel_rfl) rfl, HA.out, HE.out w14 HB1.out Bn Bc K1.out, D1.out, HB1.out⟩

end Go.Proofs.Ythkchdfkeieabaa.QGr
