/- Contracts of functions of the given program, walked: each call returns what its Lean function says. Conditions: those that stand at each theorem. (Written by a program of this session.) -/
import Derived.Test.YthkchdfkeieabaaQGrx0
import Derived.Test.YthkchdfkeieabaaQGrx10
import Derived.Test.YthkchdfkeieabaaQGrx11
namespace Go.Proofs.Ythkchdfkeieabaa.QGr
open Go.RowKit Go.Proofs.YthkchdfkeieabaaW.PrintWords Go.Proofs.YthkchdfkeieabaaW.PrintLast Go.Proofs.YthkchdfkeieabaaW.PrintMore
open List (setIfInBounds_toArray set_cons_zero set_cons_succ map_toArray map_cons map_nil)
attribute [local go_sem] max2_int min2_int max_two min_two max_three min_three max_four min_four
set_option linter.unusedVariables false
set_option maxHeartbeats 8000000
set_option maxRecDepth 100000
set_option linter.unusedSimpArgs false
section
variable {P : Program} {md : Region.Mode} {ops : Array Oper} {Q : Exit → Act → World → Prop}
theorem goesv_ {oi : Oper} {N : Option Tmp} {a : Act} {w : World} {K : Act → World → Prop} {f : FuncId} {xs : Array Operand} {ts : Array TypeId} (x : Operand) (cb args : Array Value) (hx : a.eval x = .func (.func f) #[] cb) (he : (callFunc f args).run P w = .ok (.enter f args) w)
  (hw : Region.wanted oi (yielded ops a.tmps) = true) (hN : oi.dst = N) (hop : oi.op = .call { callee := .value x, args := xs, argTypes := ts }) (hargs : xs.map a.eval ++ cb = args)
  (h : Calls P f args w fun e w' => ∃ v, e = .returned v ∧ K (a.put N v) w') : if Region.wanted oi (yielded ops a.tmps) = true then Oper.wp P oi a w K Q else K (a.put N undef) w := by
 refine call_ f args hw hN ?_ h
 unfold execOp
 simp [hop, resolve, Deferred.ofValue, invoke, hx, hargs, he]
end
def tlBest (E : Int → List S110) (dist : List Int) (s : Int) : List S110 := (E s).filter fun e => !offWay dist s e.f0 e.f1
def tlFold (J : Int → Int → Bool → Int) (T : Int → Int) : List S110 → Nat → Int → Int
 | [], _, n => n
 | e :: es, i, n => tlFold J T es (i + 1) (J n (T e.f0) ((i : Int) == 0))
def tlV (E : Int → List S110) (dist : List Int) (J : Int → Int → Bool → Int) (last : Int) : Nat → Int → Int
 | 0, _ => 0
 | k + 1, s => if rdOf 0 dist s = 0 then last else tlFold J (tlV E dist J last k) (tlBest E dist s) 0 0
def tlT (E : Int → List S110) (dist : List Int) (J : Int → Int → Bool → Int) (last : Int) (s : Int) : Int := tlV E dist J last ((rdOf 0 dist s).toNat + 1) s
theorem tlFold_same {J : Int → Int → Bool → Int} {T T' : Int → Int} : ∀ (es : List S110) (i : Nat) (n : Int), (∀ e ∈ es, T e.f0 = T' e.f0) → tlFold J T es i n = tlFold J T' es i n
 | [], _, _, _ => rfl
 | e :: es, i, n, h => by
  unfold tlFold
  rw [h e List.mem_cons_self]
  exact tlFold_same es (i + 1) _ (fun e he => h e (List.mem_cons_of_mem _ he))
def tlFalls (E : Int → List S110) (N : Int) (dist : List Int) : Prop := ∀ s, 0 ≤ s → s < N → ∀ e ∈ tlBest E dist s, (0 ≤ e.f0 ∧ e.f0 < N) ∧ 0 ≤ rdOf 0 dist e.f0 ∧ rdOf 0 dist e.f0 < rdOf 0 dist s
theorem tlV_enough {E : Int → List S110} {N : Int} {dist : List Int} {J : Int → Int → Bool → Int} {last : Int} (hf : tlFalls E N dist) : ∀ (k k' : Nat) (s : Int), 0 ≤ s → s < N → 0 ≤ rdOf 0 dist s → (rdOf 0 dist s).toNat < k → (rdOf 0 dist s).toNat < k' → tlV E dist J last k s = tlV E dist J last k' s
 | 0, _, _, _, _, _, h, _ => absurd h (Nat.not_lt_zero _)
 | _ + 1, 0, _, _, _, _, _, h => absurd h (Nat.not_lt_zero _)
 | k + 1, k' + 1, s, h0, h1, hd, hk, hk' => by
  unfold tlV
  split
  ·rfl
  ·refine tlFold_same _ _ _ (fun e he => ?_)
   obtain ⟨⟨a0, a1⟩, b0, b1⟩ := hf s h0 h1 e he
   exact tlV_enough hf k k' e.f0 a0 a1 b0 (by omega) (by omega)
theorem tlT_eq {E : Int → List S110} {N : Int} {dist : List Int} {J : Int → Int → Bool → Int} {last : Int} (hf : tlFalls E N dist) (s : Int) (h0 : 0 ≤ s) (h1 : s < N) (hs : rdOf 0 dist s ≠ 0) : tlT E dist J last s = tlFold J (tlT E dist J last) (tlBest E dist s) 0 0 := by
 show tlV E dist J last ((rdOf 0 dist s).toNat + 1) s = _
 unfold tlV
 rw [if_neg hs]
 refine tlFold_same _ _ _ (fun e he => ?_)
 obtain ⟨⟨a0, a1⟩, b0, b1⟩ := hf s h0 h1 e he
 exact tlV_enough hf _ _ e.f0 a0 a1 b0 (by omega) (by omega)
theorem tlT_zero {E : Int → List S110} {dist : List Int} {J : Int → Int → Bool → Int} {last : Int} (s : Int) (hs : rdOf 0 dist s = 0) : tlT E dist J last s = last := by
 show tlV E dist J last ((rdOf 0 dist s).toNat + 1) s = _
 unfold tlV
 rw [if_pos hs]
def isI (n : Int) : Prop := (Lit.int .i64 n).wf = true
theorem tlFold_isI {J : Int → Int → Bool → Int} {T : Int → Int} (hJ : ∀ a b f, isI (J a b f)) : ∀ (es : List S110) (i : Nat) (n : Int), isI n → isI (tlFold J T es i n)
 | [], _, _, h => h
 | e :: es, i, n, _ => tlFold_isI hJ es (i + 1) _ (hJ _ _ _)
theorem few_below : ∀ (N : Nat) (l : List Nat), l.Nodup → (∀ x ∈ l, x < N) → l.length ≤ N
 | 0, [], _, _ => Nat.le_refl _
 | 0, x :: _, _, h => absurd (h x List.mem_cons_self) (Nat.not_lt_zero _)
 | N + 1, l, hn, h => by
  by_cases hm : N ∈ l
  ·have h2 := few_below N (l.erase N) (hn.erase N) (fun x hx => by
    have hx2 := (List.Nodup.mem_erase_iff hn).1 hx
    have := h x hx2.2
    have := hx2.1
    omega)
   rw [List.length_erase_of_mem hm] at h2
   omega
  ·exact Nat.le_succ_of_le (few_below N l hn (fun x hx => by
    have := h x hx
    have : x ≠ N := fun e => hm (e ▸ hx)
    omega))
def tlEnt (N : Int) (T : Int → Int) (es : List (Lit × DataW Unit)) : Prop := ∀ p ∈ es, ∃ x : Int, p.1 = .int .i64 x ∧ 0 ≤ x ∧ x < N ∧ p.2 = .lit (.int .i64 (T x))
def tlKey : Lit → Nat
 | .int _ x => x.toNat
 | _ => 0
theorem tlEnt_few {N : Int} {T : Int → Int} {es : List (Lit × DataW Unit)} (h : tlEnt N T es) (hap : es.Pairwise fun p q => p.1 ≠ q.1) : es.length ≤ N.toNat := by
 have h2 := few_below N.toNat (es.map fun p => tlKey p.1) (by
  refine List.pairwise_map.2 (List.Pairwise.imp_of_mem (fun {p q} hp hq hne he => ?_) hap)
  obtain ⟨x, e1, hx0, _⟩ := h p hp
  obtain ⟨y, e2, hy0, _⟩ := h q hq
  rw [e1, e2] at he
  have he2 : x.toNat = y.toNat := he
  exact hne (by rw [e1, e2]; congr 1; omega)) (fun x hx => by
  obtain ⟨p, hp, rfl⟩ := List.mem_map.1 hx
  obtain ⟨y, e1, hy0, hy1, _⟩ := h p hp
  rw [e1]
  show y.toNat < N.toNat
  omega)
 rwa [List.length_map] at h2
def tlMap (N : Int) (T : Int → Int) (b : Nat) (W : World) : Prop := ∃ es : List (Lit × DataW Unit), W.ownsMap Try.prog 3 (plainElem Try.prog 3) b N.toNat (.map es) ∧ tlEnt N T es
theorem tlMap_grown {N : Int} {T : Int → Int} {b : Nat} {W W' : World} (h : tlMap N T b W) (hb : Below W.heap.size W W') : tlMap N T b W' := by
 obtain ⟨es, h1, h2⟩ := h
 exact ⟨es, h1.kept (row := none) ⟨hb.os, hb.tape, hb.output, hb.size, fun k hk _ => hb.block k hk⟩ (by simp), h2⟩
theorem tl_keyed : Maps.Keyed Try.prog 3 := Maps.int_keyed Try.underlying3
theorem tlMap_of {N : Int} {T : Int → Int} {b n : Nat} {W : World} {es : List (Lit × DataW Unit)} (h : W.ownsMap Try.prog 3 (plainElem Try.prog 3) b n (.map es)) (he : tlEnt N T es) : tlMap N T b W := by
 obtain ⟨es', hes, hap⟩ := h.tidy tl_keyed
 injection hes with hes
 subst hes
 have hf := tlEnt_few he hap
 obtain ⟨a, clock, hb, F, _, hD⟩ := h
 refine ⟨es, ⟨a, clock, hb, F, ?_, hD⟩, he⟩
 injection hD with hD
 have : a.size = es.length := by rw [hD, length_sorted, List.length_map, Array.length_toList]
 omega
theorem tlEnt_look {N : Int} {T : Int → Int} {es : List (Lit × DataW Unit)} (h : tlEnt N T es) {s : Int} (hs : Maps.has (.map es) (.int .i64 s) = true) (z : DataW Unit) : (DataW.map es).atKey (.int .i64 s) z = .lit (.int .i64 (T s)) := by
 rw [Maps.has_eq] at hs
 unfold DataW.atKey
 dsimp only
 cases hf : es.find? (fun p => p.1.sameKey (.int .i64 s)) with
 | none =>
  rw [List.find?_eq_none] at hf
  obtain ⟨p, hp, hk⟩ := List.any_eq_true.1 hs
  exact absurd hk (hf p hp)
 | some p =>
  have hk := List.find?_some hf
  have hm := List.mem_of_find?_eq_some hf
  obtain ⟨x, e1, _, _, e2⟩ := h p hm
  rw [e1] at hk
  have hx : x = s := by simpa [Lit.sameKey] using hk
  rw [← hx]
  exact e2
theorem tl_insert {x p : Lit × DataW Unit} : ∀ l : List (Lit × DataW Unit), p ∈ DataW.insert x l → p = x ∨ p ∈ l
 | [], h => by
  simp only [DataW.insert, List.mem_singleton] at h
  exact .inl h
 | y :: r, h => by
  simp only [DataW.insert] at h
  split at h
  ·rcases List.mem_cons.1 h with h | h
   ·exact .inl h
   ·exact .inr h
  ·rcases List.mem_cons.1 h with h | h
   ·exact .inr (by rw [h]; exact List.mem_cons_self)
   ·rcases tl_insert r h with h | h
    ·exact .inl h
    ·exact .inr (List.mem_cons_of_mem _ h)
theorem tlEnt_put {N : Int} {T : Int → Int} {es : List (Lit × DataW Unit)} (h : tlEnt N T es) {s : Int} (h0 : 0 ≤ s) (h1 : s < N) : ∃ es', (DataW.map es).put (.int .i64 s) (.lit (.int .i64 (T s))) = .map es' ∧ tlEnt N T es' := by
 refine ⟨_, rfl, fun p hp => ?_⟩
 rcases tl_insert _ hp with rfl | hp
 ·exact ⟨s, rfl, h0, h1, rfl⟩
 ·exact h p (List.mem_filter.1 hp).1
theorem tl_ne {N : Int} {T : Int → Int} {b g t : Nat} {cs : Array Value} {W : World} (h : tlMap N T b W) (hb : W.heap[g]? = some (.cells cs t (0, 0))) : some g ≠ some b := by
 obtain ⟨_, ⟨a, clock, hm, _⟩, _⟩ := h
 rintro e
 obtain rfl := Option.some.inj e
 rw [hb] at hm
 exact absurd hm (by simp)
theorem own_below {N : Nat} {b : Nat} {W W' : World} {D : DataW Unit} (h : W.ownsMap Try.prog 3 (plainElem Try.prog 3) b N D) (hb : Below W.heap.size W W') : W'.ownsMap Try.prog 3 (plainElem Try.prog 3) b N D :=
 h.kept (row := none) ⟨hb.os, hb.tape, hb.output, hb.size, fun k hk _ => hb.block k hk⟩ (by simp)
theorem tl_below {wb W W' : World} {b : Nat} (hB : Below wb.heap.size wb W) (hg : W.grownBy W' (some b)) (hb : wb.heap.size ≤ b) : Below wb.heap.size wb W' := fr_below hB hg hb
def JAsk (jn : Nat) (jb : Array Value) (J : Int → Int → Bool → Int) (wb : World) : Prop :=
 ∀ (W : World) (r : REdge) (a b : Int) (f : Bool), Below wb.heap.size wb W → Calls Try.prog jn (#[.agg #[.int .i64 r.f0, .int .i64 r.f1, .slice r.A r.n r.c], .int .i64 a, .int .i64 b, .bool f] ++ jb) W fun e w' => e = .returned (.int .i64 (J a b f)) ∧ Below W.heap.size W w'
def impl_graph_int_tally.T10 : Bool × List (List Nat × List Nat) := (true, [([], []), ([], []), ([], []), ([], []), ([], []), ([4], [4]), ([], []), ([], []), ([], []), ([], []), ([3, 5, 6, 7, 8, 9], [3, 5, 6, 7, 8, 9]), ([], []), ([11], [11]), ([0, 1, 2, 10, 12, 10], [0, 1, 2, 10, 12]), ([13, 13, 0, 1, 2, 3, 4, 5, 6, 7, 8, 9, 10, 11, 12, 13], [2, 13])])
def impl_graph_int_tally.B10 : List Nat := [0, 0, 0, 0, 0, 16, 0, 0, 0, 0, 1016, 0, 2048, 8191, 16383]
theorem impl_graph_int_tally.T10_ : rtab .any (opsOf Try.f86 10) = impl_graph_int_tally.T10 := by kernel_rfl
theorem impl_graph_int_tally.B10_ : waitsOk impl_graph_int_tally.T10.2 impl_graph_int_tally.B10 = true := by kernel_rfl
theorem impl_graph_int_tally.on (fo : Nat) (cb : Array Value) (N : Int) (E : Int → List S110) (wb : World) (ee : ∀ args w, (callFunc fo args).run Try.prog w = .ok (.enter fo args) w) (hE : GOut fo cb N E wb)
  (jn : Nat) (jb : Array Value) (J : Int → Int → Bool → Int) (ej : ∀ args w, (callFunc jn args).run Try.prog w = .ok (.enter jn args) w) (hJ : JAsk jn jb J wb) (hJi : ∀ a b f, isI (J a b f))
  (Ad : Option Addr) (cd : Nat) (dist : List Int) (hD : (Kd.int .i64).C wb Ad dist.length dist) (last : Int) (hl : isI last) (b : Nat) (hbb : wb.heap.size ≤ b) (hN : N ≤ 1000000) (hf : tlFalls E N dist)
  (hbest : ∀ s, 0 ≤ s → s < N → impl_graph_int_best.f E N s dist = some (tlBest E dist s) ∧ (tlBest E dist s).length < 1000000) (hDN : (dist.length : Int) = N) (m : Nat)
  (hI : ∀ (s : Int) (W : World), 0 ≤ s → s < N → 0 ≤ rdOf 0 dist s → (rdOf 0 dist s).toNat < m → Below wb.heap.size wb W → tlMap N (tlT E dist J last) b W →
   Calls Try.prog 86 #[.agg #[.int .i64 N, .func (.func fo) #[] cb], .int .i64 s, .slice Ad dist.length cd, .map (some b), .func (.func jn) #[] jb, .int .i64 last] W fun e w' => e = .returned (.int .i64 (tlT E dist J last s)) ∧ tlMap N (tlT E dist J last) b w' ∧ W.grownBy w' (some b))
  (s : Int) (W : World) (h0 : 0 ≤ s) (h1 : s < N) (hds : 0 ≤ rdOf 0 dist s) (hm : (rdOf 0 dist s).toNat = m) (hW : Below wb.heap.size wb W) (hM : tlMap N (tlT E dist J last) b W) :
  Calls Try.prog 86 #[.agg #[.int .i64 N, .func (.func fo) #[] cb], .int .i64 s, .slice Ad dist.length cd, .map (some b), .func (.func jn) #[] jb, .int .i64 last] W fun e w' => e = .returned (.int .i64 (tlT E dist J last s)) ∧ tlMap N (tlT E dist J last) b w' ∧ W.grownBy w' (some b) := by
 have hu := Try.underlying68
 have hu2 := Try.underlying110
 obtain ⟨ad, rfl, hx0⟩ := Kd.at_int hD s h0 (by omega)
 have hx := pw_cell_below hW hx0
 have e0 : rd dist s = rdOf 0 dist s := rfl
 rw [e0] at hx
 have p0 := eq_true h0
 have p1 : (s < (dist.length : Int)) = True := eq_true (by omega)
 have HB := ak_ hW
 have HG := ak_ (World.grownBy.refl W (some b))
 obtain ⟨T, hT⟩ : ∃ T, T = tlT E dist J last := ⟨_, rfl⟩
 have hTz := tlT_zero (E := E) (dist := dist) (J := J) (last := last) s
 have hTn := tlT_eq (J := J) (last := last) hf s h0 h1
 rw [← hT] at hM hI hTz hTn ⊢
 have hTi : isI (T s) := by
  by_cases hz : rdOf 0 dist s = 0
  ·rw [hTz hz]; exact hl
  ·rw [hTn hz]; exact tlFold_isI hJi _ _ _ (by unfold isI; decide)
 have HSI := ak_ (And.intro h0 (And.intro h1 hTi))
 have HI := ak_ hI
 have HDN := ak_ (And.intro hDN hN)
 clear hx0 e0 h0 h1 hI hl hTi hDN hN
 by_cases hz : rdOf 0 dist s = 0
 ·have HM := ak_ hM
  have z1 : (rdOf 0 dist s == 0) = true := beq_iff_eq.mpr hz
  have HT := ak_ (hTz hz)
  clear hM hW hz hTz hTn hT hf hbest hE hJ hD hJi hm hds
  go_enter Try.func86, Try.ntmps86
  go_wp2_with ((with_reducible refine gate_dst (N := 6) rfl ?_); refine box_event ?hg (N := 6) ?hd (cs := #[.int .i64 N, .func (.func fo) #[] cb]) (t := 68) ?hr ?_; (case hd => rfl); (case hg => rfl); (case hr => go_simp <;> rfl); intro gb6 hg w6 hbox hb; have hx2_ := pw_cell_below hb hx; have n9_ := ak_ hbox; have n0_ := ak_ (below_then HB.out HB.out.size hb); have n1_ := ak_ (tlMap_grown HM.out hb); have n2_ := ak_ (gr_below HG.out hb); clear HB HM HG hb hbox hx hg; have HB := n0_; have HM := n1_; have HG := n2_; clear n0_ n1_ n2_; have hx := hx2_; have BK6 := n9_; clear hx2_ n9_; have hz6_0 := (blk_cell BK6.out 0); have hz6_1 := (blk_cell BK6.out 1); simp at hz6_0; simp at hz6_1)
  first | go_ret | go_ret2
  exact ⟨by rw [HT.out]; rfl, tlMap_grown HM.out (by repeat (first | exact Below.refl _ _ | apply bN_ | apply b1_ | apply ba_)), gr_below HG.out (by repeat (first | exact Below.refl _ _ | apply bN_ | apply b1_ | apply ba_))⟩
 ·have z1 : (rdOf 0 dist s == 0) = false := beq_eq_false_iff_ne.mpr hz
  obtain ⟨es, hown, hent⟩ := hM
  have HM := ak_ (show tlMap N T b W from ⟨es, hown, hent⟩)
  have HOWN := ak_ hown
  have HENT := ak_ hent
  have hwf : (Lit.int .i64 s).wf = true := by
   have := HSI.out
   have := HDN.out
   simp [Lit.wf, IntKind.min, IntKind.max, IntKind.signed, IntKind.bits]
   omega
  have HWF := ak_ hwf
  cases hh : Maps.has (.map es) (.int .i64 s)
  rotate_left
  ·have HH := ak_ hh
   clear hown hent hW hz hTz hTn hT hf hbest hE hJ hD hJi hm hds hh hwf
   go_enter Try.func86, Try.ntmps86
   go_wp2_with (first | ((with_reducible refine gate_dst (N := 6) rfl ?_); refine box_event ?hg (N := 6) ?hd (cs := #[.int .i64 N, .func (.func fo) #[] cb]) (t := 68) ?hr ?_; (case hd => rfl); (case hg => rfl); (case hr => go_simp <;> rfl); intro gb6 hg w6 hbox hb; have hx2_ := pw_cell_below hb hx; have n9_ := ak_ hbox; have n0_ := ak_ (below_then HB.out HB.out.size hb); have n1_ := ak_ (tlMap_grown HM.out hb); have n2_ := ak_ (gr_below HG.out hb); have n3_ := ak_ (own_below HOWN.out hb); clear HB HM HG HOWN hb hbox hx hg; have HB := n0_; have HM := n1_; have HG := n2_; have HOWN := n3_; clear n0_ n1_ n2_ n3_; have hx := hx2_; have BK6 := n9_; clear hx2_ n9_; have hz6_0 := (blk_cell BK6.out 0); have hz6_1 := (blk_cell BK6.out 1); simp at hz6_0; simp at hz6_1) | (at_lookup; go_loud (refine wpList_lookup_own_ok_int _ rfl (.tmp 25) (.tmp 26) 108 rfl 3 3 .i64 tl_keyed Try.underlying108 Try.underlying3 rfl b N.toNat (.map es) rfl HOWN.out _ (.int .i64 s) rfl (Maps.keyOf_int_mk Try.underlying3 HWF.out) ?_; intro c hat hwc; rw [HH.out]; have HC := ak_ (show c = T s from (by have h_ := tlEnt_look HENT.out HH.out (.lit (.int .i64 0)); rw [hat] at h_; injection h_ with h_; injection h_)); clear hat hwc)))
   first | go_ret | go_ret2
   exact ⟨by rw [HC.out]; rfl, tlMap_grown HM.out (by repeat (first | exact Below.refl _ _ | apply bN_ | apply b1_ | apply ba_)), gr_below HG.out (by repeat (first | exact Below.refl _ _ | apply bN_ | apply b1_ | apply ba_))⟩
  ·have HH := ak_ hh
   have HTN := ak_ (hTn hz)
   obtain ⟨bs, hbs⟩ : ∃ bs, bs = tlBest E dist s := ⟨_, rfl⟩
   rw [← hbs] at HTN
   have HBEST := ak_ fun (W' : World) (h : Below wb.heap.size wb W') => impl_graph_int_best.calls fo cb N E wb W' ee hE h s (some ad) cd dist bs (Kd.C_below hD h) (by rw [hbs]; exact (hbest s HSI.out.1 HSI.out.2.1).1)
   have HBL := ak_ (show bs.length < 1000000 from by rw [hbs]; exact (hbest s HSI.out.1 HSI.out.2.1).2)
   have HF := ak_ (show ∀ e ∈ bs, (0 ≤ e.f0 ∧ e.f0 < N) ∧ 0 ≤ rdOf 0 dist e.f0 ∧ (rdOf 0 dist e.f0).toNat < m from fun e he => by
    have h_ := hf s HSI.out.1 HSI.out.2.1 e (by rw [← hbs]; exact he)
    exact ⟨h_.1, h_.2.1, by have := h_.2.2; omega⟩)
   have HJ := ak_ hJ
   have HJI := ak_ hJi
   have HBB := ak_ hbb
   clear hown hent hW hz hTz hTn hT hf hbest hE hJ hD hJi hm hds hh hwf hbs hbb
   go_enter Try.func86, Try.ntmps86
   go_wp2_with (first | ((with_reducible refine gate_dst (N := 6) rfl ?_); refine box_event ?hg (N := 6) ?hd (cs := #[.int .i64 N, .func (.func fo) #[] cb]) (t := 68) ?hr ?_; (case hd => rfl); (case hg => rfl); (case hr => go_simp <;> rfl); intro gb6 hg w6 hbox hb; have hx2_ := pw_cell_below hb hx; have n9_ := ak_ hbox; have n0_ := ak_ (below_then HB.out HB.out.size hb); have n1_ := ak_ (tlMap_grown HM.out hb); have n2_ := ak_ (gr_below HG.out hb); have n3_ := ak_ (own_below HOWN.out hb); clear HB HM HG HOWN hb hbox hx hg; have HB := n0_; have HM := n1_; have HG := n2_; have HOWN := n3_; clear n0_ n1_ n2_ n3_; have hx := hx2_; have BK6 := n9_; clear hx2_ n9_; have hz6_0 := (blk_cell BK6.out 0); have hz6_1 := (blk_cell BK6.out 1); simp at hz6_0; simp at hz6_1) | (at_lookup; go_loud (refine wpList_lookup_own_ok_int _ rfl (.tmp 25) (.tmp 26) 108 rfl 3 3 .i64 tl_keyed Try.underlying108 Try.underlying3 rfl b N.toNat (.map es) rfl HOWN.out _ (.int .i64 s) rfl (Maps.keyOf_int_mk Try.underlying3 HWF.out) ?_; intro c hat hwc; rw [HH.out]; clear hat hwc)) | (go_at_call 111; refine (HBEST.out _ HB.out).mono ?_; rintro e w35 ⟨v35, rfl, ho, hb⟩; obtain ⟨Ae, ce, rfl⟩ := Kd.S_slice ho; have HED := ak_ (frEd_of ho); have n0_ := ak_ (blk_below (pk BK6.out) hb); have n1_ := ak_ (below_then HB.out HB.out.size hb); have n2_ := ak_ (tlMap_grown HM.out hb); have n3_ := ak_ (gr_below HG.out hb); clear BK6 HB HM HG hb ho; have BK6 := n0_; have HB := n1_; have HM := n2_; have HG := n3_; clear n0_ n1_ n2_ n3_))
   go_loopg [15, 37] bs.length (fun gg v15 v37 wr => ∃ (j : Nat) (nn : Int), v15 = .int .i64 nn ∧ v37 = .int .i64 (j : Int) ∧ Aside0 (j ≤ bs.length ∧ bs.length - j ≤ gg) ∧ Aside0 (tlFold J T (bs.drop j) j nn = T s) ∧ Aside0 (frEd wr Ae bs) ∧ Aside0 (wr.heap[gb6]? = some (.cells #[.int .i64 N, .func (.func fo) #[] cb] 68 (0, 0))) ∧ Aside0 (tlMap N T b wr) ∧ Aside0 (W.grownBy wr (some b)) ∧ Aside0 (Below wb.heap.size wb wr))
   case atStart => exact ⟨0, 0, rfl, rfl, ⟨⟨Nat.zero_le _, Nat.le_refl _⟩⟩, ⟨HTN.out.symm⟩, HED, ⟨pk BK6.out⟩, ⟨tlMap_grown HM.out (by repeat (first | exact Below.refl _ _ | apply bN_ | apply b1_ | apply ba_))⟩, ⟨gr_below HG.out (by repeat (first | exact Below.refl _ _ | apply bN_ | apply b1_ | apply ba_))⟩, ⟨below_then HB.out HB.out.size (by repeat (first | exact Below.refl _ _ | apply bN_ | apply b1_ | apply ba_))⟩⟩
   case round =>
    clear HTN HED BK6 HM HG HB HOWN HENT HH
    obtain ⟨j, nn, rfl, rfl, HJ1, HFO, HED, BK6, HM, HG, HB⟩ := hrel
    by_cases hj : j < bs.length
    ·have j1 : decide ((j : Int) < (bs.length : Int)) = true := decide_eq_true (by omega)
     have j1n : decide (j < bs.length) = true := decide_eq_true hj
     have j0p : ((0 : Int) ≤ (j : Int)) = True := eq_true (by omega)
     have j1p : ((j : Int) < (bs.length : Int)) = True := eq_true (by omega)
     rcases HED.out with h0 | ⟨ge, cl, rfl, hbe, hcl⟩
     ·exact absurd h0 (by omega)
     have BKE := ak_ hbe
     have HCL := ak_ hcl
     obtain ⟨A2, n2, c2, he0, he1, he2⟩ := hcl (j : Int) (by omega) (by omega)
     rw [Int.toNat_natCast] at he0 he1 he2
     rw [← blk_cell hbe] at he0 he1 he2
     obtain ⟨e, he⟩ : ∃ e, e = rd_T110 bs (j : Int) := ⟨_, rfl⟩
     rw [← he] at he0 he1
     have heq : bs[j] = e := by rw [he]; unfold rd_T110; rw [Int.toNat_natCast, List.getD_eq_getElem?_getD, List.getElem?_eq_getElem hj]; rfl
     have h := HFO.out
     rw [List.drop_eq_getElem_cons hj, heq] at h
     simp only [tlFold] at h
     have HEF := ak_ (HF.out e (by rw [← heq]; exact List.getElem_mem hj))
     have hw37 : IntKind.i64.wrap ((j : Int) + 1) = ((j + 1 : Nat) : Int) := by have := HBL.out; rw [IntWalk.i64_in _ ⟨by omega, by omega⟩]; omega
     have HF2 := ak_ h
     have HJJ := ak_ hj
     clear h hbe hcl he heq HFO hj HED
     go_upto_region 10 with (fail)
     obtain ⟨w17, hw17⟩ : ∃ W, W = wr.alloc (.cells #[.int .i64 e.f0, .int .i64 e.f1, .slice A2 n2 c2] 110) := ⟨_, rfl⟩
     have hb : Below wr.heap.size wr w17 := (by rw [hw17]; exact ba_ (Below.refl _ _) _)
     have hbk : w17.heap[wr.heap.size]? = some (.cells #[.int .i64 e.f0, .int .i64 e.f1, .slice A2 n2 c2] 110 (0, 0)) := (by rw [hw17]; exact blk_new wr _)
     rw [← hw17]
     clear hw17 he0 he1 he2
     have n0_ := ak_ (blk_below BK6.out hb); have n1_ := ak_ (blk_below BKE.out hb); have n2_ := ak_ (below_then HB.out HB.out.size hb); have n3_ := ak_ (tlMap_grown HM.out hb); have n4_ := ak_ (gr_below HG.out hb); clear BK6 BKE HB HM HG hb; have BK6 := n0_; have BKE := n1_; have HB := n2_; have HM := n3_; have HG := n4_; clear n0_ n1_ n2_ n3_ n4_
     obtain ⟨gb17, hg17⟩ : ∃ g, g = wr.heap.size := ⟨_, rfl⟩
     rw [← hg17] at hbk ⊢
     have BK17 := ak_ hbk
     clear hbk hg17
     have n0_ := ak_ (k1_ BK6.out); have n1_ := ak_ (k1_ BKE.out); have n2_ := ak_ (k1_ BK17.out); have n3_ := ak_ (tlMap_grown HM.out (below_drew (Below.refl _ _))); have n4_ := ak_ (gr_below HG.out (below_drew (Below.refl _ _))); have n5_ := ak_ (b1_ HB.out); clear BK6 BKE BK17 HM HG HB; have BK6 := n0_; have BKE := n1_; have BK17 := n2_; have HM := n3_; have HG := n4_; have HB := n5_; clear n0_ n1_ n2_ n3_ n4_ n5_
     refine start_ (n := 15) (S := fun w' => w'.cell? ⟨gb17, 0, none⟩ = some (.int .i64 e.f0) ∧ w'.cell? ⟨gb17, 1, none⟩ = some (.int .i64 e.f1) ∧ w'.cell? ⟨gb17, 2, none⟩ = some (.slice A2 n2 c2) ∧ w'.cell? ⟨gb6, 0, none⟩ = some (.int .i64 N) ∧ w'.cell? ⟨gb6, 1, none⟩ = some (.func (.func fo) #[] cb)) (ds := []) (mb_ 15 0) (by kernel_rfl) rfl rfl ⟨(blk_cell BK17.out 0).trans rfl, (blk_cell BK17.out 1).trans rfl, (blk_cell BK17.out 2).trans rfl, (blk_cell BK6.out 0).trans rfl, (blk_cell BK6.out 1).trans rfl⟩ (fun hHeld => ?_); refine with_tabW impl_graph_int_tally.T10_ impl_graph_int_tally.B10_ (fun HT_ HW_ => ?_)
     generalize w17.drew = w9 at BK6 BKE BK17 HM HG HB hHeld ⊢
     refine pure_ (i := 0) (N := some 42) (v := ?_) (a' := ?_) (mb_ 15 1) rfl rfl (any_of HT_.out (by kernel_rfl)) (fun _ _ _ h => h) (Or.inl ⟨by rfl, ?_⟩) ?_ ?_
     rotate_left
     ·intro w'
      go_simp
      with_reducible rfl
     rotate_left
     ·simp only [Act.put, setIfInBounds_toArray, set_cons_zero, set_cons_succ, i64_w, i32_w]
      rfl
     refine take_ (i := 1) (N := some 43) (v := ?_) (a' := ?_) (mb_ 15 3) rfl rfl (take_ofW HT_.out HW_.out (by kernel_rfl)) (fun _ _ _ h => h) (Or.inl ⟨by rfl, ?_⟩) hHeld ?_ ?_
     rotate_left
     ·rintro w' ⟨s0, s1, s2, s3, s4⟩
      go_simp
      with_reducible rfl
     rotate_left
     ·simp only [Act.put, setIfInBounds_toArray, set_cons_zero, set_cons_succ, i64_w, i32_w]
      rfl
     refine pure_ (i := 2) (N := some 44) (v := ?_) (a' := ?_) (mb_ 15 7) rfl rfl (any_of HT_.out (by kernel_rfl)) (fun _ _ _ h => h) (Or.inl ⟨by rfl, ?_⟩) ?_ ?_
     rotate_left
     ·intro w'
      go_simp
      with_reducible rfl
     rotate_left
     ·simp only [Act.put, setIfInBounds_toArray, set_cons_zero, set_cons_succ, i64_w, i32_w]
      rfl
     refine take_ (i := 3) (N := some 45) (v := ?_) (a' := ?_) (mb_ 15 15) rfl rfl (take_ofW HT_.out HW_.out (by kernel_rfl)) (fun _ _ _ h => h) (Or.inl ⟨by rfl, ?_⟩) hHeld ?_ ?_
     rotate_left
     ·rintro w' ⟨s0, s1, s2, s3, s4⟩
      go_simp
      with_reducible rfl
     rotate_left
     ·simp only [Act.put, setIfInBounds_toArray, set_cons_zero, set_cons_succ, i64_w, i32_w]
      rfl
     refine pure_ (i := 4) (N := some 46) (v := ?_) (a' := ?_) (mb_ 15 31) rfl rfl (any_of HT_.out (by kernel_rfl)) (fun _ _ _ h => h) (Or.inl ⟨by rfl, ?_⟩) ?_ ?_
     rotate_left
     ·intro w'
      go_simp
      with_reducible rfl
     rotate_left
     ·simp only [Act.put, setIfInBounds_toArray, set_cons_zero, set_cons_succ, i64_w, i32_w]
      rfl
     refine take_ (i := 5) (N := some 47) (v := ?_) (a' := ?_) (mb_ 15 63) rfl rfl (take_ofW HT_.out HW_.out (by kernel_rfl)) (fun _ _ _ h => h) (Or.inl ⟨by rfl, ?_⟩) hHeld ?_ ?_
     rotate_left
     ·rintro w' ⟨s0, s1, s2, s3, s4⟩
      go_simp
      with_reducible rfl
     rotate_left
     ·simp only [Act.put, setIfInBounds_toArray, set_cons_zero, set_cons_succ, i64_w, i32_w]
      rfl
     refine pure_ (i := 6) (N := some 48) (v := ?_) (a' := ?_) (mb_ 15 127) rfl rfl (any_of HT_.out (by kernel_rfl)) (fun _ _ _ h => h) (Or.inl ⟨by rfl, ?_⟩) ?_ ?_
     rotate_left
     ·intro w'
      go_simp
      with_reducible rfl
     rotate_left
     ·simp only [Act.put, setIfInBounds_toArray, set_cons_zero, set_cons_succ, i64_w, i32_w]
      rfl
     refine pure_ (i := 7) (N := some 49) (v := ?_) (a' := ?_) (mb_ 15 255) rfl rfl (any_of HT_.out (by kernel_rfl)) (fun _ _ _ h => h) (Or.inl ⟨by rfl, ?_⟩) ?_ ?_
     rotate_left
     ·intro w'
      go_simp
      with_reducible rfl
     rotate_left
     ·simp only [Act.put, setIfInBounds_toArray, set_cons_zero, set_cons_succ, i64_w, i32_w]
      rfl
     refine pure_ (i := 8) (N := some 50) (v := ?_) (a' := ?_) (mb_ 15 511) rfl rfl (any_of HT_.out (by kernel_rfl)) (fun _ _ _ h => h) (Or.inl ⟨by rfl, ?_⟩) ?_ ?_
     rotate_left
     ·intro w'
      go_simp
      with_reducible rfl
     rotate_left
     ·simp only [Act.put, setIfInBounds_toArray, set_cons_zero, set_cons_succ, i64_w, i32_w]
      rfl
     refine pure_ (i := 9) (N := some 51) (v := ?_) (a' := ?_) (mb_ 15 1023) rfl rfl (any_of HT_.out (by kernel_rfl)) (fun _ _ _ h => h) (Or.inl ⟨by rfl, ?_⟩) ?_ ?_
     rotate_left
     ·intro w'
      go_simp
      with_reducible rfl
     rotate_left
     ·simp only [Act.put, setIfInBounds_toArray, set_cons_zero, set_cons_succ, i64_w, i32_w]
      rfl
     refine pure_ (i := 11) (N := some 53) (v := ?_) (a' := ?_) (mb_ 15 3071) rfl rfl (any_of HT_.out (by kernel_rfl)) (fun _ _ _ h => h) (Or.inl ⟨by rfl, ?_⟩) ?_ ?_
     rotate_left
     ·intro w'
      go_simp
      with_reducible rfl
     rotate_left
     ·simp only [Act.put, setIfInBounds_toArray, set_cons_zero, set_cons_succ, i64_w, i32_w]
      rfl
     refine pure_ (i := 12) (N := some 54) (v := ?_) (a' := ?_) (mb_ 15 7167) rfl rfl (any_of HT_.out (by kernel_rfl)) (fun _ _ _ h => h) (Or.inl ⟨by rfl, ?_⟩) ?_ ?_
     rotate_left
     ·intro w'
      go_simp
      with_reducible rfl
     rotate_left
     ·simp only [Act.put, setIfInBounds_toArray, set_cons_zero, set_cons_succ, i64_w, i32_w]
      rfl
     refine one_ (i := 10) (N := some 52) (mb_ 15 8191) rfl rfl (one_of HT_.out (by kernel_rfl)) (by decide) (fun K hK => ?_)
     refine goes_ Try.func86 (by kernel_rfl) rfl #[.agg #[.int .i64 N, .func (.func fo) #[] cb], .int .i64 e.f0, .slice (some ad) dist.length cd, .map (some b), .func (.func jn) #[] jb, .int .i64 last] (by rfl) rfl rfl (by first | rfl | (simp only [map_toArray, map_cons, map_nil]; try rfl)) ?_
     refine (HI.out e.f0 _ HEF.out.1.1 HEF.out.1.2 HEF.out.2.1 HEF.out.2.2 HB.out HM.out).mono ?_
     rintro e_ w10 ⟨rfl, hm2, hg2⟩
     refine ⟨_, rfl, ?_⟩
     have n0_ := ak_ (blk_grown BK6.out hg2 (tl_ne HM.out BK6.out)); have n1_ := ak_ (blk_grown BKE.out hg2 (tl_ne HM.out BKE.out)); have n2_ := ak_ (blk_grown BK17.out hg2 (tl_ne HM.out BK17.out)); have n3_ := ak_ (gr_gr HG.out hg2); have n4_ := ak_ (tl_below HB.out hg2 HBB.out); have n5_ := ak_ (hm2); clear BK6 BKE BK17 HG HB HM hm2 hg2; have BK6 := n0_; have BKE := n1_; have BK17 := n2_; have HG := n3_; have HB := n4_; have HM := n5_; clear n0_ n1_ n2_ n3_ n4_ n5_
     refine hK.out _ _ ⟨(blk_cell BK17.out 0).trans rfl, (blk_cell BK17.out 1).trans rfl, (blk_cell BK17.out 2).trans rfl, (blk_cell BK6.out 0).trans rfl, (blk_cell BK6.out 1).trans rfl⟩ (fun hHeld => ?_)
     clear hK K
     refine norm_ (a' := ?_) ?_ ?_
     rotate_left
     ·show Act.put _ (some 52) _ = _
      simp only [Act.put, setIfInBounds_toArray, set_cons_zero, set_cons_succ, i64_w, i32_w]
      rfl
     refine one_ (i := 13) (N := some 55) (mb_ 15 16383) rfl rfl (one_of HT_.out (by kernel_rfl)) (by decide) (fun K hK => ?_)
     refine goesv_ (.tmp 42) jb (#[.agg #[.int .i64 e.f0, .int .i64 e.f1, .slice A2 n2 c2], .int .i64 nn, .int .i64 (T e.f0), .bool ((j : Int) == 0)] ++ jb) rfl (ej _ _) (by rfl) rfl rfl (by simp only [List.map_toArray, List.map_cons, List.map_nil]; rfl) ?_
     refine (HJ.out _ ⟨e.f0, e.f1, A2, n2, c2⟩ nn (T e.f0) ((j : Int) == 0) HB.out).mono ?_
     rintro e_ w11 ⟨rfl, hb2⟩
     refine ⟨_, rfl, ?_⟩
     have n0_ := ak_ (blk_below BK6.out hb2); have n1_ := ak_ (blk_below BKE.out hb2); have n2_ := ak_ (blk_below BK17.out hb2); have n3_ := ak_ (tlMap_grown HM.out hb2); have n4_ := ak_ (gr_below HG.out hb2); have n5_ := ak_ (below_then HB.out HB.out.size hb2); clear BK6 BKE BK17 HM HG HB hb2; have BK6 := n0_; have BKE := n1_; have BK17 := n2_; have HM := n3_; have HG := n4_; have HB := n5_; clear n0_ n1_ n2_ n3_ n4_ n5_
     refine hK.out _ _ ⟨(blk_cell BK17.out 0).trans rfl, (blk_cell BK17.out 1).trans rfl, (blk_cell BK17.out 2).trans rfl, (blk_cell BK6.out 0).trans rfl, (blk_cell BK6.out 1).trans rfl⟩ (fun hHeld => ?_)
     clear hK K
     refine norm_ (a' := ?_) ?_ ?_
     rotate_left
     ·show Act.put _ (some 55) _ = _
      simp only [Act.put, setIfInBounds_toArray, set_cons_zero, set_cons_succ, i64_w, i32_w]
      rfl
     refine pure_ (i := 14) (N := some 15) (v := ?_) (a' := ?_) (mb_ 15 32767) rfl rfl (any_of HT_.out (by kernel_rfl)) (fun _ _ _ h => h) (Or.inl ⟨by rfl, ?_⟩) ?_ ?_
     rotate_left
     ·intro w'
      go_simp
      with_reducible rfl
     rotate_left
     ·simp only [Act.put, setIfInBounds_toArray, set_cons_zero, set_cons_succ, i64_w, i32_w]
      rfl
     refine done_ (done_of HT_.out (by kernel_rfl)) ?_
     try go_wp2
     go_roundg (bs.length - (j + 1))
     case measure => have := HJ1.out; have := HJJ.out; omega
     case rel => exact ⟨j + 1, J nn (T e.f0) ((j : Int) == 0), rfl, (by first | rfl | (simp; done)), ⟨⟨by have := HJJ.out; omega, Nat.le_refl _⟩⟩, HF2, ⟨.inr ⟨ge, cl, rfl, pk BKE.out, HCL.out⟩⟩, ⟨pk BK6.out⟩, ⟨tlMap_grown HM.out (by repeat (first | exact Below.refl _ _ | apply bN_ | apply b1_ | apply ba_))⟩, ⟨gr_below HG.out (by repeat (first | exact Below.refl _ _ | apply bN_ | apply b1_ | apply ba_))⟩, ⟨below_then HB.out HB.out.size (by repeat (first | exact Below.refl _ _ | apply bN_ | apply b1_ | apply ba_))⟩⟩
    ·have j1 : decide ((j : Int) < (bs.length : Int)) = false := decide_eq_false (by omega)
     have j1n : decide (j < bs.length) = false := decide_eq_false hj
     have h := HFO.out
     rw [List.drop_of_length_le (by omega)] at h
     have HNN := ak_ (show nn = T s from h)
     clear h HFO hj
     obtain ⟨es2, hown2, hent2⟩ := HM.out
     obtain ⟨es3, e3, hent3⟩ := tlEnt_put hent2 HSI.out.1 HSI.out.2.1
     have HOWN2 := ak_ hown2
     have HENT3 := ak_ hent3
     have HE3 := ak_ e3
     clear hown2 hent2 hent3 e3 HM
     go_wp2_with (at_mapUpdate; go_loud (refine wpList_mapUpdate_own _ rfl (.tmp 57) (.tmp 58) (.tmp 59) 108 rfl 3 3 tl_keyed Try.underlying108 (plainElem Try.prog 3) b N.toNat (.map es2) rfl HOWN2.out ?hn _ _ (.int .i64 s) rfl rfl (Maps.keyOf_int_mk Try.underlying3 HWF.out) (.lit (.int .i64 (T s))) [] ?hval ?_; (case hn => (have := HDN.out; unfold maxLen; omega)); (case hval => (rw [HNN.out]; exact plainElem_int Try.underlying3 HSI.out.2.2)); intro w12 hown3 hgr; rw [HE3.out] at hown3; have HM := ak_ (tlMap_of hown3 HENT3.out); have n0_ := ak_ (gr_gr HG.out hgr); clear HG hgr hown3; have HG := n0_; clear n0_))
     first | go_ret | go_ret2
     exact ⟨by rw [← HNN.out]; rfl, tlMap_grown HM.out (by repeat (first | exact Below.refl _ _ | apply bN_ | apply b1_ | apply ba_)), gr_below HG.out (by repeat (first | exact Below.refl _ _ | apply bN_ | apply b1_ | apply ba_))⟩
theorem impl_graph_int_tally.calls (fo : Nat) (cb : Array Value) (N : Int) (E : Int → List S110) (wb : World) (ee : ∀ args w, (callFunc fo args).run Try.prog w = .ok (.enter fo args) w) (hE : GOut fo cb N E wb)
  (jn : Nat) (jb : Array Value) (J : Int → Int → Bool → Int) (ej : ∀ args w, (callFunc jn args).run Try.prog w = .ok (.enter jn args) w) (hJ : JAsk jn jb J wb) (hJi : ∀ a b f, isI (J a b f))
  (Ad : Option Addr) (cd : Nat) (dist : List Int) (hD : (Kd.int .i64).C wb Ad dist.length dist) (last : Int) (hl : isI last) (b : Nat) (hbb : wb.heap.size ≤ b) (hN : N ≤ 1000000) (hf : tlFalls E N dist)
  (hbest : ∀ s, 0 ≤ s → s < N → impl_graph_int_best.f E N s dist = some (tlBest E dist s) ∧ (tlBest E dist s).length < 1000000) (hDN : (dist.length : Int) = N) (m : Nat) :
  ∀ (s : Int) (W : World), 0 ≤ s → s < N → 0 ≤ rdOf 0 dist s → (rdOf 0 dist s).toNat = m → Below wb.heap.size wb W → tlMap N (tlT E dist J last) b W →
   Calls Try.prog 86 #[.agg #[.int .i64 N, .func (.func fo) #[] cb], .int .i64 s, .slice Ad dist.length cd, .map (some b), .func (.func jn) #[] jb, .int .i64 last] W fun e w' => e = .returned (.int .i64 (tlT E dist J last s)) ∧ tlMap N (tlT E dist J last) b w' ∧ W.grownBy w' (some b) := by
 induction m using Nat.strongRecOn with
 | _ m ih =>
  intro s W h0 h1 hds hm hW hM
  exact impl_graph_int_tally.on fo cb N E wb ee hE jn jb J ej hJ hJi Ad cd dist hD last hl b hbb hN hf hbest hDN m (fun s' W' a0 a1 a2 a3 a4 a5 => ih _ a3 s' W' a0 a1 a2 rfl a4 a5) s W h0 h1 hds hm hW hM
def grOk (E : Int → List S110) (N : Int) (s : Int) (dist : List Int) : Bool :=
 decide (N ≤ 1000000) && (decide (0 ≤ s) && (decide (s < N) && (decide ((dist.length : Int) = N) && (decide (0 ≤ rdOf 0 dist s) && (dist.all (fun x => decide (x < 1000000000000)) &&
  (List.range N.toNat).all fun i => decide ((E (i : Int)).length < 1000000) && (E (i : Int)).all fun e => decide (0 ≤ e.f0) && (decide (e.f0 < N) && (decide (1 ≤ e.f1) && decide (e.f1 < 1000000))))))))
structure GrOk (E : Int → List S110) (N : Int) (s : Int) (dist : List Int) : Prop where
 n : N ≤ 1000000
 s0 : 0 ≤ s
 s1 : s < N
 len : (dist.length : Int) = N
 ds : 0 ≤ rdOf 0 dist s
 d : ∀ x ∈ dist, x < 1000000000000
 e : ∀ t, 0 ≤ t → t < N → (E t).length < 1000000 ∧ ∀ e ∈ E t, 0 ≤ e.f0 ∧ e.f0 < N ∧ 1 ≤ e.f1 ∧ e.f1 < 1000000
theorem grOk_iff {E : Int → List S110} {N : Int} {s : Int} {dist : List Int} (h : grOk E N s dist = true) : GrOk E N s dist := by
 unfold grOk at h
 simp only [Bool.and_eq_true, decide_eq_true_eq, List.all_eq_true, List.mem_range] at h
 obtain ⟨h1, h2, h3, h4, h5, h6, h7⟩ := h
 refine ⟨h1, h2, h3, h4, h5, h6, fun t t0 t1 => ?_⟩
 have h8 := h7 t.toNat (by omega)
 rw [Int.toNat_of_nonneg t0] at h8
 exact ⟨h8.1, fun e he => h8.2 e he⟩
theorem rdOf_mem {dist : List Int} {t : Int} (h0 : 0 ≤ t) (h1 : t < (dist.length : Int)) : rdOf 0 dist t ∈ dist := by
 unfold rdOf
 rw [List.getD_eq_getElem?_getD, List.getElem?_eq_getElem (by omega)]
 exact List.getElem_mem _
theorem GrOk.falls {E : Int → List S110} {N : Int} {s : Int} {dist : List Int} (h : GrOk E N s dist) : tlFalls E N dist := by
 intro t t0 t1 e he
 unfold tlBest at he
 rw [List.mem_filter] at he
 obtain ⟨hm, ho⟩ := he
 obtain ⟨a0, a1, a2, a3⟩ := (h.e t t0 t1).2 e hm
 have hd := h.d _ (rdOf_mem a0 (by rw [h.len]; exact a1))
 simp only [offWay, Bool.not_eq_true', Bool.or_eq_false_iff, decide_eq_false_iff_not, bne_eq_false_iff_eq] at ho
 obtain ⟨o1, o2⟩ := ho
 have hw : wrap64 (rdOf 0 dist e.f0 + e.f1) = rdOf 0 dist e.f0 + e.f1 := by unfold wrap64; omega
 rw [hw] at o2
 exact ⟨⟨a0, a1⟩, by omega, by omega⟩
theorem GrOk.best {E : Int → List S110} {N : Int} {s : Int} {dist : List Int} (h : GrOk E N s dist) (t : Int) (t0 : 0 ≤ t) (t1 : t < N) : impl_graph_int_best.f E N t dist = some (tlBest E dist t) ∧ (tlBest E dist t).length < 1000000 := by
 obtain ⟨a, b⟩ := h.e t t0 t1
 unfold impl_graph_int_best.f
 rw [if_pos ⟨t0, t1, h.len, a⟩, if_pos (List.all_eq_true.2 (fun e he => by have := b e he; simp only [Bool.and_eq_true, decide_eq_true_eq]; exact ⟨this.1, this.2.1⟩))]
 exact ⟨rfl, Nat.lt_of_le_of_lt (List.length_filter_le _ _) a⟩
theorem GOut.up {fo : Nat} {cb : Array Value} {N : Int} {E : Int → List S110} {w w0 : World} (h : GOut fo cb N E w) (hb : Below w.heap.size w w0) : GOut fo cb N E w0 := fun W s hW => h W s (below_then hb hb.size hW)
theorem frRun_congr {E E' : Int → List S110} {N : Int} (h : ∀ s, 0 ≤ s → s < N → E s = E' s) : ∀ k d i dist w, frRun E N k d i dist w = frRun E' N k d i dist w
 | 0, _, _, _, _ => rfl
 | k + 1, d, i, dist, w => by
  rw [frRun.eq_2, frRun.eq_2]
  by_cases hs : 0 ≤ rdOf 0 (w.getD d []) (i : Int) ∧ rdOf 0 (w.getD d []) (i : Int) < N
  ·rw [h _ hs.1 hs.2]
   simp only [frRun_congr h k]
  ·have e1 : ¬ (0 ≤ rdOf 0 (w.getD d []) (i : Int) ∧ rdOf 0 (w.getD d []) (i : Int) < N ∧ i < 1000000 ∧ d < 1000000 ∧ (E (rdOf 0 (w.getD d []) (i : Int))).length < 1000000) := fun hc => hs ⟨hc.1, hc.2.1⟩
   have e2 : ¬ (0 ≤ rdOf 0 (w.getD d []) (i : Int) ∧ rdOf 0 (w.getD d []) (i : Int) < N ∧ i < 1000000 ∧ d < 1000000 ∧ (E' (rdOf 0 (w.getD d []) (i : Int))).length < 1000000) := fun hc => hs ⟨hc.1, hc.2.1⟩
   simp only [if_neg e1, if_neg e2, frRun_congr h k]
theorem tlV_congr {E E' : Int → List S110} {N : Int} {dist : List Int} {J : Int → Int → Bool → Int} {last : Int} (h : ∀ s, 0 ≤ s → s < N → E s = E' s) (hf : tlFalls E N dist) : ∀ k s, 0 ≤ s → s < N → tlV E dist J last k s = tlV E' dist J last k s
 | 0, _, _, _ => rfl
 | k + 1, s, s0, s1 => by
  unfold tlV
  have e : tlBest E' dist s = tlBest E dist s := by unfold tlBest; rw [h s s0 s1]
  rw [e]
  split
  ·rfl
  ·exact tlFold_same _ _ _ (fun x hx => tlV_congr h hf k x.f0 (hf s s0 s1 x hx).1.1 (hf s s0 s1 x hx).1.2)
theorem grOk_congr {E E' : Int → List S110} {N : Int} {s : Int} {dist : List Int} (h : ∀ s, 0 ≤ s → s < N → E s = E' s) : grOk E N s dist = grOk E' N s dist := by
 unfold grOk
 have e : ∀ i ∈ List.range N.toNat, E (i : Int) = E' (i : Int) := fun i hi => h i (by omega) (by rw [List.mem_range] at hi; omega)
 congr 6
 refine Bool.eq_iff_iff.2 ?_
 rw [List.all_eq_true, List.all_eq_true]
 constructor
 ·intro h2 i hi
  rw [← e i hi]; exact h2 i hi
 ·intro h2 i hi
  rw [e i hi]; exact h2 i hi
def grE (g : Int → Option (List S110)) : Int → List S110 := fun s => (g s).getD []
def grAll (g : Int → Option (List S110)) (N : Int) : Bool := (List.range N.toNat).all fun i => (g (i : Int)).isSome
theorem grAll_at {g : Int → Option (List S110)} {N : Int} (h : grAll g N = true) (s : Int) (s0 : 0 ≤ s) (s1 : s < N) : g s = some (grE g s) := by
 have h2 := List.all_eq_true.1 h s.toNat (List.mem_range.2 (by omega))
 rw [Int.toNat_of_nonneg s0] at h2
 unfold grE
 cases hg : g s with
 | none => rw [hg] at h2; exact absurd h2 (by simp)
 | some r => rfl
theorem grAll_le {g g' : Int → Option (List S110)} {N : Int} (hg : ∀ s, LeO (g s) (g' s)) (h : grAll g N = true) : grAll g' N = true ∧ ∀ s, 0 ≤ s → s < N → grE g s = grE g' s := by
 have h2 : ∀ s, 0 ≤ s → s < N → g' s = some (grE g s) := fun s s0 s1 => hg s _ (grAll_at h s s0 s1)
 refine ⟨List.all_eq_true.2 (fun i hi => ?_), fun s s0 s1 => ?_⟩
 ·rw [h2 i (by omega) (by rw [List.mem_range] at hi; omega)]; rfl
 ·show grE g s = (g' s).getD []
  rw [h2 s s0 s1]; rfl
def frG (g : Int → Option (List S110)) (k : Nat) (N : Int) (starts : List Int) : Option (List Int) := if grAll g N = true then impl_graph_int_from.f (grE g) k N starts else none
theorem frG_mono {g g' : Int → Option (List S110)} (hg : ∀ s, LeO (g s) (g' s)) (k : Nat) (N : Int) (starts : List Int) : LeO (frG g k N starts) (frG g' (k + 1) N starts) := by
 intro r h
 unfold frG at h ⊢
 by_cases ha : grAll g N = true
 ·rw [if_pos ha] at h
  obtain ⟨h1, h2⟩ := grAll_le hg ha
  rw [if_pos h1]
  have h3 := impl_graph_int_from.mono _ _ _ _ r h
  unfold impl_graph_int_from.f at h3 ⊢
  simp only [frRun_congr h2] at h3
  exact h3
 ·rw [if_neg ha] at h; exact absurd h (by simp)
theorem GOut.of {fo : Nat} {cb : Array Value} {N : Int} {g : Int → Option (List S110)} {w0 : World} (ha : grAll g N = true)
  (h : ∀ (W : World) (s : Int) (es : List S110), Below w0.heap.size w0 W → g s = some es → Calls Try.prog fo (#[.int .i64 s] ++ cb) W fun e w' => ∃ v : Value, e = .returned v ∧ Kd.S k110 110 w' W.heap.size (fun _ => True) v es ∧ Below W.heap.size W w') : GOut fo cb N (grE g) w0 :=
 fun W s hW s0 s1 => h W s _ hW (grAll_at ha s s0 s1)
theorem impl_graph_int_count.calls_1 (wb : World) : JAsk 87 #[] (fun a b _ => wrap64 (a + b)) wb := by
 intro W r a b f hW
 have hu := Try.underlying110
 rw [Array.append_empty]
 go_enter Try.func87, Try.ntmps87
 go_wp2
 first | go_ret | go_ret2
 exact ⟨rfl, (by repeat (first | exact Below.refl _ _ | apply bN_ | apply b1_ | apply ba_))⟩
def impl_graph_int_count.f (E : Int → List S110) (N : Int) (s : Int) (dist : List Int) : Option Int := if grOk E N s dist = true then some (tlT E dist (fun a b _ => wrap64 (a + b)) 1 s) else none
theorem impl_graph_int_count.calls (fo : Nat) (cb : Array Value) (N : Int) (E : Int → List S110) (w w0 : World) (ee : ∀ args w, (callFunc fo args).run Try.prog w = .ok (.enter fo args) w) (hE : GOut fo cb N E w) (hb0 : Below w.heap.size w w0)
  (s : Int) (Ad : Option Addr) (cd : Nat) (dist : List Int) (r : Int) (hd : (Kd.int .i64).C w0 Ad dist.length dist) (h : impl_graph_int_count.f E N s dist = some r) :
  Calls Try.prog 43 #[.agg #[.int .i64 N, .func (.func fo) #[] cb], .int .i64 s, .slice Ad dist.length cd] w0 fun e w' => e = .returned (.int .i64 r) ∧ Below w0.heap.size w0 w' := by
 have hu := Try.underlying68
 unfold impl_graph_int_count.f at h
 by_cases hok : grOk E N s dist = true
 rotate_left
 ·rw [if_neg hok] at h; exact absurd h (by simp)
 rw [if_pos hok] at h
 have hG := grOk_iff hok
 obtain ⟨T, hT⟩ : ∃ T, T = tlT E dist (fun a b _ => wrap64 (a + b)) 1 := ⟨_, rfl⟩
 have HT := ak_ fun (b : Nat) (hbb : w0.heap.size ≤ b) (W : World) (hW : Below w0.heap.size w0 W) (hM : tlMap N T b W) => (show Calls Try.prog 86 #[.agg #[.int .i64 N, .func (.func fo) #[] cb], .int .i64 s, .slice Ad dist.length cd, .map (some b), .func (.func 87) #[] #[], .int .i64 1] W fun e w' => e = .returned (.int .i64 (T s)) ∧ tlMap N T b w' ∧ W.grownBy w' (some b) from by
  rw [hT] at hM ⊢
  exact impl_graph_int_tally.calls fo cb N E w0 ee (hE.up hb0) 87 #[] (fun a b _ => wrap64 (a + b)) (enters_of Try.func87 (by kernel_rfl) rfl) (impl_graph_int_count.calls_1 w0) (fun a b _ => wrap64_wf _) Ad cd dist hd 1 (by unfold isI; decide) b hbb hG.n hG.falls hG.best hG.len _ s W hG.s0 hG.s1 hG.ds rfl hW hM)
 obtain rfl := Option.some.inj h
 rw [← hT]
 have HB := ak_ (Below.refl w0.heap.size w0)
 have hmm := @run_makeMap Try.prog
 clear h hok hG hT hd hE hb0
 go_enter Try.func43, Try.ntmps43
 go_wp2_with (first | ((with_reducible refine gate_dst (N := 3) rfl ?_); refine box_event ?hg (N := 3) ?hd (cs := #[.int .i64 N, .func (.func fo) #[] cb]) (t := 68) ?hr ?_; (case hd => rfl); (case hg => rfl); (case hr => go_simp <;> rfl); intro gb3 hg w3 hbox hb; have nb_ := ak_ (bs_ (bb_ HB.out) hb); have nc_ := ak_ hbox; have nd_ := ak_ ((by rw [hg]; exact (bz_ (bb_ HB.out)) : w0.heap.size ≤ gb3)); clear HB hb hbox hg; have HB := nb_; have BK3 := nc_; have GE3 := nd_; clear nb_ nc_ nd_; have hz3_0 := (blk_cell BK3.out 0); have hf3_0 := (blk_frozen BK3.out 0); simp at hz3_0; have hz3_1 := (blk_cell BK3.out 1); have hf3_1 := (blk_frozen BK3.out 1); simp at hz3_1; skip) | (go_at_call 86; go_loud (refine (HT.out _ ?hb _ ?hW (tlMap_of (World.ownsMap_made _ _ _ _) (fun p hp => by simp at hp))).mono ?_; (case hb => exact bz_ (bb_ HB.out)); (case hW => exact (bb_ HB.out)); rintro e w11 ⟨rfl, -, hg⟩; have n0_ := ak_ (tl_below (wb := w0) (bb_ HB.out) hg (bz_ (bb_ HB.out))); clear HB HT hg; have HB := n0_; clear n0_)))
 first | go_ret | go_ret2
 exact ⟨rfl, (bb_ HB.out)⟩
def coG (g : Int → Option (List S110)) (N : Int) (s : Int) (dist : List Int) : Option Int := if grAll g N = true then impl_graph_int_count.f (grE g) N s dist else none
theorem coG_mono {g g' : Int → Option (List S110)} (hg : ∀ s, LeO (g s) (g' s)) (N : Int) (s : Int) (dist : List Int) : LeO (coG g N s dist) (coG g' N s dist) := by
 intro r h
 unfold coG at h ⊢
 by_cases ha : grAll g N = true
 ·rw [if_pos ha] at h
  obtain ⟨h1, h2⟩ := grAll_le hg ha
  rw [if_pos h1]
  unfold impl_graph_int_count.f at h ⊢
  rw [← grOk_congr h2]
  by_cases hok : grOk (grE g) N s dist = true
  ·rw [if_pos hok] at h ⊢
   have hG := grOk_iff hok
   rw [← h]
   congr 1
   exact (tlV_congr h2 hG.falls _ s hG.s0 hG.s1).symm
  ·rw [if_neg hok] at h; exact absurd h (by simp)
 ·rw [if_neg ha] at h; exact absurd h (by simp)
def impl_in.f (a0 : Int) (a1 : Int) (a2 : Int) : Option (Bool) := if a1 ≤ a0 then (some (decide (a0 ≤ a2))) else (some false)
theorem impl_in.calls (a0 : Int) (a1 : Int) (a2 : Int) (r : Bool) (w : World) (h : impl_in.f a0 a1 a2 = some r) :
  Calls Try.prog 82 #[.int .i64 a0, .int .i64 a1, .int .i64 a2] w fun e w' => e = .returned (.bool r) ∧ Drawn0 w w' := by
 have H : (if a1 ≤ a0 then (some (decide (a0 ≤ a2))) else (some false)) = some r := h
 clear h
 by_cases c4 : a1 ≤ a0
 ·rw [if_pos c4] at H
  have c4b0 : decide (a1 ≤ a0) = true := decide_eq_true c4
  clear c4
  obtain rfl := Option.some.inj H
  go_enter Try.func82, Try.ntmps82
  go_wp2
  go_ret
  exact ⟨by first | rfl | (simp; done) | (simp [*]; done), by repeat (first | exact Drawn0.refl _ | apply Drawn0.step)⟩
 ·rw [if_neg c4] at H
  have c4b0 : decide (a1 ≤ a0) = false := decide_eq_false c4
  clear c4
  obtain rfl := Option.some.inj H
  go_enter Try.func82, Try.ntmps82
  go_wp2
  go_ret
  exact ⟨by first | rfl | (simp; done) | (simp [*]; done), by repeat (first | exact Drawn0.refl _ | apply Drawn0.step)⟩
def anyO {α : Type} (p : α → Option Bool) : List α → Option Bool
 | [] => some false
 | x :: xs => (p x).bind fun b => if b = true then some true else anyO p xs
theorem anyO_some {α : Type} (p : α → Bool) (l : List α) : anyO (fun x => some (p x)) l = some (l.any p) := by
 induction l with
 | nil => rfl
 | cons x xs ih =>
  simp only [anyO, Option.bind_some, List.any_cons]
  cases p x
  ·simpa using ih
  ·simp
theorem anyO_mono {α : Type} {p q : α → Option Bool} (h : ∀ x, LeO (p x) (q x)) : ∀ l, LeO (anyO p l) (anyO q l)
 | [] => LeO.refl _
 | x :: xs => by
  unfold anyO
  refine LeO.bind (h x) (fun b => ?_)
  exact LeO.ite (LeO.refl _) (anyO_mono h xs)
theorem drop_at_i64 {l : List (Int)} {kk : Nat} (h : kk < l.length) : l.drop kk = rd l (kk : Int) :: l.drop (kk + 1) := by
 rw [List.drop_eq_getElem_cons h]
 simp [rd, List.getD_eq_getElem?_getD, List.getElem?_eq_getElem h]
theorem slices_IndexFunc_int_int.calls_fn (g : Nat) (lb : Array Value) (eg : ∀ args w, (callFunc g args).run Try.prog w = .ok (.enter g args) w) (p : Int → Option Bool)
  (A : Option Addr) (c : Nat) (l : List (Int)) (w : World) (hr : Kd.C (Kd.int .i64) w A l.length l)
  (hp : ∀ (W : World) (x : Int) (r : Bool), Below w.heap.size w W → p x = some r → Calls Try.prog g (#[.int .i64 x] ++ lb) W fun e w' => e = .returned (.bool r) ∧ Below W.heap.size W w')
  (r : Bool) (h : anyO p l = some r) :
  Calls Try.prog 163 #[.slice A l.length c, .func (.func g) #[] lb] w fun e w' => (∃ i : Int, e = .returned (.int .i64 i) ∧ decide (i ≥ 0) = r) ∧ Below w.heap.size w w' := by
 have HR0 := ak_ hr
 clear hr
 go_enter Try.func163, Try.ntmps163
 go_wp2
 go_loopg [5, 8] l.length (fun gg _ s8 wr => ∃ kk : Nat, kk ≤ l.length ∧ l.length - kk ≤ gg ∧ s8 = .int .i64 kk ∧ Aside0 (Below w.heap.size w wr) ∧ Aside0 (anyO p (l.drop kk) = some r))
 case atStart => exact ⟨0, Nat.zero_le _, by omega, rfl, ⟨Below.refl _ w⟩, ⟨h⟩⟩
 case round =>
  clear h
  obtain ⟨kk, hkk, hg, rfl, BW, A0⟩ := hrel
  have hbig := HR0.out.2.1
  by_cases hlt : kk < l.length
  ·have hltz : (kk : Int) < (l.length : Int) := by omega
   have hA := A0.out
   clear A0
   rw [drop_at_i64 hlt] at hA
   simp only [anyO] at hA
   obtain ⟨b, hb0, hb⟩ := Option.bind_eq_some_iff.mp hA
   clear hA
   obtain ⟨ad, eA, hx⟩ := Kd.at_int (Kd.C_below HR0.out BW.out) (kk : Int) (by omega) (by omega)
   cases eA
   simp only [Int.toNat_natCast] at hx
   have hcall := hp wr _ b BW.out hb0
   clear hp
   cases b with
   | true =>
    obtain rfl : true = r := by simpa using hb
    go_wp2_with (go_at_fn g; refine hcall.mono ?_; rintro e w' ⟨rfl, hb'⟩)
    go_ret
    exact ⟨⟨_, rfl, by simp⟩, BW.out.trans (hb'.mono BW.out.size)⟩
   | false =>
    have hb2 : anyO p (l.drop (kk + 1)) = some r := by simpa using hb
    have HB2 := ak_ hb2
    clear hb hb2
    go_wp2_with (go_at_fn g; refine hcall.mono ?_; rintro e w' ⟨rfl, hb'⟩)
    go_roundg (l.length - (kk + 1))
    case measure => omega
    case rel => exact ⟨kk + 1, by omega, by omega, by go_num, ⟨BW.out.trans (hb'.mono BW.out.size)⟩, HB2⟩
  ·have hltz : ¬ (kk : Int) < (l.length : Int) := by omega
   have : kk = l.length := by omega
   subst this
   have hA := A0.out
   clear A0
   rw [List.drop_length] at hA
   obtain rfl : false = r := by simpa [anyO] using hA
   go_wp2
   go_ret
   exact ⟨⟨_, rfl, by decide⟩, BW.out⟩
theorem slices_ContainsFunc_int_int.calls_fn (g : Nat) (lb : Array Value) (eg : ∀ args w, (callFunc g args).run Try.prog w = .ok (.enter g args) w) (p : Int → Option Bool)
  (A : Option Addr) (c : Nat) (l : List (Int)) (w : World) (hr : Kd.C (Kd.int .i64) w A l.length l)
  (hp : ∀ (W : World) (x : Int) (r : Bool), Below w.heap.size w W → p x = some r → Calls Try.prog g (#[.int .i64 x] ++ lb) W fun e w' => e = .returned (.bool r) ∧ Below W.heap.size W w')
  (r : Bool) (h : anyO p l = some r) :
  Calls Try.prog 131 #[.slice A l.length c, .func (.func g) #[] lb] w fun e w' => e = .returned (.bool r) ∧ Below w.heap.size w w' := by
 have hI := ak_ (slices_IndexFunc_int_int.calls_fn g lb eg p A c l w hr hp r h)
 clear hr hp h
 go_enter Try.func131, Try.ntmps131
 go_wp2_with (go_at_call 163; refine hI.out.mono ?_; rintro e w' ⟨⟨i, rfl, hi⟩, hb'⟩)
 go_ret
 exact ⟨by first | rfl | simp [hi], hb'⟩
def impl_areIn.f (l0 : List Int) (a1 : Int) (a2 : Int) (a3 : Int) (a4 : Int) : Option Bool :=
 some ((decide (a3 ≤ (l0.length : Int)) && decide ((l0.length : Int) ≤ a4)) && !(l0.any fun x => !(decide (a1 ≤ x) && decide (x ≤ a2))))
theorem impl_in.f_eq (x a b : Int) : impl_in.f x a b = some (decide (a ≤ x) && decide (x ≤ b)) := by
 unfold impl_in.f
 by_cases h : a ≤ x <;> simp [h]
theorem impl_areIn.calls_1 (x a1 a2 : Int) (B1 B2 : Nat) (w : World) (h1 : w.cell? ⟨B1, 0, none⟩ = some (.int .i64 a1)) (h2 : w.cell? ⟨B2, 0, none⟩ = some (.int .i64 a2)) :
  Calls Try.prog 132 (#[.int .i64 x] ++ #[.pointer (some ⟨B1, 0, none⟩), .pointer (some ⟨B2, 0, none⟩)]) w fun e w' => e = .returned (.bool (!(decide (a1 ≤ x) && decide (x ≤ a2)))) ∧ Below w.heap.size w w' := by
 have hin := fun W => impl_in.calls x a1 a2 _ W (impl_in.f_eq x a1 a2)
 generalize hb : (decide (a1 ≤ x) && decide (x ≤ a2)) = b at hin ⊢
 clear hb
 go_enter Try.func132, Try.ntmps132
 go_wp2_with (go_at_call 82; refine (hin _).mono ?_; rintro e w' ⟨rfl, ⟨nd, rfl⟩⟩)
 go_ret
 exact ⟨rfl, by repeat (first | exact Below.refl _ _ | apply bN_ | apply b1_)⟩
theorem impl_areIn.calls (A0 : Option Addr) (c0 : Nat) (l0 : List Int) (a1 : Int) (a2 : Int) (a3 : Int) (a4 : Int) (r : Bool) (w : World) (hr0 : Kd.C (Kd.int .i64) w A0 l0.length l0) (hc0 : l0.length ≤ c0) (h : impl_areIn.f l0 a1 a2 a3 a4 = some r) :
  Calls Try.prog 97 #[.slice A0 l0.length c0, .int .i64 a1, .int .i64 a2, .int .i64 a3, .int .i64 a4] w fun e w' => e = .returned (.bool r) ∧ Below w.heap.size w w' := by
 have hin := fun W => impl_in.calls (l0.length : Int) a3 a4 _ W (impl_in.f_eq _ a3 a4)
 obtain rfl := Option.some.inj h
 clear h
 have hC := ak_ fun (W : World) (hb : Below w.heap.size w W) (B1 B2 : Nat) (h1 : W.cell? ⟨B1, 0, none⟩ = some (.int .i64 a1)) (h2 : W.cell? ⟨B2, 0, none⟩ = some (.int .i64 a2)) (hB1 : B1 < W.heap.size) (hB2 : B2 < W.heap.size) =>
  slices_ContainsFunc_int_int.calls_fn 132 #[.pointer (some ⟨B1, 0, none⟩), .pointer (some ⟨B2, 0, none⟩)] (enters_of Try.func132 (by kernel_rfl) rfl) (fun x => some (!(decide (a1 ≤ x) && decide (x ≤ a2)))) A0 c0 l0 W (Kd.C_below hr0 hb)
   (fun W' x r hb' hx => by
    obtain rfl := Option.some.inj hx
    exact impl_areIn.calls_1 x a1 a2 B1 B2 W' ((hb'.cell (p := ⟨B1, 0, none⟩) hB1).trans h1) ((hb'.cell (p := ⟨B2, 0, none⟩) hB2).trans h2)) _ (anyO_some _ l0)
 clear hr0
 generalize hq : (l0.any fun x => !(decide (a1 ≤ x) && decide (x ≤ a2))) = q at hC ⊢
 clear hq
 generalize hb : (decide (a3 ≤ (l0.length : Int)) && decide ((l0.length : Int) ≤ a4)) = b at hin ⊢
 clear hb
 cases b
 ·go_enter Try.func97, Try.ntmps97
  go_wp2_with (go_at_call 82; refine (hin _).mono ?_; rintro e w' ⟨rfl, ⟨nd, rfl⟩⟩)
  go_ret
  exact ⟨rfl, by repeat (first | exact Below.refl _ _ | apply ba_ | apply bN_ | apply b1_)⟩
 ·go_enter Try.func97, Try.ntmps97
  go_wp2_with (first | (go_at_call 82; refine (hin _).mono ?_; rintro e w' ⟨rfl, ⟨nd, rfl⟩⟩) | (go_at_call 131; refine (hC.out _ (by repeat (first | exact Below.refl _ _ | apply ba_ | apply bN_ | apply b1_)) _ _ (by simp) (by simp) (by first | (simp; done) | (simp; omega)) (by first | (simp; done) | (simp; omega))).mono ?_; rintro e w' ⟨rfl, hb'⟩))
  go_ret
  exact ⟨by cases q <;> rfl, Below.trans (by repeat (first | exact Below.refl _ _ | apply ba_ | apply bN_ | apply b1_)) (hb'.mono (by first | (simp; done) | (simp; omega)))⟩
def impl_IsParty.f (l0_0 : List Int) (a0_1 : Int) : Option (Bool) := (impl_areIn.f l0_0 1 1000 1 8).bind fun t473 => (if t473 = true then ((impl_in.f a0_1 1 3).bind fun t474 => (some t474)) else (some false))
theorem impl_IsParty.calls (A0_0 : Option Addr) (c0_0 : Nat) (l0_0 : List Int) (a0_1 : Int) (r : Bool) (w : World) (hr0_0 : Kd.C (Kd.int .i64) w A0_0 l0_0.length l0_0) (hc0_0 : l0_0.length ≤ c0_0) (h : impl_IsParty.f l0_0 a0_1 = some r) :
  Calls Try.prog 49 #[.agg #[.slice A0_0 l0_0.length c0_0, .int .i64 a0_1]] w fun e w' => e = .returned (.bool r) ∧ Below w.heap.size w w' := by
 have hu34 := Try.underlying34
 have HR0_0 := ak_ hr0_0
 have HC0_0 := ak_ hc0_0
 clear hr0_0 hc0_0
 have HB := ak_ (Below.refl w.heap.size w)
 have H : ((impl_areIn.f l0_0 1 1000 1 8).bind fun t473 => (if t473 = true then ((impl_in.f a0_1 1 3).bind fun t474 => (some t474)) else (some false))) = some r := h
 clear h
 replace H := Option.bind_eq_some_iff.mp H
 obtain ⟨t473, A20, H⟩ := H
 replace H : (if t473 = true then ((impl_in.f a0_1 1 3).bind fun t474 => (some t474)) else (some false)) = some r := H
 have A2 := ak_ A20
 clear A20
 by_cases c3 : t473 = true
 ·
  subst c3
  have H1 : ((impl_in.f a0_1 1 3).bind fun t474 => (some t474)) = some r := by rw [if_pos rfl] at H; exact H
  clear H
  have H := H1
  clear H1
  replace H := Option.bind_eq_some_iff.mp H
  obtain ⟨t474, A40, H⟩ := H
  replace H : (some t474) = some r := H
  have A4 := ak_ A40
  clear A40
  obtain rfl := Option.some.inj H
  go_enter Try.func49, Try.ntmps49
  go_wp2_with (first | ((with_reducible refine gate_dst (N := 1) rfl ?_); refine box_event ?hg (N := 1) ?hd (cs := #[.slice A0_0 l0_0.length c0_0, .int .i64 a0_1]) (t := 34) ?hr ?_; (case hd => rfl); (case hg => rfl); (case hr => go_simp <;> rfl); intro gb472 hg w5 hbox hb; have n0_ := ak_ (bs_ (bb_ HB.out) hb); have n1_ := ak_ (hbox); have n2_ := ak_ ((by rw [hg]; exact (bz_ (bb_ HB.out)) : w.heap.size ≤ gb472)); have n3_ := n2_; clear HB; have HB := n0_; have BK472 := n1_; have GW472 := n2_; have GE472 := n3_; clear n0_ n1_ n2_ n3_; clear hb hbox hg; have hcz6_0 : w5.cell? ⟨gb472, 0, none⟩ = some (.slice A0_0 l0_0.length c0_0) := (blk_cell BK472.out 0).trans rfl; have hcz6_1 : w5.cell? ⟨gb472, 1, none⟩ = some (.int .i64 a0_1) := (blk_cell BK472.out 1).trans rfl; have hfz6_0 := blk_frozen BK472.out 0; have hfz6_1 := blk_frozen BK472.out 1) | ((with_reducible refine gate_callee (f := 97) rfl ?_); refine goesL_ (some 5) rfl rfl Try.func97 (by kernel_rfl) rfl #[.slice A0_0 l0_0.length c0_0, .int .i64 1, .int .i64 1000, .int .i64 1, .int .i64 8] rfl (by first | rfl | (simp only [map_toArray, map_cons, map_nil]; try rfl)) ?_; (with_reducible refine (impl_areIn.calls _ _ l0_0 1 1000 1 8 true _ ?side1 ?side2 A2.out).mono ?_); (case side1 => repeat (first | exact (Kd.C_below HR0_0.out HB.out) | (with_reducible refine Kd.C_alloc ?_ _) | (with_reducible refine Kd.C_drewN ?_ _) | (with_reducible refine Kd.C_drew ?_))); (case side2 => exact HC0_0.out); rintro e w7 ⟨rfl, hb⟩; refine ⟨_, rfl, ?_⟩; have n0_ := ak_ (blk_below (pk BK472.out) hb); have n1_ := ak_ (bs_ (by repeat (first | exact HB.out | apply ba_ | apply bN_ | apply b1_ | refine below_set ?_ GE472.out)) hb); clear BK472; clear HB; have BK472 := n0_; have HB := n1_; clear n0_ n1_; (try clear hb); (try clear hb2); (try clear hk); (try clear hi); have hcz8_0 : w7.cell? ⟨gb472, 0, none⟩ = some (.slice A0_0 l0_0.length c0_0) := (blk_cell BK472.out 0).trans rfl; have hcz8_1 : w7.cell? ⟨gb472, 1, none⟩ = some (.int .i64 a0_1) := (blk_cell BK472.out 1).trans rfl; have hfz8_0 := blk_frozen BK472.out 0; have hfz8_1 := blk_frozen BK472.out 1) | (go_at_call 82; (with_reducible refine (impl_in.calls a0_1 1 3 t474 _ A4.out).mono ?_); rintro e w' ⟨rfl, ⟨nd, rfl⟩⟩))
  go_ret
  exact ⟨by first | rfl | (simp [errW_none, errW_some] <;> rfl) | (simp [*, errW_none, errW_some] <;> rfl), by repeat (first | exact HB.out | apply ba_ | apply bN_ | apply b1_ | refine below_set ?_ GE472.out)⟩
 ·
  replace c3 := Bool.eq_false_iff.mpr c3
  subst c3
  have H1 : (some false) = some r := by rw [if_neg (show ¬ (false = true) by decide)] at H; exact H
  clear H
  have H := H1
  clear H1
  obtain rfl := Option.some.inj H
  go_enter Try.func49, Try.ntmps49
  go_wp2_with (first | ((with_reducible refine gate_dst (N := 1) rfl ?_); refine box_event ?hg (N := 1) ?hd (cs := #[.slice A0_0 l0_0.length c0_0, .int .i64 a0_1]) (t := 34) ?hr ?_; (case hd => rfl); (case hg => rfl); (case hr => go_simp <;> rfl); intro gb472 hg w9 hbox hb; have n0_ := ak_ (bs_ (bb_ HB.out) hb); have n1_ := ak_ (hbox); have n2_ := ak_ ((by rw [hg]; exact (bz_ (bb_ HB.out)) : w.heap.size ≤ gb472)); have n3_ := n2_; clear HB; have HB := n0_; have BK472 := n1_; have GW472 := n2_; have GE472 := n3_; clear n0_ n1_ n2_ n3_; clear hb hbox hg; have hcz10_0 : w9.cell? ⟨gb472, 0, none⟩ = some (.slice A0_0 l0_0.length c0_0) := (blk_cell BK472.out 0).trans rfl; have hcz10_1 : w9.cell? ⟨gb472, 1, none⟩ = some (.int .i64 a0_1) := (blk_cell BK472.out 1).trans rfl; have hfz10_0 := blk_frozen BK472.out 0; have hfz10_1 := blk_frozen BK472.out 1) | ((with_reducible refine gate_callee (f := 97) rfl ?_); refine goesL_ (some 5) rfl rfl Try.func97 (by kernel_rfl) rfl #[.slice A0_0 l0_0.length c0_0, .int .i64 1, .int .i64 1000, .int .i64 1, .int .i64 8] rfl (by first | rfl | (simp only [map_toArray, map_cons, map_nil]; try rfl)) ?_; (with_reducible refine (impl_areIn.calls _ _ l0_0 1 1000 1 8 false _ ?side1 ?side2 A2.out).mono ?_); (case side1 => repeat (first | exact (Kd.C_below HR0_0.out HB.out) | (with_reducible refine Kd.C_alloc ?_ _) | (with_reducible refine Kd.C_drewN ?_ _) | (with_reducible refine Kd.C_drew ?_))); (case side2 => exact HC0_0.out); rintro e w11 ⟨rfl, hb⟩; refine ⟨_, rfl, ?_⟩; have n0_ := ak_ (blk_below (pk BK472.out) hb); have n1_ := ak_ (bs_ (by repeat (first | exact HB.out | apply ba_ | apply bN_ | apply b1_ | refine below_set ?_ GE472.out)) hb); clear BK472; clear HB; have BK472 := n0_; have HB := n1_; clear n0_ n1_; (try clear hb); (try clear hb2); (try clear hk); (try clear hi)))
  go_ret
  exact ⟨by first | rfl | (simp [errW_none, errW_some] <;> rfl) | (simp [*, errW_none, errW_some] <;> rfl), by repeat (first | exact HB.out | apply ba_ | apply bN_ | apply b1_ | refine below_set ?_ GE472.out)⟩
def impl_last.f (a0 : Int) : Option (Int) := if 0 ≤ (wrap64 (a0 + 1)) then (some (wrap64 ((shl .i64 1 (wrap64 (a0 + 1))) - 1))) else (none)
theorem impl_last.calls (a0 : Int) (r : Int) (w : World) (h : impl_last.f a0 = some r) :
  Calls Try.prog 85 #[.int .i64 a0] w fun e w' => e = .returned (.int .i64 r) ∧ Drawn0 w w' := by
 have H : (if 0 ≤ (wrap64 (a0 + 1)) then (some (wrap64 ((shl .i64 1 (wrap64 (a0 + 1))) - 1))) else (none)) = some r := h
 clear h
 obtain ⟨ji2, hji2⟩ : ∃ j_ : Int, (wrap64 (a0 + 1)) = j_ := ⟨_, rfl⟩
 replace H : (if 0 ≤ (ji2) then (some (wrap64 ((shl .i64 1 (ji2)) - 1))) else (none)) = some r := by first | (rw [hji2] at H; exact H) | (simp only [hji2] at H ⊢; exact H)
 have hji2w : (IntKind.i64.wrap (a0 + 1)) = ji2 := (i64_w _).trans hji2
 by_cases c3 : 0 ≤ (ji2)
 ·
  rw [if_pos c3] at H
  have c3b0 := eq_true c3
  have c3b1 : decide (0 ≤ (ji2)) = true := decide_eq_true c3
  clear c3
  obtain ⟨ji4, hji4⟩ : ∃ j_ : Int, (shl .i64 1 (ji2)) = j_ := ⟨_, rfl⟩
  replace H : (some (wrap64 ((ji4) - 1))) = some r := by first | (rw [hji4] at H; exact H) | (simp only [hji4] at H ⊢; exact H)
  have hji4_ : (IntKind.i64.wrap (1 * 2 ^ min (ji2).toNat 64)) = ji4 := hji4
  have hji4z : (ji2) ≤ 64 → (IntKind.i64.wrap (1 * 2 ^ (ji2).toNat)) = ji4 := shl_small hji4
  have hji4u : (IntKind.i64.wrap (2 ^ min (ji2).toNat 64)) = ji4 := by have h_ := hji4_; rw [Int.one_mul] at h_; exact h_
  have hji4v : (ji2) ≤ 64 → (IntKind.i64.wrap (2 ^ (ji2).toNat)) = ji4 := fun hle_ => by have h_ := hji4z hle_; rw [Int.one_mul] at h_; exact h_
  have hji4y : (wrap64 (1 * 2 ^ min (ji2).toNat 64)) = ji4 := (i64_w _).symm.trans hji4_
  have hji4x : (ji2) ≤ 64 → (wrap64 (1 * 2 ^ (ji2).toNat)) = ji4 := fun h_ => (i64_w _).symm.trans (hji4z h_)
  obtain rfl := Option.some.inj H
  go_enter Try.func85, Try.ntmps85
  go_wp2
  go_ret
  exact ⟨by first | rfl | (simp; done) | (simp only [← hji2, ← hji4] <;> (first | rfl | simp)) | (simp [*]; done), by repeat (first | exact Drawn0.refl _ | apply Drawn0.step)⟩
 ·
  rw [if_neg c3] at H
  exact absurd H (by simp)
def slices_Clone_int_int_s.f (l0 : List Int) : Option (List Int) := (some (([] : List Int) : List Int)).bind fun y477 => (if y477.length + l0.length < 17592186044416 then (some (y477 ++ l0)) else (none))
theorem slices_Clone_int_int_s.calls (ad0 : Addr) (c0 : Nat) (l0 : List Int) (r : List Int) (w : World) (hr0 : Kd.C (Kd.int .i64) w (some ad0) l0.length l0) (hc0 : l0.length ≤ c0) (h : slices_Clone_int_int_s.f l0 = some r) :
  Calls Try.prog 149 #[.slice (some ad0) l0.length c0] w fun e w' => ∃ v0_ : Value, e = .returned (v0_) ∧ Kd.R (Kd.int .i64) 3 w' w.heap.size (fun _ => True) v0_ r ∧ Below w.heap.size w w' := by
 have HR0 := ak_ hr0
 have HC0 := ak_ hc0
 clear hr0 hc0
 have HB := ak_ (Below.refl w.heap.size w)
 have H : ((some (([] : List Int) : List Int)).bind fun y477 => (if y477.length + l0.length < 17592186044416 then (some (y477 ++ l0)) else (none))) = some r := h
 clear h
 obtain ⟨y477, hy477⟩ : ∃ y_ : List Int, y_ = (([] : List Int)) := ⟨_, rfl⟩
 replace H : (if y477.length + l0.length < 17592186044416 then (some (y477 ++ l0)) else (none)) = some r := by first | (rw [hy477]; exact H) | exact H
 have Ny477 := ak_ hy477
 clear hy477
 by_cases c2 : y477.length + l0.length < 17592186044416
 ·rw [if_pos c2] at H
  have LMc2 := ak_ c2
  clear c2
  obtain ⟨y480, hy480⟩ : ∃ y_ : List Int, y_ = (y477 ++ l0) := ⟨_, rfl⟩
  replace H : (some y480) = some r := by first | (rw [hy480]; exact H) | exact H
  have Ny480 := ak_ hy480
  clear hy480
  obtain rfl := Option.some.inj H
  have hnil := fun (W : World) (a : Option Addr) (n c : Nat) => Go.Lib.run_eql_slice_nil (P := Try.prog) W 29 3 a n c 0 0 Try.underlying29
  go_enter Try.func149, Try.ntmps149
  go_wp2_with (first | ((with_reducible refine gate_dst (N := 5) rfl ?_); refine Kd.R_lit (Kd.int .i64) _ 3 ?hg (N := 5) ?hd (xs := ([] : List Int)) (inner := []) (ok := fun _ => True) (okp := fun _ => True) ?hr ?hp (fun _ hk => hk) trivial (Below.refl _ _) (Nat.le_refl _) (by simp) ?_; (case hd => rfl); (case hg => rfl); (case hr => go_simp <;> rfl); (case hp => exact (Reps.none _ _)); intro v478 w3 ho4 hb hg_ hnew_; clear hg_ hnew_; (first | rw [← Ny477.out] at ho4 | (simp only [Int.reduceToNat] at ho4; rw [← Ny477.out] at ho4)); have n0_ := ak_ (Kd.R_lower ho4 (bz_ (bb_ HB.out))); have n1_ := ak_ (bs_ (bb_ HB.out) hb); clear HB; have HO479 := n0_; have HB := n1_; clear n0_ n1_; clear hb ho4) | ((with_reducible refine gate_builtin (b := .append) (xs := #[.tmp 5, .tmp 6]) rfl ?_); at_builtin; refine Kd.R_append_rows (Kd.int .i64) (w0 := w) w.heap.size rfl (.tmp 5) (.tmp 6) 29 3 (.int .i64 0) 8 rfl Try.underlying29 info3 rfl (by decide) (by omega) v478 y477 l0 _ _ _ (fun _ => True) (fun _ => False) rfl rfl ?aO ?aR (fun _ _ h => h) (fun _ h => h.elim) ?aF ?aB ?aS ?aL ?_; (case aR => repeat (first | exact (Kd.C_below HR0.out HB.out) | (with_reducible refine Kd.C_alloc ?_ _) | (with_reducible refine Kd.C_drewN ?_ _) | (with_reducible refine Kd.C_drew ?_))); (case aB => exact (bb_ HB.out)); (case aF => exact (fun _ _ => trivial)); (case aO => exact (Kd.pR HO479.out)); (case aS => exact (bz_ (bb_ HB.out))); (case aL => have := LMc2.out; omega); intro v481 w5 ho hb hg hat; rw [← Ny480.out] at ho; have n0_ := ak_ (hb); have n1_ := ak_ (ho); clear HB; clear HO479; have HB := n0_; have HO482 := n1_; clear n0_ n1_; clear ho hb hg hat))
  go_ret
  exact ⟨_, by first | rfl | (simp [errW_none, errW_some] <;> rfl) | (simp [*, errW_none, errW_some] <;> rfl), by (with_reducible repeat (first | apply Kd.R_alloc | apply Kd.R_drewN | apply Kd.R_drew)); exact HO482.out, bb_ HB.out⟩
 ·rw [if_neg c2] at H
  exact absurd H (by simp)
theorem slices_Clone_int_int_s.f_eq (l0 : List Int) : slices_Clone_int_int_s.f l0 = if l0.length < 17592186044416 then some l0 else none := by
 unfold slices_Clone_int_int_s.f
 simp
def slices_Clone_int_int.f (l0 : List Int) : Option (List Int) := if l0.length < 17592186044416 then some l0 else none
theorem slices_Clone_int_int.calls (A0 : Option Addr) (c0 : Nat) (l0 : List Int) (r : List Int) (w : World) (hr0 : Kd.C (Kd.int .i64) w A0 l0.length l0) (hc0 : l0.length ≤ c0) (h : slices_Clone_int_int.f l0 = some r) :
  Calls Try.prog 149 #[.slice A0 l0.length c0] w fun e w' => ∃ v0_ : Value, e = .returned (v0_) ∧ Kd.R (Kd.int .i64) 3 w' w.heap.size (fun _ => True) v0_ r ∧ Below w.heap.size w w' := by
 cases A0 with
 | some ad => exact slices_Clone_int_int_s.calls ad c0 l0 r w hr0 hc0 (by rw [slices_Clone_int_int_s.f_eq]; exact h)
 | none =>
  obtain rfl : l0 = [] := by
   cases l0 with
   | nil => rfl
   | cons x xs =>
    obtain ⟨ad, he, _⟩ := hr0.2.2 (by simp)
    exact absurd he (by simp)
  obtain rfl : [] = r := by
   unfold slices_Clone_int_int.f at h
   simpa using h
  clear hr0 h
  have hnil := fun (W : World) (a : Option Addr) (n c : Nat) => Go.Lib.run_eql_slice_nil (P := Try.prog) W 29 3 a n c 0 0 Try.underlying29
  go_enter Try.func149, Try.ntmps149
  go_wp2
  go_ret
  exact ⟨_, rfl, Kd.R_nil (Kd.int .i64) 3 w w.heap.size _, Below.refl _ _⟩
end Go.Proofs.Ythkchdfkeieabaa.QGr
