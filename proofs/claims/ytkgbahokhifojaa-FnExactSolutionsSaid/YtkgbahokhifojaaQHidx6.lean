/- Contracts of functions of the given program, walked: each call returns what its Lean function says. Conditions: those that stand at each theorem. (Written by a program of this session.) -/
import Derived.Test.YtkgbahokhifojaaQHidx0
import Derived.Test.YtkgbahokhifojaaQHidx5
namespace Go.Proofs.Ytkgbahokhifojaa.QHid
open Go.RowKit Go.Proofs.YtkgbahokhifojaaW.PrintWords Go.Proofs.YtkgbahokhifojaaW.PrintLast Go.Proofs.YtkgbahokhifojaaW.PrintMore
attribute [local go_sem] max2_int min2_int max_two min_two max_three min_three max_four min_four   -- for this text's walks alone
set_option linter.unusedVariables false
set_option linter.unusedSimpArgs false

set_option maxHeartbeats 2000000 in
set_option maxRecDepth 100000 in
theorem pdq_few {α : Type} [Inhabited α] (enc : α → Value) (cf : α → α → Int) (g : Nat) (cb : Array Value) (blk off cap n : Nat) (lim : Int) (d : Array α) (hn : d.size = n) (w0 W : World) (eg : ∀ args w, (callFunc g args).run Try.prog w = .ok (.enter g args) w) (hcmp : CmpLays1 Try.prog g cb enc cf blk off d.size w0) (R : Row1 enc w0 blk off d) (S : SW enc w0 blk off d W) (h12 : n ≤ 12) :
    Calls Try.prog 114 #[.slice (some ⟨blk, off, none⟩) n cap, .int .i64 0, .int .i64 n, .int .i64 lim, .func (.func g) #[] cb] W fun e w' => e = .returned (.tuple #[]) ∧ SW enc w0 blk off (Sort.insertionSort (ltOf cf) d 0 n) w' := by
  subst hn
  have hi := Aside0.mk (Try.insertionSortCmpFunc_s enc cf g cb blk off cap 0 d.size d d w0 W eg hcmp R rfl S (Nat.zero_le _) (Nat.le_refl _) (by omega))
  clear hcmp R S
  generalize d.size = n at hi h12 ⊢
  have hw : IntKind.i64.wrap ((n : Int) - 0) = (n : Int) := IntWalk.i64_in _ ⟨by omega, by omega⟩
  have hw2 : IntKind.i64.wrap (n : Int) = (n : Int) := IntWalk.i64_in _ ⟨by omega, by omega⟩
  have c1 : decide ((n : Int) ≤ 12) = true := decide_eq_true (by omega)
  have c2 : decide (n ≤ 12) = true := decide_eq_true h12
  go_enter Try.func114, Try.ntmps114
  go_wp2
  refine wp_loop_rounds 1 ?_
  rw [rounds_succ]
  go_wp2_with (go_at_call 125; refine hi.out.mono ?_; rintro e w' ⟨rfl, hS⟩)
  (try simp only [Exit.inBlock, Exit.then]); refine bodyPost_ret (results_none rfl _ _ _) rfl ?_
  exact ⟨rfl, hS⟩
set_option maxHeartbeats 2000000 in
set_option maxRecDepth 100000 in
theorem sortFunc_few {α : Type} [Inhabited α] (enc : α → Value) (cf : α → α → Int) (g : Nat) (cb : Array Value) (blk off cap n : Nat) (d : Array α) (hn : d.size = n) (w0 : World) (eg : ∀ args w, (callFunc g args).run Try.prog w = .ok (.enter g args) w) (hcmp : CmpLays1 Try.prog g cb enc cf blk off d.size w0) (R : Row1 enc w0 blk off d) (h12 : n ≤ 12) :
    Calls Try.prog 107 #[.slice (some ⟨blk, off, none⟩) n cap, .func (.func g) #[] cb] w0 fun e w' => e = .returned (.tuple #[]) ∧ SW enc w0 blk off (Sort.insertionSort (ltOf cf) d 0 n) w' := by
  have hp := Aside0.mk fun lim => pdq_few enc cf g cb blk off cap n lim d hn w0 w0 eg hcmp R (SW.start R.hH) h12
  have hl := Aside0.mk fun W => Try.bits_Len (n : Int) W (by omega) (by omega)
  clear hcmp R
  have hw2 : IntKind.u64.wrap (n : Int) = (n : Int) := IntWalk.u64_in _ ⟨by omega, by omega⟩
  go_enter Try.func107, Try.ntmps107
  go_wp2_with (first | (go_at_call 112; refine (hl.out _).mono ?_; rintro e w' ⟨rfl, rfl⟩) | (go_at_call 114; refine (hp.out _).mono ?_; rintro e w' ⟨rfl, hS⟩))
  go_end0
  exact ⟨rfl, hS⟩
/-- Draws, and new blocks. -/
def Lays (W w' : World) : Prop := ∃ q os', w' = Go.Sort.grow (W.drewN q) os'
theorem Lays.refl (W : World) : Lays W W := ⟨0, #[], by rw [Go.Sort.grow_empty]; rfl⟩
theorem Lays.alloc {W w' : World} (h : Lays W w') (o : Obj) : Lays W (w'.alloc o) := by
  obtain ⟨q, os, rfl⟩ := h
  exact ⟨q, os ++ #[o], by rw [Go.Sort.alloc_eq_grow, Go.Sort.grow_grow]⟩
theorem Lays.drewN {W w' : World} (h : Lays W w') (n : Nat) : Lays W (w'.drewN n) := by
  obtain ⟨q, os, rfl⟩ := h
  refine ⟨q + n, os, ?_⟩
  show Go.Sort.grow ((W.drewN q).drewN n) os = _
  congr 1
  simp [World.drewN, Nat.add_assoc]
theorem Lays.drew {W w' : World} (h : Lays W w') : Lays W w'.drew := h.drewN 1
/-- The order of two people: by their times, then by their numbers. -/
def cmpP (l : List Int) (x y : Nat) : Int := if Lib.compareInt (l.getD x 0) (l.getD y 0) = 0 then Lib.compareInt (x : Int) (y : Int) else Lib.compareInt (l.getD x 0) (l.getD y 0)
theorem or_two (a b : Int) : cmp_Or_int.f 4 [a, b] = some (if a = 0 then b else a) := by
  unfold cmp_Or_int.f
  have w1 : wrap64 1 = 1 := by unfold wrap64; omega
  have w2 : wrap64 2 = 2 := by unfold wrap64; omega
  have r0 : ∀ a b : Int, rd [a, b] 0 = a := fun _ _ => rfl
  have r1 : ∀ a b : Int, rd [a, b] 1 = b := fun _ _ => rfl
  by_cases ha : a = 0 <;> by_cases hb : b = 0 <;> simp [cmp_Or_int.l0, w1, w2, r0, r1, ha, hb]
theorem fresh_two (w : World) (a b : Int) : Kd.C (Kd.int .i64) (w.alloc (.cells #[.int .i64 a, .int .i64 b] 3)) (some ⟨w.heap.size, 0, none⟩) 2 [a, b] := by
  have ho := World.ownsRow_lit (base := w.heap.size) (e := 3) (size := 1) w #[.int .i64 a, .int .i64 b] 2 (Nat.le_refl _) (by decide) rfl
  have hR : Kd.R (Kd.int .i64) 3 (w.alloc (.cells #[.int .i64 a, .int .i64 b] 3)) w.heap.size (fun _ => True) (.slice (some ⟨w.heap.size, 0, none⟩) 2 2) [a, b] := Kd.R_of_own (enc := Value.int .i64) ho (fun _ _ => trivial)
  exact (Kd.R_reads' hR).2.2
set_option maxHeartbeats 1000000 in
set_option maxRecDepth 100000 in
theorem pace1_calls (B : Nat) (A : Option Addr) (c : Nat) (l : List Int) (W : World) (hB : W.cell? ⟨B, 0, none⟩ = some (.slice A l.length c)) (hC : Kd.C (Kd.int .i64) W A l.length l) (x y : Nat) (hx : x < l.length) (hy : y < l.length) :
    Calls Try.prog 108 (#[.int .i64 x, .int .i64 y] ++ #[.pointer (some ⟨B, 0, none⟩)]) W fun e w' => e = .returned (.int .i64 (cmpP l x y)) ∧ Lays W w' := by
  have hc := Aside0.mk fun a b W => Try.cmp_Compare_int a b W
  have hO := Aside0.mk fun (a b : Int) (W : World) => cmp_Or_int.calls 4 _ 2 [a, b] _ (W.alloc (.cells #[.int .i64 a, .int .i64 b] 3)).drew (Kd.C_drew (fresh_two W a b)) (Nat.le_refl 2) (or_two a b)
  obtain ⟨ad, eA, hx0⟩ := Kd.at_int hC (x : Int) (by omega) (by omega)
  obtain ⟨ad2, eA2, hy0⟩ := Kd.at_int hC (y : Int) (by omega) (by omega)
  subst eA
  injection eA2 with e2
  subst e2
  have rx : rd l (x : Int) = l.getD x 0 := by unfold rd; rw [Int.toNat_natCast]
  have ry : rd l (y : Int) = l.getD y 0 := by unfold rd; rw [Int.toNat_natCast]
  rw [rx, Int.toNat_natCast] at hx0
  rw [ry, Int.toNat_natCast] at hy0
  clear hC rx ry
  have px : decide ((x : Int) < (l.length : Int)) = true := decide_eq_true (by omega)
  have py : decide ((y : Int) < (l.length : Int)) = true := decide_eq_true (by omega)
  have qx : ((x : Int) < (l.length : Int)) = True := eq_true (by omega)
  have qy : ((y : Int) < (l.length : Int)) = True := eq_true (by omega)
  have zx : (0 ≤ (x : Int)) = True := eq_true (by omega)
  have zy : (0 ≤ (y : Int)) = True := eq_true (by omega)
  unfold cmpP
  generalize l.getD x 0 = a at hx0 ⊢
  generalize l.getD y 0 = b at hy0 ⊢
  generalize l.length = n at *
  have hO2 := fun (W : World) => hO.out (Lib.compareInt a b) (Lib.compareInt (x : Int) (y : Int)) W
  clear hO
  generalize (if Lib.compareInt a b = 0 then Lib.compareInt (x : Int) (y : Int) else Lib.compareInt a b) = r at hO2 ⊢
  have hO := Aside0.mk hO2
  clear hO2
  go_enter Try.func108, Try.ntmps108
  go_wp2
  go_region_with (first | (go_at_call 110; refine (hc.out _ _ _).mono ?_; rintro e w' ⟨rfl, rfl⟩) | (go_at_call 109; refine (hO.out _).mono ?_; rintro e w' ⟨rfl, nd, rfl⟩))
  all_goals (try go_wp2)
  all_goals go_ret
  all_goals exact ⟨rfl, by repeat (first | exact Lays.refl _ | apply Lays.drewN | apply Lays.drew | apply Lays.alloc)⟩
theorem insOuter_self {α : Type} [Inhabited α] (lt : α → α → Bool) (d : Array α) (n : Nat) (h : ∀ i, 0 < i → i < n → lt d[i]! d[i - 1]! = false) : ∀ (k i : Nat), n - i ≤ k → 0 < i → Go.Sort.insOuter lt 0 n i d = d := by
  intro k
  induction k with
  | zero =>
    intro i hi h0
    exact Go.Proofs.insOuter_stop lt 0 n i d (by omega)
  | succ k ih =>
    intro i hi h0
    by_cases hn : i < n
    · rw [Go.Proofs.insOuter_go lt 0 n i d hn, Go.Proofs.insInner_stop lt 0 i d (Or.inr (h i h0 hn))]
      exact ih (i + 1) (by omega) (by omega)
    · exact Go.Proofs.insOuter_stop lt 0 n i d hn
/-- The numbers below n. -/
def iota (n : Nat) : List Int := (List.range n).map fun i : Nat => (i : Int)
theorem iota_len (n : Nat) : (iota n).length = n := by simp [iota]
theorem iota_succ (n : Nat) : iota (n + 1) = iota n ++ [(n : Int)] := by simp [iota, List.range_succ]
theorem iota_at (n i : Nat) (h : i < n) : rdOf (0 : Int) (iota n) (i : Int) = (i : Int) := by
  unfold rdOf iota
  rw [Int.toNat_natCast, List.getD_eq_getElem?_getD, List.getElem?_map, List.getElem?_range h]
  rfl
/-- The people of n+1, each a number. -/
def folk (m : Nat) : Array (Fin (m + 1)) := Array.ofFn fun i => i
def encF (m : Nat) (i : Fin (m + 1)) : Value := .int .i64 (i.val : Int)
theorem folk_size (m : Nat) : (folk m).size = m + 1 := by simp [folk]
theorem folk_at (m i : Nat) (h : i < m + 1) : (folk m)[i]! = ⟨i, h⟩ := by
  unfold folk
  rw [getElem!_pos _ _ (by simpa using h)]
  simp
theorem cmpP_up (l : List Int) (i : Nat) (h0 : 0 < i) (h : l.getD (i - 1) 0 ≤ l.getD i 0) : ¬ cmpP l i (i - 1) < 0 := by
  have e2 : Lib.compareInt (i : Int) ((i - 1 : Nat) : Int) = 1 := by
    unfold Lib.compareInt
    rw [if_neg (by omega), if_pos (by omega)]
  unfold cmpP
  rw [e2]
  generalize l.getD (i - 1) 0 = a at *
  generalize l.getD i 0 = b at *
  have e : Lib.compareInt b a = if b > a then 1 else 0 := by
    unfold Lib.compareInt
    rw [if_neg (by omega)]
  rw [e]
  by_cases hc : b > a <;> simp [hc]
theorem folk_sorted (l : List Int) (m : Nat) (h : ∀ i, 0 < i → i < m + 1 → l.getD (i - 1) 0 ≤ l.getD i 0) : Go.Sort.insertionSort (ltOf fun x y : Fin (m + 1) => cmpP l x.val y.val) (folk m) 0 (m + 1) = folk m := by
  unfold Go.Sort.insertionSort
  refine insOuter_self _ _ _ ?_ (m + 1) 1 (by omega) (by omega)
  intro i h0 hi
  rw [folk_at m i hi, folk_at m (i - 1) (by omega)]
  unfold ltOf
  exact decide_eq_false (cmpP_up l i h0 (h i h0 hi))
theorem sw_self {α : Type} [Inhabited α] {enc : α → Value} {w w' : World} {blk : Nat} {d : Array α} (hH : Go.Sort.Holds enc w blk 0 d) (h : SW enc w blk 0 d w') : Below w.heap.size w w' := by
  obtain ⟨n, os, rfl⟩ := h
  unfold sortWorld
  rw [Go.Sort.putRow_self enc (Go.Sort.ahead w n) blk 0 d (fun j hj => hH j hj)]
  exact Go.Lib.below_grow _ w (Nat.le_refl _) n os
theorem sw_below {α : Type} [Inhabited α] {enc : α → Value} {w0 w : World} {g n : Nat} {d : Array α} (os : Array Obj) (h : Below w0.heap.size w0 w) (hg : w0.heap.size ≤ g) : Below w0.heap.size w0 (sortWorld enc w g 0 n d os) := by
  unfold sortWorld
  have h1 := Go.Lib.below_putRow (enc := enc) (q := n) (d := d) h hg
  exact ⟨h1.os, h1.tape, h1.output, by rw [Go.Sort.size_grow]; exact Nat.le_trans h1.size (Nat.le_add_right _ _), fun k hk => by
    rw [Go.Sort.heap_grow_old _ os (Nat.lt_of_lt_of_le hk h1.size)]
    exact h1.block k hk⟩
theorem sw_cell {α : Type} [Inhabited α] {enc : α → Value} {w : World} {g n : Nat} {d : Array α} (os : Array Obj) {a : Addr} (h1 : a.block ≠ g) (h2 : a.block < w.heap.size) : (sortWorld enc w g 0 n d os).cell? a = w.cell? a := by
  unfold sortWorld
  rw [Go.Sort.cell?_grow _ _ _ (by simpa [Go.Sort.putRow, Go.Sort.mapBlock, Go.Sort.ahead] using h2), Go.Sort.cell?_putRow_other enc _ g 0 d a (Or.inl h1)]
  rfl
set_option maxHeartbeats 1000000 in
set_option maxRecDepth 100000 in
/-- impl.pace at times that do not fall: the people as they are. -/
theorem pace_calls (A0 : Option Addr) (c0 : Nat) (l0 : List Int) (m : Nat) (hm : l0.length = m + 1) (h12 : m < 12) (hs : ∀ i, 0 < i → i < m + 1 → l0.getD (i - 1) 0 ≤ l0.getD i 0) (w : World) (hr0 : Kd.C (Kd.int .i64) w A0 l0.length l0) (hc0 : l0.length ≤ c0) :
    Calls Try.prog 102 #[.slice A0 l0.length c0] w fun e w' => ∃ v0_ : Value, e = .returned (v0_) ∧ Kd.R (Kd.int .i64) 3 w' w.heap.size (fun _ => True) v0_ (iota (m + 1)) ∧ Below w.heap.size w w' := by
  have HR := Aside0.mk hr0
  have HB := Aside0.mk (Below.refl w.heap.size w)
  clear hr0
  rw [hm]
  have HM := Aside0.mk hm
  have HS := Aside0.mk hs
  clear hm hs
  go_enter Try.func102, Try.ntmps102
  go_wp2_with (first | ((with_reducible refine gate_dst (N := 1) rfl ?_); refine box_event ?hg (N := 1) ?hd (cs := #[.slice A0 (m + 1 : Nat) c0]) (t := 26) ?hr ?_; (case hd => rfl); (case hg => rfl); (case hr => first | (go_simp; done) | (go_simp; rfl)); intro gb8 hg8 w8 hbox8 hb8; have BK := Aside0.mk hbox8; have GE := Aside0.mk (Nat.le_of_eq hg8.symm); have n1_ := Aside0.mk (below_step HB.out hb8); clear HB; have HB := n1_; clear n1_ hbox8 hg8 hb8) | ((with_reducible refine gate_dst (N := 5) rfl ?_); refine Kd.R_lit (Kd.int .i64) _ 3 ?hg (N := 5) ?hd (xs := ([] : List Int)) (inner := []) (ok := fun _ => True) (okp := fun _ => True) ?hr ?hp (fun _ hk => hk) trivial (Below.refl _ _) (Nat.le_refl _) (by simp) ?_; (case hd => rfl); (case hg => rfl); (case hr => first | (go_simp; done) | (go_simp; rfl)); (case hp => exact (Reps.none _ _)); intro v158 w4 ho5 hb hg_ hnew_; clear hg_ hnew_; have n0_ := Aside0.mk (Kd.R_lower ho5 (below_size HB.out)); have n1_ := Aside0.mk (below_step HB.out hb); have n2_ := Aside0.mk (blk_below (pk BK.out) hb); clear HB BK; have HO := n0_; have HB := n1_; have BK := n2_; clear n0_ n1_ n2_ hb ho5; have hz := (blk_cell BK.out 0).trans (show _ = some (.slice A0 (m + 1 : Nat) c0) from rfl)))
  go_loopg [3, 8] (m + 2) (fun g v3 v8 w' => ∃ i : Nat, v8 = .int .i64 i ∧ i + g = m + 2 ∧ i ≤ m + 1 ∧ Aside0 (Kd.R (Kd.int .i64) 3 w' w.heap.size (fun _ => True) v3 (iota i)) ∧ Aside0 (Below w.heap.size w w') ∧ Aside0 (w'.heap[gb8]? = some (.cells #[.slice A0 (m + 1 : Nat) c0] 26 (0, 0))))
  case atStart => exact ⟨0, rfl, by omega, by omega, HO, HB, BK⟩
  case round =>
    clear HO HB BK hz
    obtain ⟨i, rfl, hg, hi, HO, HB, BK⟩ := hrel
    cases gk with
    | zero => omega
    | succ k1 =>
      by_cases c : i < m + 1
      · have c1 : decide ((i : Int) < ((m + 1 : Nat) : Int)) = true := decide_eq_true (by omega)
        have c2 : decide ((i : Int) < (m : Int) + 1) = true := decide_eq_true (by omega)
        have hw : IntKind.i64.wrap ((i : Int) + 1) = (i : Int) + 1 := IntWalk.i64_in _ ⟨by omega, by omega⟩
        go_wp2_with (first | ((with_reducible refine gate_builtin (b := .append) (xs := #[.tmp 11, .tmp 13]) rfl ?_); at_builtin; refine Kd.R_append (Kd.int .i64) (w0 := w) w.heap.size rfl (.tmp 11) (.tmp 13) 26 3 (.int .i64 0) 8 rfl Try.underlying26 info3 rfl (by decide) (by omega) u3 (iota i) (i : Int) [.int .i64 i] (fun _ => True) (fun _ => False) rfl rfl ?aP (fun _ hk => hk.elim) ?aF ?aO ?aB ?aS ?aL ?_; (case aP => exact rfl); (case aB => exact HB.out); (case aF => exact (fun _ _ => trivial)); (case aO => exact HO.out); (case aS => exact (below_size HB.out)); (case aL => rw [iota_len]; omega); intro v167 w15 ho hb hgr hat; rw [← iota_succ] at ho; have n0_ := Aside0.mk ho; have n1_ := Aside0.mk (hb); have n2_ := Aside0.mk (blk_grown (pk BK.out) hgr (Kd.R_ne HO.out (pk BK.out) (by decide))); clear HO HB BK; have HO := n0_; have HB := n1_; have BK := n2_; clear n0_ n1_ n2_ ho hb hgr hat))
        go_roundg k1
        case measure => omega
        case rel => exact ⟨i + 1, (by first | rfl | (simp; done)), by omega, by omega, HO, HB, BK⟩
      · obtain rfl : i = m + 1 := by omega
        have c1 : decide (((m + 1 : Nat) : Int) < ((m + 1 : Nat) : Int)) = false := decide_eq_false (by omega)
        have c2 : decide ((m : Int) + 1 < (m : Int) + 1) = false := decide_eq_false (by omega)
        obtain ⟨blk, cap, ev, hge, hlt, cells, hcl⟩ := Kd.R_form HO.out (by rw [iota_len]; omega)
        rw [iota_len] at ev
        subst ev
        have hne : gb8 ≠ blk := fun e => Kd.R_ne HO.out (pk BK.out) (by decide) (by rw [e]; rfl)
        have hH : Go.Sort.Holds (encF m) wr blk 0 (folk m) := by
          intro j hj
          rw [folk_size] at hj
          have hc := Kd.R_celln 0 HO.out (j : Int) (by omega) (by omega)
          rw [iota_at (m + 1) j hj, Int.toNat_natCast] at hc
          rw [folk_at m j hj, Nat.zero_add]
          exact hc
        have hcmp : CmpLays1 Try.prog 108 #[.pointer (some ⟨gb8, 0, none⟩)] (encF m) (fun x y => cmpP l0 x.val y.val) blk 0 (folk m).size wr := by
          intro mm os dk hsz x y
          have hz : (sortWorld (encF m) wr blk 0 mm dk os).cell? ⟨gb8, 0, none⟩ = some (.slice A0 l0.length c0) := by
            rw [sw_cell os hne (blk_lt BK.out), HM.out]
            exact (blk_cell BK.out 0).trans rfl
          exact pace1_calls gb8 A0 c0 l0 _ hz (Kd.C_below HR.out (sw_below os HB.out hge)) x.val y.val (by have := x.isLt; have := HM.out; omega) (by have := y.isLt; have := HM.out; omega)
        have hsf := sortFunc_few (encF m) (fun x y => cmpP l0 x.val y.val) 108 #[.pointer (some ⟨gb8, 0, none⟩)] blk 0 cap (m + 1) (folk m) (folk_size m) wr (enters_of Try.func108 (by kernel_rfl) rfl) hcmp ⟨fun _ => rfl, hH, hlt⟩ (by omega)
        rw [folk_sorted l0 m HS.out] at hsf
        have HSF := Aside0.mk hsf
        have HH := Aside0.mk hH
        clear hsf hcmp hH hcl hge hlt c hi hg hne
        go_wp2_with (go_at_call 107; refine HSF.out.mono ?_; rintro e w' ⟨rfl, hS⟩)
        go_ret
        exact ⟨_, rfl, Kd.R_below HO.out (sw_self HH.out hS), below_step HB.out (sw_self HH.out hS)⟩
/-- Numbers that do not fall. -/
def upB (l : List Int) : Bool := decide (l.Pairwise (· ≤ ·))
theorem sort_up (l : List Int) (h : upB l = true) : (l.mergeSort fun x y => decide (x ≤ y)) = l := by
  refine List.mergeSort_of_pairwise ?_
  have := of_decide_eq_true h
  exact this.imp (fun h => decide_eq_true h)
/-- slices.Sort at numbers that do not fall. -/
theorem sort_calls (b cap : Nat) (p : List Int) (w0 W : World) (h : upB p = true) (HP : Kd.R (Kd.int .i64) 3 W w0.heap.size (fun _ => True) (.slice (some ⟨b, 0, none⟩) p.length cap) p) (hl : p.length ≤ 12) (h0 : 0 < p.length) :
    Calls Try.prog 104 #[.slice (some ⟨b, 0, none⟩) p.length cap] W fun e w' => e = .returned (.tuple #[]) ∧ Below W.heap.size W w' := by
  · obtain ⟨g, cap', ev, hge, hlt, cells, hcl⟩ := Kd.R_form HP h0
    injection ev with e1 e2 e3
    injection e1 with e1
    injection e1 with e1
    subst e1
    have hH : Go.Sort.Holds (Value.int .i64) W b 0 p.toArray := by
      intro j hj
      have hj' : j < p.length := by simpa using hj
      have hc := Kd.R_celln 0 HP (j : Int) (by omega) (by omega)
      rw [Int.toNat_natCast] at hc
      have e : rdOf (0 : Int) p (j : Int) = p.toArray[j]! := by
        unfold rdOf
        rw [Int.toNat_natCast, List.getD_eq_getElem?_getD, List.getElem?_eq_getElem hj', getElem!_pos p.toArray j hj]
        simp
      rw [← e, Nat.zero_add]
      exact hc
    refine (Try.slices_Sort_int b 0 cap p W hH hlt (by omega)).mono ?_
    rintro e w' ⟨rfl, n, os, rfl⟩
    rw [sort_up p h, Go.Sort.putRow_self (Value.int .i64) (Go.Sort.ahead W n) b 0 p.toArray (fun j hj => hH j hj)]
    exact ⟨rfl, Go.Lib.below_grow _ W (Nat.le_refl _) n os⟩
set_option maxHeartbeats 1000000 in
set_option maxRecDepth 100000 in
/-- A trip is added to the crossing in block g. -/
theorem trip_calls (g b : Nat) (vT : Value) (T : List (List Int)) (rs : ByteArray) (ev : Bool) (p : List Int) (cap : Nat) (w0 W : World) (HB0 : Below w0.heap.size w0 W) (hge : w0.heap.size ≤ g)
    (BK0 : W.heap[g]? = some (.cells #[vT, .string rs, .bool ev] 88 (0, 0))) (HT0 : Kd.R (Kd.slice 3 (Kd.int .i64)) 26 W w0.heap.size (fun _ => True) vT T) (HP0 : Kd.R (Kd.int .i64) 3 W w0.heap.size (fun _ => True) (.slice (some ⟨b, 0, none⟩) p.length cap) p)
    (hu : upB p = true) (h0 : 0 < p.length) (hl : p.length ≤ 12) (hT : T.length ≤ 1000) :
    Calls Try.prog 103 (#[.slice (some ⟨b, 0, none⟩) p.length cap] ++ #[.pointer (some ⟨g, 0, none⟩)]) W fun e w' => e = .returned (.tuple #[]) ∧ ∃ vT', w'.heap[g]? = some (.cells #[vT', .string rs, .bool ev] 88 (0, 0)) ∧ Kd.R (Kd.slice 3 (Kd.int .i64)) 26 w' w0.heap.size (fun _ => True) vT' (T ++ [p]) ∧ Below w0.heap.size w0 w' ∧
      ∀ k, k < W.heap.size → k ≠ g → some k ≠ vT.ownBlock → w'.heap[k]? = W.heap[k]? := by
  have hs := Aside0.mk (sort_calls b cap p w0 W hu HP0 hl h0)
  obtain ⟨A, c, rfl⟩ := Kd.R_slice HT0
  have HB := Aside0.mk HB0
  have BK := Aside0.mk BK0
  have HT := Aside0.mk HT0
  have HP := Aside0.mk HP0
  have HTL := Aside0.mk hT
  clear HB0 BK0 HT0 HP0 hu h0 hl hT
  generalize hn : T.length = n at *
  have hN := Aside0.mk hn
  clear hn
  generalize hm : p.length = m at *
  have hM := Aside0.mk hm
  clear hm
  go_enter Try.func103, Try.ntmps103
  go_wp2_with (first | (go_at_call 104; refine hs.out.mono ?_; rintro e w5 ⟨rfl, hb⟩; have n0_ := Aside0.mk (below_step HB.out hb); have n1_ := Aside0.mk (blk_below (pk BK.out) hb); have n2_ := Aside0.mk (Kd.R_below HT.out hb); have n3_ := Aside0.mk (Kd.R_below HP.out hb); have HS := Aside0.mk hb; clear HB BK HT HP hb; have HB := n0_; have BK := n1_; have HT := n2_; have HP := n3_; clear n0_ n1_ n2_ n3_; have hz0 := (blk_cell BK.out 0).trans (show _ = some (Value.slice A n c) from rfl)) | ((with_reducible refine gate_builtin (b := .append) (xs := #[.tmp 6, .tmp 8]) rfl ?_); at_builtin; refine Kd.R_append (Kd.slice 3 (Kd.int .i64)) (w0 := w0) w0.heap.size rfl (.tmp 6) (.tmp 8) 54 26 (.slice none 0 0) 24 rfl Try.underlying54 info26 rfl (by decide) (by omega) (.slice A n c) T p [.slice (some ⟨b, 0, none⟩) m cap] (fun _ => True) (fun k => k = b) rfl rfl ?aP ?aK (fun _ _ => trivial) ?aO ?aB ?aS ?aL ?_; (case aP => exact ⟨_, rfl, Kd.R_mono (Kd.R_tight rfl HP.out) (fun k hk => by simpa [Value.ownBlock] using hk)⟩); (case aK => (rintro k rfl; exact ⟨trivial, (by obtain ⟨cells, hc⟩ := Kd.R_typed HP.out k rfl; exact Kd.R_ne HT.out hc (by decide))⟩)); (case aO => exact HT.out); (case aB => exact HB.out); (case aS => exact below_size HB.out); (case aL => (have := HTL.out; have := hN.out; omega)); intro v1 w15 ho hb hgr hat; obtain ⟨A1, c1, rfl⟩ := Kd.R_slice ho; have HT2 := Aside0.mk ho; have HB2 := Aside0.mk hb; have BK2 := Aside0.mk (blk_grown (pk BK.out) hgr (Kd.R_ne HT.out (pk BK.out) (by decide))); have HG := Aside0.mk hgr; clear ho hb hgr hat; have hz1 := (blk_cell BK2.out 0).trans (show _ = some (Value.slice A n c) from rfl); have hf1 := blk_frozen BK2.out 0))
  go_end0
  have hR := Kd.R_set HT2.out BK2.out (by decide) 0 (.slice A1 (T.length + 1) c1)
  rw [List.length_append] at hR
  refine ⟨rfl, _, blk_put BK2.out 0 _ rfl, hR, below_set HB2.out hge, fun k hk hkg hkv => ?_⟩
  rw [Below.heap_setCell _ ⟨g, 0, none⟩ _ k hkg, HG.out.block k (Nat.lt_of_lt_of_le hk HS.out.size) hkv]
  exact HS.out.block k hk
/-- What stands while a crossing is made: the people's order, the crossing's own box (g), the result's box (gR). -/
structure St (w : World) (g gR bo co n : Nat) (W : World) (T : List (List Int)) (rs : ByteArray) (ev : Bool) : Prop where
  below : Below w.heap.size w W
  ge : w.heap.size ≤ g
  geR : w.heap.size ≤ gR
  ne : gR ≠ g
  ord : Kd.R (Kd.int .i64) 3 W w.heap.size (fun _ => True) (.slice (some ⟨bo, 0, none⟩) n co) (iota n)
  box : ∃ vT, W.heap[g]? = some (.cells #[vT, .string rs, .bool ev] 88 (0, 0)) ∧ Kd.R (Kd.slice 3 (Kd.int .i64)) 26 W w.heap.size (fun _ => True) vT T
  res : W.heap[gR]? = some (.cells #[.slice none 0 0, .string (⟨#[]⟩ : ByteArray), .bool false] 88 (0, 0))
section
variable {w W W1 : World} {g gR bo co n : Nat} {T : List (List Int)} {rs : ByteArray} {ev : Bool}
theorem St.lays (h : St w g gR bo co n W T rs ev) (hb : Below W.heap.size W W1) : St w g gR bo co n W1 T rs ev := by
  obtain ⟨vT, h1, h2⟩ := h.box
  exact ⟨below_step h.below hb, h.ge, h.geR, h.ne, Kd.R_below h.ord hb, ⟨vT, blk_below h1 hb, Kd.R_below h2 hb⟩, blk_below h.res hb⟩
theorem St.drew (h : St w g gR bo co n W T rs ev) : St w g gR bo co n W.drew T rs ev := h.lays (below_drew1 (Below.refl _ _))
theorem St.at (h : St w g gR bo co n W T rs ev) (i : Nat) (hi : i < n) : W.cell? ⟨bo, i, none⟩ = some (.int .i64 (i : Int)) := by
  have hc := (Kd.R_celln 0 h.ord (i : Int) (by omega) (by omega)).1
  rw [iota_at n i hi, Int.toNat_natCast] at hc
  exact hc
theorem St.call (h : St w g gR bo co n W T rs ev) (b cap : Nat) (p : List Int) (HP : Kd.R (Kd.int .i64) 3 W w.heap.size (fun _ => True) (.slice (some ⟨b, 0, none⟩) p.length cap) p) (hu : upB p = true) (h0 : 0 < p.length) (hl : p.length ≤ 12) (hT : T.length ≤ 1000) :
    Calls Try.prog 103 (#[.slice (some ⟨b, 0, none⟩) p.length cap] ++ #[.pointer (some ⟨g, 0, none⟩)]) W fun e w' => e = .returned (.tuple #[]) ∧ St w g gR bo co n w' (T ++ [p]) rs ev := by
  obtain ⟨vT, h1, h2⟩ := h.box
  refine (trip_calls g b vT T rs ev p cap w W h.below h.ge h1 h2 HP hu h0 hl hT).mono ?_
  rintro e w' ⟨rfl, vT', k1, k2, k3, k4⟩
  refine ⟨rfl, k3, h.ge, h.geR, h.ne, ?_, ⟨vT', k1, k2⟩, ?_⟩
  · refine Kd.R_mono (Kd.R_step (Kd.R_tight rfl h.ord) (fun k hk hlt => ?_)) (fun _ _ => trivial)
    obtain ⟨cells, hc⟩ := Kd.R_typed h.ord k hk.symm
    refine k4 k hlt (fun e => ?_) (Kd.R_ne h2 hc (by decide))
    rw [e, h1] at hc
    injection hc with hc
    injection hc with _ hc
    exact absurd hc (by decide)
  · rw [k4 gR (blk_lt h.res) h.ne (Kd.R_ne h2 h.res (by decide))]
    exact h.res
theorem fresh_row (base : Nat) (W : World) (p : List Int) (hb : base ≤ W.heap.size) (hl : p.length ≤ 12) : Kd.R (Kd.int .i64) 3 (W.alloc (.cells (p.map (Value.int .i64)).toArray 3)) base (fun _ => True) (.slice (some ⟨W.heap.size, 0, none⟩) p.length p.length) p := by
  have ho := World.ownsRow_lit (base := base) (e := 3) (size := 1) W (p.map (Value.int .i64)).toArray p.length hb (by unfold maxLen; omega) (by simp)
  exact Kd.R_of_own (enc := Value.int .i64) (by simpa [encs] using ho) (fun _ _ => trivial)
theorem St.call1 (h : St w g gR bo co n W T rs ev) (a : Int) (hT : T.length ≤ 1000) :
    Calls Try.prog 103 #[.slice (some ⟨W.heap.size, 0, none⟩) 1 1, .pointer (some ⟨g, 0, none⟩)] (W.alloc (.cells #[.int .i64 a] 3)) fun e w' => e = .returned (.tuple #[]) ∧ St w g gR bo co n w' (T ++ [[a]]) rs ev :=
  (h.lays (below_alloc (Below.refl _ _) _)).call W.heap.size 1 [a] (fresh_row _ W [a] h.below.size (by simp)) rfl (by simp) (by simp) hT
theorem St.call2 (h : St w g gR bo co n W T rs ev) (a b : Int) (hab : a ≤ b) (hT : T.length ≤ 1000) :
    Calls Try.prog 103 #[.slice (some ⟨W.heap.size, 0, none⟩) 2 2, .pointer (some ⟨g, 0, none⟩)] (W.alloc (.cells #[.int .i64 a, .int .i64 b] 3)) fun e w' => e = .returned (.tuple #[]) ∧ St w g gR bo co n w' (T ++ [[a, b]]) rs ev :=
  (h.lays (below_alloc (Below.refl _ _) _)).call W.heap.size 2 [a, b] (fresh_row _ W [a, b] h.below.size (by simp)) (by simp [upB, hab]) (by simp) (by simp) hT
theorem St.call2d (h : St w g gR bo co n W T rs ev) (a b : Int) (hab : a ≤ b) (hT : T.length ≤ 1000) :
    Calls Try.prog 103 #[.slice (some ⟨W.heap.size, 0, none⟩) 2 2, .pointer (some ⟨g, 0, none⟩)] (W.alloc (.cells #[.int .i64 a, .int .i64 b] 3)).drew fun e w' => e = .returned (.tuple #[]) ∧ St w g gR bo co n w' (T ++ [[a, b]]) rs ev :=
  (h.lays (below_drew1 (below_alloc (Below.refl _ _) _))).call W.heap.size 2 [a, b] (Kd.R_drew (fresh_row _ W [a, b] h.below.size (by simp))) (by simp [upB, hab]) (by simp) (by simp) hT
theorem St.drewN (h : St w g gR bo co n W T rs ev) (k : Nat) : St w g gR bo co n (W.drewN k) T rs ev := h.lays (pw_below_drewN (Below.refl _ _) k)
theorem St.call2x (h : St w g gR bo co n W T rs ev) (a b : Int) (q : Nat) (hq : W.heap.size = q) (hab : a ≤ b) (hT : T.length ≤ 1000) :
    Calls Try.prog 103 #[.slice (some ⟨q, 0, none⟩) 2 2, .pointer (some ⟨g, 0, none⟩)] (W.alloc (.cells #[.int .i64 a, .int .i64 b] 3)) fun e w' => e = .returned (.tuple #[]) ∧ St w g gR bo co n w' (T ++ [[a, b]]) rs ev := by
  subst hq
  exact h.call2 a b hab hT
theorem St.rounds (h : St w g gR bo co n W T rs ev) (x : ByteArray) : St w g gR bo co n (W.setCell ⟨g, 1, none⟩ (.string x)) T x ev := by
  obtain ⟨vT, h1, h2⟩ := h.box
  exact ⟨below_set h.below h.ge, h.ge, h.geR, h.ne, Kd.R_set h.ord h1 (by decide) 1 _, ⟨vT, blk_put h1 1 _ rfl, Kd.R_set h2 h1 (by decide) 1 _⟩, blk_far h.res h.ne _⟩
theorem St.evens (h : St w g gR bo co n W T rs ev) (x : Bool) : St w g gR bo co n (W.setCell ⟨g, 2, none⟩ (.bool x)) T rs x := by
  obtain ⟨vT, h1, h2⟩ := h.box
  exact ⟨below_set h.below h.ge, h.ge, h.geR, h.ne, Kd.R_set h.ord h1 (by decide) 2 _, ⟨vT, blk_put h1 2 _ rfl, Kd.R_set h2 h1 (by decide) 2 _⟩, blk_far h.res h.ne _⟩
theorem St.start (HB : Below w.heap.size w W) (GG : w.heap.size ≤ g) (GR : w.heap.size ≤ gR) (NE : gR ≠ g) (HO : Kd.R (Kd.int .i64) 3 W w.heap.size (fun _ => True) (.slice (some ⟨bo, 0, none⟩) n co) (iota n))
    (BG : W.heap[g]? = some (.cells #[.slice none 0 0, .string (⟨#[]⟩ : ByteArray), .bool false] 88 (0, 0))) (BR : W.heap[gR]? = some (.cells #[.slice none 0 0, .string (⟨#[]⟩ : ByteArray), .bool false] 88 (0, 0))) :
    St w g gR bo co n (((W.setCell ⟨g, 0, none⟩ (.slice none 0 0)).setCell ⟨g, 1, none⟩ (.string (⟨#[]⟩ : ByteArray))).setCell ⟨g, 2, none⟩ (.bool false)) [] (⟨#[]⟩ : ByteArray) false := by
  have h1 : St w g gR bo co n (W.setCell ⟨g, 0, none⟩ (.slice none 0 0)) [] (⟨#[]⟩ : ByteArray) false := ⟨below_set HB GG, GG, GR, NE, Kd.R_set HO BG (by decide) 0 _, ⟨.slice none 0 0, blk_put BG 0 _ rfl, Kd.R_nil _ _ _ _ _⟩, blk_far BR NE _⟩
  exact (h1.rounds (⟨#[]⟩ : ByteArray)).evens false
theorem St.done (h : St w g gR bo co n W T rs ev) {vT : Value} (k2 : Kd.R (Kd.slice 3 (Kd.int .i64)) 26 W w.heap.size (fun _ => True) vT T) :
    (((W.setCell ⟨gR, 0, none⟩ vT).setCell ⟨gR, 1, none⟩ (.string rs)).setCell ⟨gR, 2, none⟩ (.bool ev)).heap[gR]? = some (.cells #[vT, .string rs, .bool ev] 88 (0, 0)) ∧ Kd.R (Kd.slice 3 (Kd.int .i64)) 26 (((W.setCell ⟨gR, 0, none⟩ vT).setCell ⟨gR, 1, none⟩ (.string rs)).setCell ⟨gR, 2, none⟩ (.bool ev)) w.heap.size (fun _ => True) vT T
      ∧ Below w.heap.size w (((W.setCell ⟨gR, 0, none⟩ vT).setCell ⟨gR, 1, none⟩ (.string rs)).setCell ⟨gR, 2, none⟩ (.bool ev)) := by
  have b1 := blk_put h.res 0 vT rfl
  have b2 := blk_put b1 1 (.string rs) rfl
  exact ⟨blk_put b2 2 (.bool ev) rfl, Kd.R_set (Kd.R_set (Kd.R_set k2 h.res (by decide) 0 _) b1 (by decide) 1 _) b2 (by decide) 2 _, below_set (below_set (below_set h.below h.geR) h.geR) h.geR⟩
end
/-- What impl.cross answers at one to four times that do not fall. -/
def crossL : List Int → Bool → List (List Int) × ByteArray × Bool
  | [_], _ => ([[0]], (⟨#[]⟩ : ByteArray), false)
  | [_, _], _ => ([[0, 1]], (⟨#[]⟩ : ByteArray), false)
  | [_, _, _], _ => ([[0, 1], [0], [0, 2]], (⟨#[]⟩ : ByteArray), false)
  | [a, b, y, z], esc => if 2 * b < a + y ∧ esc = false then ([[0, 1], [0], [2, 3], [1], [0, 1]], (⟨#[]⟩ : ByteArray) ++ ⟨#[102]⟩, decide (2 * b = a + y)) else ([[0, 3], [0], [0, 2], [0], [0, 1]], (⟨#[]⟩ : ByteArray) ++ ⟨#[101]⟩, decide (2 * b = a + y))
  | _, _ => ([], (⟨#[]⟩ : ByteArray), false)
set_option maxHeartbeats 8000000 in
set_option maxRecDepth 100000 in
theorem cross4_calls (A0 : Option Addr) (c0 : Nat) (l : List Int) (esc : Bool) (m : Nat) (hm : l.length = m + 1) (h4 : m = 3) (hs : ∀ i, 0 < i → i < m + 1 → l.getD (i - 1) 0 ≤ l.getD i 0) (hx : ∀ x ∈ l, 0 ≤ x ∧ x ≤ 1000000) (w : World) (hr0 : Kd.C (Kd.int .i64) w A0 l.length l) (hc0 : l.length ≤ c0) :
    Calls Try.prog 95 #[.slice A0 l.length c0, .bool esc] w fun e w' => ∃ v0_ : Value, e = .returned (.agg #[v0_, .string (crossL l esc).2.1, .bool (crossL l esc).2.2]) ∧ Kd.R (Kd.slice 3 (Kd.int .i64)) 26 w' w.heap.size (fun _ => True) v0_ (crossL l esc).1 ∧ Below w.heap.size w w' := by
  have HR := Aside0.mk hr0
  have hp := Aside0.mk fun (W : World) (hb : Below w.heap.size w W) => pace_calls A0 c0 l m hm (by omega) hs W (Kd.C_below hr0 hb) hc0
  clear hr0 hc0
  generalize hX : crossL l esc = X
  have HX := Aside0.mk hX
  have HL := Aside0.mk hm
  have HS := Aside0.mk hs
  have HXB := Aside0.mk hx
  rw [hm] at hp ⊢
  clear hX hm hs hx
  have H4 := Aside0.mk h4
  clear h4
  go_enter Try.func95, Try.ntmps95
  go_upto_region 4 with (first | ((with_reducible refine gate_dst (N := 4) rfl ?_); refine box_event ?hg (N := 4) ?hd (cs := #[.slice none 0 0, .string (⟨#[]⟩ : ByteArray), .bool false]) (t := 88) ?hr ?_; (case hd => rfl); (case hg => rfl); (case hr => first | (go_simp; done) | (go_simp; rfl)); intro gR hg4 w4 hbox4 hb4; have BR := Aside0.mk hbox4; have GR := Aside0.mk (Nat.le_of_eq hg4.symm); have HB := Aside0.mk hb4; clear hbox4 hg4 hb4) | (go_at_call 102; refine (hp.out _ HB.out).mono ?_; rintro e w5 ⟨vo, rfl, ho, hb⟩; obtain ⟨bo, co, evo, hge, hlt, cells, hcl⟩ := Kd.R_form ho (by rw [iota_len]; omega); rw [iota_len] at evo; subst evo; have HO := Aside0.mk (Kd.R_lower ho HB.out.size); have n1_ := Aside0.mk (blk_below (pk BR.out) hb); have n2_ := Aside0.mk (below_step HB.out hb); clear HB BR hge hlt hcl ho; have HB := n2_; have BR := n1_; clear n1_ n2_ hb) | ((with_reducible refine gate_dst (N := 6) rfl ?_); refine box_event ?hg (N := 6) ?hd (cs := #[.slice none 0 0, .string (⟨#[]⟩ : ByteArray), .bool false]) (t := 88) ?hr ?_; (case hd => rfl); (case hg => rfl); (case hr => first | (go_simp; done) | (go_simp; rfl)); intro g hg6 w6 hbox6 hb6; have BG := Aside0.mk hbox6; have GG := Aside0.mk (Nat.le_trans HB.out.size (Nat.le_of_eq hg6.symm)); have NE := Aside0.mk (show gR ≠ g from fun e => by have := blk_lt BR.out; omega); have n1_ := Aside0.mk (blk_below (pk BR.out) hb6); have n2_ := Aside0.mk (below_step HB.out hb6); have n3_ := Aside0.mk (Kd.R_below HO.out hb6); clear HB BR HO hbox6 hg6 hb6; have HB := n2_; have BR := n1_; have HO := n3_; clear n1_ n2_ n3_; have hz0 := (blk_cell BG.out 0).trans (show _ = some (Value.slice none 0 0) from rfl); have hz1 := (blk_cell BG.out 1).trans (show _ = some (Value.string (⟨#[]⟩ : ByteArray)) from rfl); have hz2 := (blk_cell BG.out 2).trans (show _ = some (Value.bool false) from rfl); have hf0 := blk_frozen BG.out 0; have hf1 := blk_frozen BG.out 1; have hf2 := blk_frozen BG.out 2))
  have HST := Aside0.mk (St.start HB.out GG.out GR.out NE.out HO.out BG.out BR.out)
  generalize hW : ((w6.setCell ⟨g, 0, none⟩ (.slice none 0 0)).setCell ⟨g, 1, none⟩ (.string (⟨#[]⟩ : ByteArray))).setCell ⟨g, 2, none⟩ (.bool false) = W0 at HST ⊢
  clear hW HB HO BG BR GG GR NE hz0 hz1 hz2 hf0 hf1 hf2 hp
  have hu61 := Try.underlying88
  obtain rfl : m = 3 := H4.out
  obtain ⟨a, b, y, z, rfl⟩ : ∃ a b y z, l = [a, b, y, z] := by
    match l, HL.out with
    | [a, b, y, z], _ => exact ⟨a, b, y, z, rfl⟩
  have ha := HXB.out a (by simp)
  have hb := HXB.out b (by simp)
  have hy := HXB.out y (by simp)
  have w1 : IntKind.i64.wrap (2 * b) = 2 * b := IntWalk.i64_in _ ⟨by omega, by omega⟩
  have w2 : IntKind.i64.wrap (a + y) = a + y := IntWalk.i64_in _ ⟨by omega, by omega⟩
  clear ha hb hy
  have hC := Kd.C_below HR.out HST.out.below
  obtain ⟨ad, eA, t0⟩ := Kd.at_int hC 0 (by decide) (by simp)
  subst eA
  obtain ⟨ad1, eA1, t1⟩ := Kd.at_int hC 1 (by decide) (by simp)
  injection eA1 with eA1
  subst eA1
  obtain ⟨ad2, eA2, t2⟩ := Kd.at_int hC 2 (by decide) (by simp)
  injection eA2 with eA2
  subst eA2
  have t0' : W0.cell? ad = some (.int .i64 a) := t0
  replace t0 : W0.cell? (ad.add 0) = some (.int .i64 a) := t0
  replace t1 : W0.cell? ⟨ad.block, ad.off + 1, none⟩ = some (.int .i64 b) := t1
  replace t2 : W0.cell? ⟨ad.block, ad.off + 2, none⟩ = some (.int .i64 y) := t2
  clear hC
  have o0 : W0.cell? ⟨bo, 0, none⟩ = some (.int .i64 0) := HST.out.at 0 (by decide)
  have o1 : W0.cell? ⟨bo, 1, none⟩ = some (.int .i64 1) := HST.out.at 1 (by decide)
  have o2 : W0.cell? ⟨bo, 2, none⟩ = some (.int .i64 2) := HST.out.at 2 (by decide)
  have o3 : W0.cell? ⟨bo, 3, none⟩ = some (.int .i64 3) := HST.out.at 3 (by decide)
  refine wp_loop_rounds 2 ?_
  rw [rounds_succ]
  go_wp2
  go_quiet (fail)
  go_wp2
  go_quiet (fail)
  obtain ⟨vT, k1, k2⟩ := HST.out.box
  obtain ⟨At, ct, rfl⟩ := Kd.R_slice k2
  have zg1 := (blk_cell k1 1).trans (show _ = some (Value.string (⟨#[]⟩ : ByteArray)) from rfl)
  have zg2 := (blk_cell k1 2).trans (show _ = some (Value.bool false) from rfl)
  have zh1 := blk_frozen k1 1
  have zh2 := blk_frozen k1 2
  clear k1 k2
  by_cases hl : 2 * b < a + y
  · have l1 : decide (2 * b < a + y) = true := decide_eq_true hl
    have e1 : (2 * b == a + y) = false := by rw [beq_eq_false_iff_ne]; omega
    have e2 : decide (2 * b = a + y) = false := decide_eq_false (by omega)
    cases esc
    · have HX2 := Aside0.mk (show crossL [a, b, y, z] false = ([[0, 1], [0], [2, 3], [1], [0, 1]], (⟨#[]⟩ : ByteArray) ++ ⟨#[102]⟩, false) by show (if 2 * b < a + y ∧ false = false then _ else _) = _; rw [if_pos ⟨hl, rfl⟩, e2])
      clear hl e2
      go_upto_region 12 with (go_at_call 103; refine Calls.mono (St.call2x (W := _) ((((HST.out.drewN _).evens _).rounds _)) 0 1 _ ?h1 ?h2 ?h3) ?_; (case h1 => simp [World.drewN]); (case h2 => decide); (case h3 => simp); rintro e wH9 ⟨rfl, hst⟩; have H9 := Aside0.mk hst; clear hst)
      go_upto_region 13 with (go_at_call 103; refine Calls.mono (St.call1 H9.out 0 ?h3) ?_; (case h3 => simp); rintro e wH10 ⟨rfl, hst⟩; have H10 := Aside0.mk hst; clear hst)
      go_upto_region 14 with (go_at_call 103; refine Calls.mono (St.call2 H10.out 2 3 ?h2 ?h3) ?_; (case h2 => decide); (case h3 => simp); rintro e wH11 ⟨rfl, hst⟩; have H11 := Aside0.mk hst; clear hst)
      go_upto_region 5 with (go_at_call 103; refine Calls.mono (St.call1 H11.out 1 ?h3) ?_; (case h3 => simp); rintro e wH12 ⟨rfl, hst⟩; have H12 := Aside0.mk hst; clear hst; have o0 := H12.out.at 0 (by decide); have o1 := H12.out.at 1 (by decide))
      go_wp2
      rw [rounds_succ]
      go_wp2
      go_region_with (go_at_call 103; refine (H12.out.call2d 0 1 (by decide) (by simp)).mono ?_; rintro e wH13 ⟨rfl, hst⟩; have H13 := Aside0.mk hst; clear hst)
      all_goals
        obtain ⟨vT, k1, k2⟩ := H13.out.box
        obtain ⟨At, ct, rfl⟩ := Kd.R_slice k2
        have K2 := Aside0.mk k2
        have zt0 := (blk_cell k1 0).trans (show _ = some (Value.slice At 5 ct) from rfl)
        have zt1 := (blk_cell k1 1).trans (show _ = some (Value.string ((⟨#[]⟩ : ByteArray) ++ (⟨#[102]⟩ : ByteArray))) from rfl)
        have zt2 := (blk_cell k1 2).trans (show _ = some (Value.bool false) from rfl)
        have zr0 := (blk_cell H13.out.res 0).trans (show _ = some (Value.slice none 0 0) from rfl)
        have zr1 := (blk_cell H13.out.res 1).trans (show _ = some (Value.string (⟨#[]⟩ : ByteArray)) from rfl)
        have zr2 := (blk_cell H13.out.res 2).trans (show _ = some (Value.bool false) from rfl)
        have zf0 := blk_frozen H13.out.res 0
        have zf1 := blk_frozen H13.out.res 1
        have zf2 := blk_frozen H13.out.res 2
        clear k1 k2
        go_wp2
        obtain ⟨d1, d2, d3⟩ := H13.out.done K2.out
        refine bodyPost_ret (results_cell_row rfl _ _ gR 88 #[.slice At 5 ct, .string ((⟨#[]⟩ : ByteArray) ++ (⟨#[102]⟩ : ByteArray)), .bool false] (0, 0) _ rfl d1 Try.underlying88 rfl (by kernel_rfl)) rfl ?_
        rw [← HX.out, HX2.out]
        exact ⟨_, rfl, d2, d3⟩
    · have HX2 := Aside0.mk (show crossL [a, b, y, z] true = ([[0, 3], [0], [0, 2], [0], [0, 1]], (⟨#[]⟩ : ByteArray) ++ ⟨#[101]⟩, false) by show (if 2 * b < a + y ∧ true = false then _ else _) = _; rw [if_neg (by simp), e2])
      clear hl e2
      go_upto_region 17 with (go_at_call 103; refine Calls.mono (St.call2x (W := _) ((((HST.out.drewN _).evens _).rounds _)) 0 3 _ ?h1 ?h2 ?h3) ?_; (case h1 => simp [World.drewN]); (case h2 => decide); (case h3 => simp); rintro e wH9 ⟨rfl, hst⟩; have H9 := Aside0.mk hst; clear hst)
      go_upto_region 18 with (go_at_call 103; refine Calls.mono (St.call1 H9.out 0 ?h3) ?_; (case h3 => simp); rintro e wH10 ⟨rfl, hst⟩; have H10 := Aside0.mk hst; clear hst)
      go_upto_region 19 with (go_at_call 103; refine Calls.mono (St.call2 H10.out 0 2 ?h2 ?h3) ?_; (case h2 => decide); (case h3 => simp); rintro e wH11 ⟨rfl, hst⟩; have H11 := Aside0.mk hst; clear hst)
      go_upto_region 5 with (go_at_call 103; refine Calls.mono (St.call1 H11.out 0 ?h3) ?_; (case h3 => simp); rintro e wH12 ⟨rfl, hst⟩; have H12 := Aside0.mk hst; clear hst; have o0 := H12.out.at 0 (by decide); have o1 := H12.out.at 1 (by decide))
      go_wp2
      rw [rounds_succ]
      go_wp2
      go_region_with (go_at_call 103; refine (H12.out.call2d 0 1 (by decide) (by simp)).mono ?_; rintro e wH13 ⟨rfl, hst⟩; have H13 := Aside0.mk hst; clear hst)
      all_goals
        obtain ⟨vT, k1, k2⟩ := H13.out.box
        obtain ⟨At, ct, rfl⟩ := Kd.R_slice k2
        have K2 := Aside0.mk k2
        have zt0 := (blk_cell k1 0).trans (show _ = some (Value.slice At 5 ct) from rfl)
        have zt1 := (blk_cell k1 1).trans (show _ = some (Value.string ((⟨#[]⟩ : ByteArray) ++ (⟨#[101]⟩ : ByteArray))) from rfl)
        have zt2 := (blk_cell k1 2).trans (show _ = some (Value.bool false) from rfl)
        have zr0 := (blk_cell H13.out.res 0).trans (show _ = some (Value.slice none 0 0) from rfl)
        have zr1 := (blk_cell H13.out.res 1).trans (show _ = some (Value.string (⟨#[]⟩ : ByteArray)) from rfl)
        have zr2 := (blk_cell H13.out.res 2).trans (show _ = some (Value.bool false) from rfl)
        have zf0 := blk_frozen H13.out.res 0
        have zf1 := blk_frozen H13.out.res 1
        have zf2 := blk_frozen H13.out.res 2
        clear k1 k2
        go_wp2
        obtain ⟨d1, d2, d3⟩ := H13.out.done K2.out
        refine bodyPost_ret (results_cell_row rfl _ _ gR 88 #[.slice At 5 ct, .string ((⟨#[]⟩ : ByteArray) ++ (⟨#[101]⟩ : ByteArray)), .bool false] (0, 0) _ rfl d1 Try.underlying88 rfl (by kernel_rfl)) rfl ?_
        rw [← HX.out, HX2.out]
        exact ⟨_, rfl, d2, d3⟩
  · have l1 : decide (2 * b < a + y) = false := decide_eq_false hl
    by_cases he : 2 * b = a + y
    · have e1 : (2 * b == a + y) = true := by rw [beq_iff_eq]; exact he
      have e2 : decide (2 * b = a + y) = true := decide_eq_true he
      have HX2 := Aside0.mk (show crossL [a, b, y, z] esc = ([[0, 3], [0], [0, 2], [0], [0, 1]], (⟨#[]⟩ : ByteArray) ++ ⟨#[101]⟩, true) by show (if 2 * b < a + y ∧ esc = false then _ else _) = _; rw [if_neg (fun h => hl h.1), e2])
      clear hl he e2
      go_upto_region 17 with (go_at_call 103; refine Calls.mono (St.call2x (W := _) ((((HST.out.drewN _).evens _).rounds _)) 0 3 _ ?h1 ?h2 ?h3) ?_; (case h1 => simp [World.drewN]); (case h2 => decide); (case h3 => simp); rintro e wH9 ⟨rfl, hst⟩; have H9 := Aside0.mk hst; clear hst)
      go_upto_region 18 with (go_at_call 103; refine Calls.mono (St.call1 H9.out 0 ?h3) ?_; (case h3 => simp); rintro e wH10 ⟨rfl, hst⟩; have H10 := Aside0.mk hst; clear hst)
      go_upto_region 19 with (go_at_call 103; refine Calls.mono (St.call2 H10.out 0 2 ?h2 ?h3) ?_; (case h2 => decide); (case h3 => simp); rintro e wH11 ⟨rfl, hst⟩; have H11 := Aside0.mk hst; clear hst)
      go_upto_region 5 with (go_at_call 103; refine Calls.mono (St.call1 H11.out 0 ?h3) ?_; (case h3 => simp); rintro e wH12 ⟨rfl, hst⟩; have H12 := Aside0.mk hst; clear hst; have o0 := H12.out.at 0 (by decide); have o1 := H12.out.at 1 (by decide))
      go_wp2
      rw [rounds_succ]
      go_wp2
      go_region_with (go_at_call 103; refine (H12.out.call2d 0 1 (by decide) (by simp)).mono ?_; rintro e wH13 ⟨rfl, hst⟩; have H13 := Aside0.mk hst; clear hst)
      all_goals
        obtain ⟨vT, k1, k2⟩ := H13.out.box
        obtain ⟨At, ct, rfl⟩ := Kd.R_slice k2
        have K2 := Aside0.mk k2
        have zt0 := (blk_cell k1 0).trans (show _ = some (Value.slice At 5 ct) from rfl)
        have zt1 := (blk_cell k1 1).trans (show _ = some (Value.string ((⟨#[]⟩ : ByteArray) ++ (⟨#[101]⟩ : ByteArray))) from rfl)
        have zt2 := (blk_cell k1 2).trans (show _ = some (Value.bool true) from rfl)
        have zr0 := (blk_cell H13.out.res 0).trans (show _ = some (Value.slice none 0 0) from rfl)
        have zr1 := (blk_cell H13.out.res 1).trans (show _ = some (Value.string (⟨#[]⟩ : ByteArray)) from rfl)
        have zr2 := (blk_cell H13.out.res 2).trans (show _ = some (Value.bool false) from rfl)
        have zf0 := blk_frozen H13.out.res 0
        have zf1 := blk_frozen H13.out.res 1
        have zf2 := blk_frozen H13.out.res 2
        clear k1 k2
        go_wp2
        obtain ⟨d1, d2, d3⟩ := H13.out.done K2.out
        refine bodyPost_ret (results_cell_row rfl _ _ gR 88 #[.slice At 5 ct, .string ((⟨#[]⟩ : ByteArray) ++ (⟨#[101]⟩ : ByteArray)), .bool true] (0, 0) _ rfl d1 Try.underlying88 rfl (by kernel_rfl)) rfl ?_
        rw [← HX.out, HX2.out]
        exact ⟨_, rfl, d2, d3⟩
    · have e1 : (2 * b == a + y) = false := by rw [beq_eq_false_iff_ne]; exact he
      have e2 : decide (2 * b = a + y) = false := decide_eq_false he
      have HX2 := Aside0.mk (show crossL [a, b, y, z] esc = ([[0, 3], [0], [0, 2], [0], [0, 1]], (⟨#[]⟩ : ByteArray) ++ ⟨#[101]⟩, false) by show (if 2 * b < a + y ∧ esc = false then _ else _) = _; rw [if_neg (fun h => hl h.1), e2])
      clear hl he e2
      go_upto_region 17 with (go_at_call 103; refine Calls.mono (St.call2x (W := _) ((((HST.out.drewN _).evens _).rounds _)) 0 3 _ ?h1 ?h2 ?h3) ?_; (case h1 => simp [World.drewN]); (case h2 => decide); (case h3 => simp); rintro e wH9 ⟨rfl, hst⟩; have H9 := Aside0.mk hst; clear hst)
      go_upto_region 18 with (go_at_call 103; refine Calls.mono (St.call1 H9.out 0 ?h3) ?_; (case h3 => simp); rintro e wH10 ⟨rfl, hst⟩; have H10 := Aside0.mk hst; clear hst)
      go_upto_region 19 with (go_at_call 103; refine Calls.mono (St.call2 H10.out 0 2 ?h2 ?h3) ?_; (case h2 => decide); (case h3 => simp); rintro e wH11 ⟨rfl, hst⟩; have H11 := Aside0.mk hst; clear hst)
      go_upto_region 5 with (go_at_call 103; refine Calls.mono (St.call1 H11.out 0 ?h3) ?_; (case h3 => simp); rintro e wH12 ⟨rfl, hst⟩; have H12 := Aside0.mk hst; clear hst; have o0 := H12.out.at 0 (by decide); have o1 := H12.out.at 1 (by decide))
      go_wp2
      rw [rounds_succ]
      go_wp2
      go_region_with (go_at_call 103; refine (H12.out.call2d 0 1 (by decide) (by simp)).mono ?_; rintro e wH13 ⟨rfl, hst⟩; have H13 := Aside0.mk hst; clear hst)
      all_goals
        obtain ⟨vT, k1, k2⟩ := H13.out.box
        obtain ⟨At, ct, rfl⟩ := Kd.R_slice k2
        have K2 := Aside0.mk k2
        have zt0 := (blk_cell k1 0).trans (show _ = some (Value.slice At 5 ct) from rfl)
        have zt1 := (blk_cell k1 1).trans (show _ = some (Value.string ((⟨#[]⟩ : ByteArray) ++ (⟨#[101]⟩ : ByteArray))) from rfl)
        have zt2 := (blk_cell k1 2).trans (show _ = some (Value.bool false) from rfl)
        have zr0 := (blk_cell H13.out.res 0).trans (show _ = some (Value.slice none 0 0) from rfl)
        have zr1 := (blk_cell H13.out.res 1).trans (show _ = some (Value.string (⟨#[]⟩ : ByteArray)) from rfl)
        have zr2 := (blk_cell H13.out.res 2).trans (show _ = some (Value.bool false) from rfl)
        have zf0 := blk_frozen H13.out.res 0
        have zf1 := blk_frozen H13.out.res 1
        have zf2 := blk_frozen H13.out.res 2
        clear k1 k2
        go_wp2
        obtain ⟨d1, d2, d3⟩ := H13.out.done K2.out
        refine bodyPost_ret (results_cell_row rfl _ _ gR 88 #[.slice At 5 ct, .string ((⟨#[]⟩ : ByteArray) ++ (⟨#[101]⟩ : ByteArray)), .bool false] (0, 0) _ rfl d1 Try.underlying88 rfl (by kernel_rfl)) rfl ?_
        rw [← HX.out, HX2.out]
        exact ⟨_, rfl, d2, d3⟩
set_option maxHeartbeats 1000000 in
set_option maxRecDepth 100000 in
theorem cross3_calls (A0 : Option Addr) (c0 : Nat) (l : List Int) (esc : Bool) (m : Nat) (hm : l.length = m + 1) (h4 : m < 3) (hs : ∀ i, 0 < i → i < m + 1 → l.getD (i - 1) 0 ≤ l.getD i 0) (hx : ∀ x ∈ l, 0 ≤ x ∧ x ≤ 1000000) (w : World) (hr0 : Kd.C (Kd.int .i64) w A0 l.length l) (hc0 : l.length ≤ c0) :
    Calls Try.prog 95 #[.slice A0 l.length c0, .bool esc] w fun e w' => ∃ v0_ : Value, e = .returned (.agg #[v0_, .string (crossL l esc).2.1, .bool (crossL l esc).2.2]) ∧ Kd.R (Kd.slice 3 (Kd.int .i64)) 26 w' w.heap.size (fun _ => True) v0_ (crossL l esc).1 ∧ Below w.heap.size w w' := by
  have HR := Aside0.mk hr0
  have hp := Aside0.mk fun (W : World) (hb : Below w.heap.size w W) => pace_calls A0 c0 l m hm (by omega) hs W (Kd.C_below hr0 hb) hc0
  clear hr0 hc0
  generalize hX : crossL l esc = X
  have HX := Aside0.mk hX
  have HL := Aside0.mk hm
  have HS := Aside0.mk hs
  have HXB := Aside0.mk hx
  rw [hm] at hp ⊢
  clear hX hm hs hx
  go_enter Try.func95, Try.ntmps95
  go_upto_region 4 with (first | ((with_reducible refine gate_dst (N := 4) rfl ?_); refine box_event ?hg (N := 4) ?hd (cs := #[.slice none 0 0, .string (⟨#[]⟩ : ByteArray), .bool false]) (t := 88) ?hr ?_; (case hd => rfl); (case hg => rfl); (case hr => first | (go_simp; done) | (go_simp; rfl)); intro gR hg4 w4 hbox4 hb4; have BR := Aside0.mk hbox4; have GR := Aside0.mk (Nat.le_of_eq hg4.symm); have HB := Aside0.mk hb4; clear hbox4 hg4 hb4) | (go_at_call 102; refine (hp.out _ HB.out).mono ?_; rintro e w5 ⟨vo, rfl, ho, hb⟩; obtain ⟨bo, co, evo, hge, hlt, cells, hcl⟩ := Kd.R_form ho (by rw [iota_len]; omega); rw [iota_len] at evo; subst evo; have HO := Aside0.mk (Kd.R_lower ho HB.out.size); have n1_ := Aside0.mk (blk_below (pk BR.out) hb); have n2_ := Aside0.mk (below_step HB.out hb); clear HB BR hge hlt hcl ho; have HB := n2_; have BR := n1_; clear n1_ n2_ hb) | ((with_reducible refine gate_dst (N := 6) rfl ?_); refine box_event ?hg (N := 6) ?hd (cs := #[.slice none 0 0, .string (⟨#[]⟩ : ByteArray), .bool false]) (t := 88) ?hr ?_; (case hd => rfl); (case hg => rfl); (case hr => first | (go_simp; done) | (go_simp; rfl)); intro g hg6 w6 hbox6 hb6; have BG := Aside0.mk hbox6; have GG := Aside0.mk (Nat.le_trans HB.out.size (Nat.le_of_eq hg6.symm)); have NE := Aside0.mk (show gR ≠ g from fun e => by have := blk_lt BR.out; omega); have n1_ := Aside0.mk (blk_below (pk BR.out) hb6); have n2_ := Aside0.mk (below_step HB.out hb6); have n3_ := Aside0.mk (Kd.R_below HO.out hb6); clear HB BR HO hbox6 hg6 hb6; have HB := n2_; have BR := n1_; have HO := n3_; clear n1_ n2_ n3_; have hz0 := (blk_cell BG.out 0).trans (show _ = some (Value.slice none 0 0) from rfl); have hz1 := (blk_cell BG.out 1).trans (show _ = some (Value.string (⟨#[]⟩ : ByteArray)) from rfl); have hz2 := (blk_cell BG.out 2).trans (show _ = some (Value.bool false) from rfl); have hf0 := blk_frozen BG.out 0; have hf1 := blk_frozen BG.out 1; have hf2 := blk_frozen BG.out 2))
  have HST := Aside0.mk (St.start HB.out GG.out GR.out NE.out HO.out BG.out BR.out)
  generalize hW : ((w6.setCell ⟨g, 0, none⟩ (.slice none 0 0)).setCell ⟨g, 1, none⟩ (.string (⟨#[]⟩ : ByteArray))).setCell ⟨g, 2, none⟩ (.bool false) = W0 at HST ⊢
  clear hW HB HO BG BR GG GR NE hz0 hz1 hz2 hf0 hf1 hf2 hp
  have hu61 := Try.underlying88
  obtain rfl | rfl | rfl : m = 0 ∨ m = 1 ∨ m = 2 := by omega
  · obtain ⟨a, rfl⟩ : ∃ a, l = [a] := by
      match l, HL.out with
      | [a], _ => exact ⟨a, rfl⟩
    have o0 := HST.out.at 0 (by decide)
    refine wp_loop_rounds 1 ?_
    rw [rounds_succ]
    go_wp2_with (go_at_call 103; refine (HST.out.call1 0 (by decide)).mono ?_; rintro e w9 ⟨rfl, hst⟩; obtain ⟨vT, k1, k2⟩ := hst.box; obtain ⟨At, ct, rfl⟩ := Kd.R_slice k2; have HST2 := Aside0.mk hst; have K2 := Aside0.mk k2; have zt0 := (blk_cell k1 0).trans (show _ = some (Value.slice At 1 ct) from rfl); have zt1 := (blk_cell k1 1).trans (show _ = some (Value.string (⟨#[]⟩ : ByteArray)) from rfl); have zt2 := (blk_cell k1 2).trans (show _ = some (Value.bool false) from rfl); have zr0 := (blk_cell hst.res 0).trans (show _ = some (Value.slice none 0 0) from rfl); have zr1 := (blk_cell hst.res 1).trans (show _ = some (Value.string (⟨#[]⟩ : ByteArray)) from rfl); have zr2 := (blk_cell hst.res 2).trans (show _ = some (Value.bool false) from rfl); have zf0 := blk_frozen hst.res 0; have zf1 := blk_frozen hst.res 1; have zf2 := blk_frozen hst.res 2; clear hst k1 k2)
    ·
      obtain ⟨d1, d2, d3⟩ := HST2.out.done K2.out
      refine bodyPost_ret (results_cell_row rfl _ _ gR 88 #[.slice At 1 ct, .string (⟨#[]⟩ : ByteArray), .bool false] (0, 0) _ rfl d1 Try.underlying88 rfl (by kernel_rfl)) rfl ?_
      rw [← HX.out]
      exact ⟨_, rfl, d2, d3⟩
  · obtain ⟨a, b, rfl⟩ : ∃ a b, l = [a, b] := by
      match l, HL.out with
      | [a, b], _ => exact ⟨a, b, rfl⟩
    have o0 := HST.out.at 0 (by decide)
    have o1 := HST.out.at 1 (by decide)
    refine wp_loop_rounds 1 ?_
    rw [rounds_succ]
    go_wp2
    go_region_with (go_at_call 103; refine (HST.out.call2d 0 1 (by decide) (by simp)).mono ?_; rintro e wH9 ⟨rfl, hst⟩; have H9 := Aside0.mk hst; clear hst)
    all_goals
      obtain ⟨vT, k1, k2⟩ := H9.out.box
      obtain ⟨At, ct, rfl⟩ := Kd.R_slice k2
      have K2 := Aside0.mk k2
      have zt0 := (blk_cell k1 0).trans (show _ = some (Value.slice At 1 ct) from rfl)
      have zt1 := (blk_cell k1 1).trans (show _ = some (Value.string (⟨#[]⟩ : ByteArray)) from rfl)
      have zt2 := (blk_cell k1 2).trans (show _ = some (Value.bool false) from rfl)
      have zr0 := (blk_cell H9.out.res 0).trans (show _ = some (Value.slice none 0 0) from rfl)
      have zr1 := (blk_cell H9.out.res 1).trans (show _ = some (Value.string (⟨#[]⟩ : ByteArray)) from rfl)
      have zr2 := (blk_cell H9.out.res 2).trans (show _ = some (Value.bool false) from rfl)
      have zf0 := blk_frozen H9.out.res 0
      have zf1 := blk_frozen H9.out.res 1
      have zf2 := blk_frozen H9.out.res 2
      clear k1 k2
      go_wp2
      obtain ⟨d1, d2, d3⟩ := H9.out.done K2.out
      refine bodyPost_ret (results_cell_row rfl _ _ gR 88 #[.slice At 1 ct, .string (⟨#[]⟩ : ByteArray), .bool false] (0, 0) _ rfl d1 Try.underlying88 rfl (by kernel_rfl)) rfl ?_
      rw [← HX.out]
      exact ⟨_, rfl, d2, d3⟩
  · obtain ⟨a, b, y, rfl⟩ : ∃ a b y, l = [a, b, y] := by
      match l, HL.out with
      | [a, b, y], _ => exact ⟨a, b, y, rfl⟩
    have o0 := HST.out.at 0 (by decide)
    have o1 := HST.out.at 1 (by decide)
    refine wp_loop_rounds 1 ?_
    rw [rounds_succ]
    go_wp2
    go_region_with (go_at_call 103; refine (HST.out.call2d 0 1 (by decide) (by simp)).mono ?_; rintro e wH9 ⟨rfl, hst⟩; have H9 := Aside0.mk hst; clear hst)
    all_goals
      have o0 := H9.out.at 0 (by decide)
      go_wp2_with (go_at_call 103; refine (H9.out.call1 0 (by simp)).mono ?_; rintro e wH10 ⟨rfl, hst⟩; have H10 := Aside0.mk hst; clear hst; have o0 := H10.out.at 0 (by decide); have o2 := H10.out.at 2 (by decide))
      go_region_with (go_at_call 103; refine (H10.out.call2d 0 2 (by decide) (by simp)).mono ?_; rintro e wH11 ⟨rfl, hst⟩; have H11 := Aside0.mk hst; clear hst)
      all_goals
        obtain ⟨vT, k1, k2⟩ := H11.out.box
        obtain ⟨At, ct, rfl⟩ := Kd.R_slice k2
        have K2 := Aside0.mk k2
        have zt0 := (blk_cell k1 0).trans (show _ = some (Value.slice At 3 ct) from rfl)
        have zt1 := (blk_cell k1 1).trans (show _ = some (Value.string (⟨#[]⟩ : ByteArray)) from rfl)
        have zt2 := (blk_cell k1 2).trans (show _ = some (Value.bool false) from rfl)
        have zr0 := (blk_cell H11.out.res 0).trans (show _ = some (Value.slice none 0 0) from rfl)
        have zr1 := (blk_cell H11.out.res 1).trans (show _ = some (Value.string (⟨#[]⟩ : ByteArray)) from rfl)
        have zr2 := (blk_cell H11.out.res 2).trans (show _ = some (Value.bool false) from rfl)
        have zf0 := blk_frozen H11.out.res 0
        have zf1 := blk_frozen H11.out.res 1
        have zf2 := blk_frozen H11.out.res 2
        clear k1 k2
        go_wp2
        obtain ⟨d1, d2, d3⟩ := H11.out.done K2.out
        refine bodyPost_ret (results_cell_row rfl _ _ gR 88 #[.slice At 3 ct, .string (⟨#[]⟩ : ByteArray), .bool false] (0, 0) _ rfl d1 Try.underlying88 rfl (by kernel_rfl)) rfl ?_
        rw [← HX.out]
        exact ⟨_, rfl, d2, d3⟩
theorem up_at {l : List Int} (h : upB l = true) {m : Nat} (hm : l.length = m + 1) : ∀ i, 0 < i → i < m + 1 → l.getD (i - 1) 0 ≤ l.getD i 0 := by
  intro i h0 hi
  have hp := List.pairwise_iff_getElem.1 (of_decide_eq_true h) (i - 1) i (by omega) (by omega) (by omega)
  rw [List.getD_eq_getElem?_getD, List.getD_eq_getElem?_getD, List.getElem?_eq_getElem (show i - 1 < l.length by omega), List.getElem?_eq_getElem (show i < l.length by omega)]
  exact hp
/-! ### impl_cross: function 95 -/
def impl_cross.f (l0 : List Int) (a1 : Bool) : Option (List (List Int) × ByteArray × Bool) := if upB l0 = true ∧ 0 < l0.length ∧ l0.length ≤ 4 ∧ (l0.all fun x => decide (0 ≤ x) && decide (x ≤ 1000000)) = true then some (crossL l0 a1) else none
theorem impl_cross.calls (A0 : Option Addr) (c0 : Nat) (l0 : List Int) (a1 : Bool) (r1 : List (List Int)) (r2 : ByteArray) (r3 : Bool) (w : World) (hr0 : Kd.C (Kd.int .i64) w A0 l0.length l0) (hc0 : l0.length ≤ c0) (h : impl_cross.f l0 a1 = some (r1, r2, r3)) :
    Calls Try.prog 95 #[.slice A0 l0.length c0, .bool a1] w fun e w' => ∃ v0_ : Value, e = .returned (.agg #[v0_, .string r2, .bool r3]) ∧ Kd.R (Kd.slice 3 (Kd.int .i64)) 26 w' w.heap.size (fun _ => True) v0_ r1 ∧ Below w.heap.size w w' := by
  unfold impl_cross.f at h
  by_cases hc : upB l0 = true ∧ 0 < l0.length ∧ l0.length ≤ 4 ∧ (l0.all fun x => decide (0 ≤ x) && decide (x ≤ 1000000)) = true
  · rw [if_pos hc] at h
    obtain ⟨hu, hp, h4, hx⟩ := hc
    have h := Option.some.inj h
    obtain ⟨m, hm⟩ : ∃ m, l0.length = m + 1 := ⟨l0.length - 1, by omega⟩
    have hb : ∀ x ∈ l0, 0 ≤ x ∧ x ≤ 1000000 := fun x hxl => by simpa using List.all_eq_true.1 hx x hxl
    have e1 : r1 = (crossL l0 a1).1 := by rw [h]
    have e2 : r2 = (crossL l0 a1).2.1 := by rw [h]
    have e3 : r3 = (crossL l0 a1).2.2 := by rw [h]
    rw [e1, e2, e3]
    by_cases h3 : m = 3
    · exact cross4_calls A0 c0 l0 a1 m hm h3 (up_at hu hm) hb w hr0 hc0
    · exact cross3_calls A0 c0 l0 a1 m hm (by omega) (up_at hu hm) hb w hr0 hc0
  · rw [if_neg hc] at h
    exact absurd h (by simp)

/-! ### impl_slowest: function 105 -/
def impl_slowest.l0 : Nat → List Int → Int → List Int → Int → Int → Option (Int)
  | 0, _, _, _, _, _ => none
  | k + 1, x0, x5, x8, x9, x10 => if x10 < x9 then (if 0 ≤ x10 then (if x10 < (x8.length : Int) then (if 0 ≤ (rd x8 x10) then (if (rd x8 x10) < (x0.length : Int) then (impl_slowest.l0 k x0 (mx x5 (rd x0 (rd x8 x10))) x8 x9 (wrap64 (x10 + 1))) else (none)) else (none)) else (none)) else (none)) else (some x5)
def impl_slowest.f (k : Nat) (l0 : List Int) (l1 : List Int) : Option (Int) := impl_slowest.l0 k l0 0 l1 (l1.length : Int) 0
theorem impl_slowest.mono_l : ∀ k, (∀ y0 y1 y2 y3 y4, LeO (impl_slowest.l0 k y0 y1 y2 y3 y4) (impl_slowest.l0 (k + 1) y0 y1 y2 y3 y4))
  | 0 => fun _ _ _ _ _ r h => by simp [impl_slowest.l0] at h
  | k + 1 => by
    have ih0 := impl_slowest.mono_l k
    · intro y0 y1 y2 y3 y4
      unfold impl_slowest.l0
      repeat' first
      | (with_reducible exact ih0 _ _ _ _ _)
      | (with_reducible exact LeO.refl _)
      | (with_reducible exact LeO.none _)
      | (with_reducible refine LeO.ite ?_ ?_)
      | (with_reducible refine LeO.bind ?_ (fun _ => ?_))
      | exact ih0 _ _ _ _ _
      | exact LeO.none _
      | refine LeO.ite ?_ ?_
      | refine LeO.bind ?_ (fun _ => ?_)
theorem impl_slowest.mono : ∀ a0 a1 k, LeO (impl_slowest.f k a0 a1) (impl_slowest.f (k + 1) a0 a1) := by
  intro a0 a1 k
  have ih0 := impl_slowest.mono_l k
  unfold impl_slowest.f
  repeat' first
      | (with_reducible exact ih0 _ _ _ _ _)
      | (with_reducible exact LeO.refl _)
      | (with_reducible exact LeO.none _)
      | (with_reducible refine LeO.ite ?_ ?_)
      | (with_reducible refine LeO.bind ?_ (fun _ => ?_))
      | exact ih0 _ _ _ _ _
      | exact LeO.none _
      | refine LeO.ite ?_ ?_
      | refine LeO.bind ?_ (fun _ => ?_)
set_option maxHeartbeats 8000000 in
set_option maxRecDepth 100000 in
theorem impl_slowest.calls (k : Nat) (A0 : Option Addr) (c0 : Nat) (l0 : List Int) (A1 : Option Addr) (c1 : Nat) (l1 : List Int) (r : Int) (w : World) (hr0 : Kd.C (Kd.int .i64) w A0 l0.length l0) (hc0 : l0.length ≤ c0) (hr1 : Kd.C (Kd.int .i64) w A1 l1.length l1) (hc1 : l1.length ≤ c1) (h : impl_slowest.f k l0 l1 = some r) :
    Calls Try.prog 105 #[.slice A0 l0.length c0, .slice A1 l1.length c1] w fun e w' => e = .returned (.int .i64 r) ∧ Below w.heap.size w w' := by
  have HR0 := Aside0.mk hr0
  have HC0 := Aside0.mk hc0
  clear hr0 hc0
  have HR1 := Aside0.mk hr1
  have HC1 := Aside0.mk hc1
  clear hr1 hc1
  have HB := Aside0.mk (Below.refl w.heap.size w)
  have H : (impl_slowest.l0 k l0 0 l1 (l1.length : Int) 0) = some r := h
  clear h
  have H' := Aside0.mk H
  clear H
  go_enter Try.func105, Try.ntmps105
  go_wp2
  go_loopg [5, 10] k (fun kq v5 v10 w' => ∃ (x5_1 : Int) (x10_1 : Int), v5 = .int .i64 x5_1 ∧ v10 = .int .i64 x10_1 ∧ Aside0 (impl_slowest.l0 kq l0 x5_1 l1 (l1.length : Int) x10_1 = some r) ∧ Aside0 (kq ≤ k) ∧ Aside0 (Below w.heap.size w w'))
  case atStart => exact ⟨(0), (0), (by first | rfl | (simp; done) | (simp [*]; done)), (by first | rfl | (simp; done) | (simp [*]; done)), H', ⟨Nat.le_refl _⟩, ⟨by repeat (first | (with_reducible first | exact HB.out | apply below_alloc | apply pw_below_drewN | apply below_drew1) | exact HB.out)⟩⟩
  case round =>
    clear H'
    try clear c1
    try clear p2
    obtain ⟨x5_1, x10_1, rfl, rfl, HA, HK1, HB⟩ := hrel
    cases gk with
    | zero => exact absurd HA.out (by simp [impl_slowest.l0])
    | succ k1 =>
      have H := HA.out
      clear HA
      simp only [impl_slowest.l0] at H
      by_cases c3 : x10_1 < (l1.length : Int)
      · rw [if_pos c3] at H
        have c3b0 : decide (x10_1 < (l1.length : Int)) = true := decide_eq_true c3
        clear c3
        by_cases c4 : 0 ≤ x10_1
        · rw [if_pos c4] at H
          have c4b0 : decide (0 ≤ x10_1) = true := decide_eq_true c4
          clear c4
          by_cases c5 : x10_1 < (l1.length : Int)
          · rw [if_pos c5] at H
            have c5b0 : decide (x10_1 < (l1.length : Int)) = true := decide_eq_true c5
            clear c5
            by_cases c6 : 0 ≤ (rd l1 x10_1)
            · rw [if_pos c6] at H
              have c6b0 : decide (0 ≤ (rd l1 x10_1)) = true := decide_eq_true c6
              clear c6
              by_cases c7 : (rd l1 x10_1) < (l0.length : Int)
              · rw [if_pos c7] at H
                have c7b0 : decide ((rd l1 x10_1) < (l0.length : Int)) = true := decide_eq_true c7
                clear c7
                obtain ⟨ji8, hji8⟩ : ∃ j_ : Int, (mx x5_1 (rd l0 (rd l1 x10_1))) = j_ := ⟨_, rfl⟩
                replace H : (impl_slowest.l0 k1 l0 ji8 l1 (l1.length : Int) (wrap64 (x10_1 + 1))) = some r := by first | (rw [hji8] at H; exact H) | (simp only [hji8] at H ⊢; exact H)
                have hji8_ : (if x5_1 < (rd l0 (rd l1 x10_1)) then (rd l0 (rd l1 x10_1)) else x5_1) = ji8 := hji8
                have H' := Aside0.mk H
                clear H
                have p369 : 0 ≤ (x10_1 : Int) := of_decide_eq_true (by first | (with_reducible assumption) | assumption)
                have q369 : x10_1 < (l1.length : Int) := of_decide_eq_true (by first | (with_reducible assumption) | assumption)
                obtain ⟨ad369, e369, hx369_0⟩ := Kd.at_int HR1.out x10_1 p369 q369
                cases e369
                try replace hx369_0 := (HB.out.cell (World.block_lt_of_cell? w _ hx369_0)).trans hx369_0
                replace p369 := eq_true p369
                replace q369 := eq_true q369
                have p370 : 0 ≤ ((rd l1 x10_1) : Int) := of_decide_eq_true (by first | (with_reducible assumption) | assumption)
                have q370 : (rd l1 x10_1) < (l0.length : Int) := of_decide_eq_true (by first | (with_reducible assumption) | assumption)
                obtain ⟨ad370, e370, hx370_0⟩ := Kd.at_int HR0.out (rd l1 x10_1) p370 q370
                cases e370
                try replace hx370_0 := (HB.out.cell (World.block_lt_of_cell? w _ hx370_0)).trans hx370_0
                replace p370 := eq_true p370
                replace q370 := eq_true q370
                go_wp2
                go_roundg k1
                case measure => have := HK1.out; omega
                case rel => exact ⟨(ji8), (wrap64 (x10_1 + 1)), (by first | rfl | (simp; done) | (simp only [← hji8] <;> (first | rfl | simp)) | (simp [*]; done)), (by first | rfl | (simp; done) | (simp [*]; done)), H', ⟨by have := HK1.out; omega⟩, ⟨by repeat (first | (with_reducible first | exact HB.out | apply below_alloc | apply pw_below_drewN | apply below_drew1) | exact HB.out)⟩⟩
              · rw [if_neg c7] at H
                exact absurd H (by simp)
            · rw [if_neg c6] at H
              exact absurd H (by simp)
          · rw [if_neg c5] at H
            exact absurd H (by simp)
        · rw [if_neg c4] at H
          exact absurd H (by simp)
      · rw [if_neg c3] at H
        have c3b0 : decide (x10_1 < (l1.length : Int)) = false := decide_eq_false c3
        clear c3
        obtain rfl := Option.some.inj H
        go_wp2
        go_ret
        exact ⟨by first | rfl | (simp [errW_none, errW_some] <;> rfl) | (simp [*, errW_none, errW_some] <;> rfl), by repeat (first | (with_reducible first | exact HB.out | apply below_alloc | apply pw_below_drewN | apply below_drew1) | exact HB.out)⟩

end Go.Proofs.Ytkgbahokhifojaa.QHid
