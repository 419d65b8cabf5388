/- Contracts of functions of the given program, walked: each call returns what its Lean function says. Conditions: those that stand at each theorem. (Written by a program of this session.) -/
import Derived.Test.YtmdbhpbogbekmaaQNtx0
import Derived.Test.YtmdbhpbogbekmaaQNtx6
import Derived.Test.YtmdbhpbogbekmaaQNtx7
namespace Go.Proofs.Ytmdbhpbogbekmaa.QNt
open Go.RowKit Go.Proofs.YtmdbhpbogbekmaaW.PrintWords Go.Proofs.YtmdbhpbogbekmaaW.PrintLast Go.Proofs.YtmdbhpbogbekmaaW.PrintMore
open List (setIfInBounds_toArray set_cons_zero set_cons_succ map_toArray map_cons map_nil)
attribute [local go_sem] max2_int min2_int max_two min_two max_three min_three max_four min_four
set_option linter.unusedVariables false
set_option maxHeartbeats 8000000
set_option maxRecDepth 100000
set_option linter.unusedSimpArgs false
theorem gp_lit0 {α : Type} (d : Kd α) (e : Nat) (W : World) {base : Nat} (hb : base ≤ W.heap.size) : Kd.S d e (W.alloc (.cells #[] e)) base (fun _ => True) (.slice (some ⟨W.heap.size, 0, none⟩) 0 0) [] := by
 refine ⟨fun _ => 0, fun _ _ => trivial, [], ?_, Reps.none _ _⟩
 have h2 := World.ownsRow_lit (base := base) (e := e) (size := d.sz) W #[] 0 hb (by simp [maxLen]) (by simp)
 have h3 : (W.alloc (.cells #[] e)).ownsRow base e d.sz (.slice (some ⟨W.heap.size, 0, none⟩) 0 0) 0 [] := by simpa using h2
 exact h3
theorem gp_new2 (W : World) (o o2 : Obj) : ((W.alloc o).alloc o2).heap[W.heap.size + 1]? = some o2 := by
 have h := blk_new (W.alloc o) o2
 have e : (W.alloc o).heap.size = W.heap.size + 1 := Array.size_push ..
 rw [e] at h
 exact h
def grSt (l : List Int) (acc : List (List Int)) : Option (List (List Int)) := if acc.length < 1000000 then some (acc ++ [l]) else none
theorem gr_each (g : Nat) (w0 : World) : GpEach (Kd.slice 3 (Kd.int .i64)) 22 57 grSt g 90 #[.pointer (some ⟨g, 0, none⟩)] w0 := by
 intro W v vL l acc a1 hst hl hs
 unfold grSt at hs
 by_cases hlen : acc.length < 1000000
 rotate_left
 ·rw [if_neg hlen] at hs; exact absurd hs (by simp)
 rw [if_pos hlen] at hs
 obtain rfl := Option.some.inj hs
 obtain ⟨A1, c1, rfl, hle, hl1⟩ := gp_row hl
 obtain ⟨A, c, rfl⟩ := Kd.S_slice hst.row
 have ST := ak_ hst
 have RL := ak_ hl
 have FR := ak_ (GpFr.below (g := g) (v := .slice A acc.length c) (Below.refl W.heap.size W))
 have HLEN := ak_ hlen
 clear hs hst hl hl1 hle hlen
 have hy5 := (blk_cell ST.out.out 0)
 have hf5 := (blk_frozen ST.out.out 0)
 simp at hy5
 go_enter Try.func90, Try.ntmps90
 go_wp2_with (first | ((with_reducible refine gate_builtin (b := .append) (xs := #[.tmp 3, .tmp 5]) rfl ?_); at_builtin; refine Kd.S_append (Kd.slice 3 (Kd.int .i64)) (w0 := w0) w0.heap.size rfl (.tmp 3) (.tmp 5) 57 22 (.slice none 0 0) 24 rfl Try.underlying57 info22 rfl (by decide) (by omega) (.slice A acc.length c) acc l [.slice A1 l.length c1] (fun _ => True) (fun k_ => some k_ = (Value.slice A1 l.length c1).ownBlock) rfl rfl ?aP ?aK (fun _ _ => trivial) ?aO ?aB ?aS ?aL ?_; (case aP => exact ⟨_, rfl, Kd.R_tight rfl (Kd.pR RL.out)⟩); (case aK => (intro k_ hk_; exact ⟨trivial, (RL.out.1 k_ hk_.symm).2⟩)); (case aO => exact Kd.S_mono (Kd.pS ST.out.row) (fun k_ hk_ => ⟨trivial, hk_⟩)); (case aB => exact (ST.out.up be_).bel); (case aS => exact bz_ (ST.out.up be_).bel); (case aL => have := HLEN.out; omega); intro v9 w9 ho hb hg hat; obtain ⟨Ao, co, rfl⟩ := Kd.S_slice ho; have HO := ak_ ho; have HB9 := ak_ hb; have HG := ak_ hg; have HAT := ak_ hat; have n0_ := ak_ (blk_grown (pk ST.out.out) hg (Kd.S_ne ST.out.row ST.out.out (by decide))); have hf9 := (blk_frozen n0_.out 0); have hy9 := (blk_cell n0_.out 0); simp at hy9; clear ho hb hg hat))
 go_end0
 refine ⟨rfl, .slice Ao (acc.length + 1) co, ⟨?_, ?_, ?_, ST.out.ge⟩, ?_⟩
 rotate_left
 ·exact (by (with_reducible repeat (first | apply Kd.S_alloc | apply Kd.S_drewN | apply Kd.S_drew)); have h_ := Kd.S_set HO.out n0_.out (by decide) 0 (.slice Ao (acc.length + 1) co); rw [List.length_append, List.length_singleton] at h_; exact h_)
 ·exact (by repeat (first | (with_reducible first | exact HB9.out | apply ba_ | apply bN_ | apply b1_ | refine below_set ?_ ST.out.ge) | exact HB9.out))
 ·refine FR.out.trans ⟨?_, fun k_ hk_ hg_ ht_ => ?_, ?_⟩
  ·have h2_ := HG.out.size
   first | (simp; omega) | (simp at h2_ ⊢; omega)
  ·have e2_ : w9.heap[k_]? = W.heap[k_]? := HG.out.block k_ hk_ ht_
   exact (Below.heap_setCell w9 ⟨g, 0, none⟩ _ k_ hg_).trans e2_
  ·rcases HAT.out with e_ | ⟨b_, e_, h_⟩
   ·left
    rw [List.length_append, List.length_singleton] at e_
    exact e_
   ·right
    intro b2_ h2_
    rw [List.length_append, List.length_singleton] at e_
    rw [e_] at h2_
    injection h2_ with h2_
    omega
 ·exact (by (with_reducible repeat (first | refine kN_ ?_ _ | refine k1_ ?_ | refine ka_ ?_ _)); exact blk_put n0_.out 0 _ rfl)
def impl_Night_groups.T6 : Bool × List (List Nat × List Nat) := (true, [([], []), ([0], [0]), ([], []), ([1, 2], [1, 2]), ([], []), ([3, 4], [3, 4]), ([], []), ([6], [6]), ([], []), ([5, 7, 8, 5], [5, 7, 8])])
def impl_Night_groups.B6 : List Nat := [0, 1, 0, 7, 0, 31, 0, 64, 0, 511]
theorem impl_Night_groups.T6_ : rtab .any (opsOf Try.f69 6) = impl_Night_groups.T6 := by kernel_rfl
theorem impl_Night_groups.B6_ : waitsOk impl_Night_groups.T6.2 impl_Night_groups.B6 = true := by kernel_rfl
def grPart (k : Nat) (ts : List Int) (se tq : Int) (ov : List Bool) (t : Int) (over : Bool) (acc : List (List Int)) : Option (List (List Int)) :=
 (impl_Night_torches.f ts se tq ov t over).bind fun m => if m > 0 then (impl_State_side.f k ov over over).bind fun P => if P.length ≤ 100 then gOn grSt se P [] acc else none else some acc
def rsW {n : Nat} [Inhabited (Fin n)] (val : Fin n → Value) (w : World) (g m : Nat) (dk : Array (Fin n)) (os : Array Obj) : World := Go.Sort.grow (Go.Sort.putRow val (Go.Sort.ahead w m) g 0 dk) os
theorem rsW_heap {n : Nat} [Inhabited (Fin n)] (val : Fin n → Value) (w : World) (g m : Nat) (dk : Array (Fin n)) (os : Array Obj) (k : Nat) (hk : k ≠ g) (hl : k < w.heap.size) : (rsW val w g m dk os).heap[k]? = w.heap[k]? := by
 have hs : (Go.Sort.putRow val (Go.Sort.ahead w m) g 0 dk).heap.size = w.heap.size := by simp [Go.Sort.putRow, Go.Sort.mapBlock, Go.Sort.ahead]
 unfold rsW Go.Sort.grow
 show ((Go.Sort.putRow val (Go.Sort.ahead w m) g 0 dk).heap ++ os)[k]? = _
 rw [Array.getElem?_append_left (by omega)]
 simp [Go.Sort.putRow, Go.Sort.mapBlock, Go.Sort.ahead, Array.getElem?_modify, show g ≠ k by omega]
theorem S_rows {α : Type} (d : Kd α) (hd : d.sz = 1) {e : Nat} {w : World} {base g cap : Nat} {ok : Nat → Prop} {xs : List α} (h : Kd.S d e w base ok (.slice (some ⟨g, 0, none⟩) xs.length cap) xs) (hn : 0 < xs.length) [Inhabited (Fin xs.length)] :
  ∃ val : Fin xs.length → Value, (∀ i, (val i).oneCell' = true) ∧ Go.Sort.Holds val w g 0 (List.finRange xs.length).toArray ∧ base ≤ g ∧ g < w.heap.size ∧
   ∀ (m : Nat) (os : Array Obj) (dk : Array (Fin xs.length)), dk.size = xs.length →
    (∀ i : Fin xs.length, d.K (rsW val w g m dk os) xs[i] [val i]) ∧ (dk.toList.Nodup → Kd.S d e (rsW val w g m dk os) base ok (.slice (some ⟨g, 0, none⟩) xs.length cap) (dk.toList.map fun i => xs[i])) := by
 obtain ⟨f, h0, inner, ho, hr⟩ := h
 have hsz : (Kd.tag f d).sz = 1 := hd
 rw [List.length_zipIdx, hsz] at ho
 have hlen : inner.length = xs.length := by
  have := hr.1
  rw [List.length_zipIdx, hsz] at this
  omega
 obtain ⟨val, hval⟩ : ∃ val : Fin xs.length → Value, val = fun i => inner[i.1]'(by rw [hlen]; exact i.2) := ⟨_, rfl⟩
 have hM : ∀ i : Fin xs.length, d.M w base (fun k => (ok k ∧ some k ≠ (Value.slice (some ⟨g, 0, none⟩) xs.length cap).ownBlock) ∧ f k = i.1) xs[i] [val i] := by
  intro i
  have h1 := hr.2 i.1 (xs[i], i.1) (Kd.zip_at (by simp))
  rw [hsz, Nat.mul_one] at h1
  have e1 : (inner.drop i.1).take 1 = [val i] := by
   rw [hval, List.drop_eq_getElem_cons (by rw [hlen]; exact i.2)]
   rfl
  rw [e1] at h1
  exact h1
 have hz : (List.finRange xs.length).map val = inner := by
  apply List.ext_getElem
  ·simp [hlen]
  ·intro j h1 h2
   simp [hval]
 have ho' : w.ownsRow base e 1 (.slice (some ⟨g, 0, none⟩) xs.length cap) xs.length ((List.finRange xs.length).map val) := by rw [hz]; exact ho
 obtain ⟨g', cap', e1, hb, hg, hc, -, -, hH⟩ := Lib.holds_of_ownsRow ho' (by simp)
 injection e1 with e1 _ _
 injection e1 with e1
 injection e1 with e1
 subst e1
 refine ⟨val, fun i => d.K_one (d.K_of_M (hM i)) _ (by simp), hH, hb, hg, fun m os dk hdk => ?_⟩
 have hM' : ∀ i : Fin xs.length, d.M (rsW val w g m dk os) base (fun k => (ok k ∧ some k ≠ (Value.slice (some ⟨g, 0, none⟩) xs.length cap).ownBlock) ∧ f k = i.1) xs[i] [val i] := fun i =>
  Kd.M_step (hM i) fun k hk hlt => rsW_heap val w g m dk os k (fun e => hk.1.2 (by rw [e]; rfl)) hlt
 refine ⟨fun i => d.K_of_M (hM' i), fun hnd => ?_⟩
 have hown : (rsW val w g m dk os).ownsRow base e 1 (.slice (some ⟨g, 0, none⟩) xs.length cap) xs.length (dk.toList.map val) := by
  have h1 := Lib.ownsRow_putRow (q := m) (k := xs.length) (ys := dk.toList) ho' (by simpa using hdk) (Nat.le_refl _)
  rw [List.take_of_length_le (by simp [hdk])] at h1
  have h2 := Lib.ownsRow_grow h1 0 os
  exact h2
 obtain ⟨f', hf'⟩ := Kd.reps_tag (d := d) (w := rsW val w g m dk os) (base := base) (ok := fun k => ok k ∧ some k ≠ (Value.slice (some ⟨g, 0, none⟩) xs.length cap).ownBlock) (xs := dk.toList.map fun i => xs[i]) (inner := dk.toList.map val)
  (fun j k => (ok k ∧ some k ≠ (Value.slice (some ⟨g, 0, none⟩) xs.length cap).ownBlock) ∧ ∃ i : Fin xs.length, dk.toList[j]? = some i ∧ f k = i.1)
  (fun i j k hi hj => by
   obtain ⟨-, a, ha, ea⟩ := hi
   obtain ⟨-, b, hb, eb⟩ := hj
   have hab : a = b := Fin.ext (by omega)
   subst hab
   obtain ⟨h1, h2⟩ := List.getElem?_eq_some_iff.1 ha
   obtain ⟨h3, h4⟩ := List.getElem?_eq_some_iff.1 hb
   rcases Nat.lt_trichotomy i j with q | q | q
   ·exact absurd (h2.trans h4.symm) (List.pairwise_iff_getElem.1 hnd i j h1 h3 q)
   ·exact q
   ·exact absurd (h4.trans h2.symm) (List.pairwise_iff_getElem.1 hnd j i h3 h1 q))
  (fun j k hk => hk.1) (by rw [List.length_map, List.length_map, hd, Nat.mul_one]) (fun j x hj => by
   obtain ⟨i, hi, rfl⟩ := Option.map_eq_some_iff.1 (by rw [← List.getElem?_map]; exact hj)
   obtain ⟨h1, h2⟩ := List.getElem?_eq_some_iff.1 hi
   have e2 : ((dk.toList.map val).drop (j * d.sz)).take d.sz = [val i] := by
    rw [hd, Nat.mul_one, List.drop_eq_getElem_cons (by simpa using h1), List.getElem_map, h2]
    rfl
   rw [e2]
   exact d.M_mono (fun k hk => ⟨hk.1, i, hi, hk.2⟩) (hM' i))
 refine ⟨f', h0, dk.toList.map val, ?_, hf'⟩
 rw [List.length_zipIdx, List.length_map]
 show (rsW val w g m dk os).ownsRow base e d.sz _ dk.toList.length _
 rw [hd, show dk.toList.length = xs.length by simpa using hdk]
 exact hown
def cmpL : List Int → List Int → Int
 | [], [] => 0
 | [], _ :: _ => -1
 | _ :: _, [] => 1
 | a :: s, b :: t => if a < b then -1 else if b < a then 1 else cmpL s t
theorem cmpL_flip : ∀ a b, cmpL b a = - cmpL a b
 | [], [] => rfl
 | [], _ :: _ => rfl
 | _ :: _, [] => rfl
 | a :: s, b :: t => by
  have ih := cmpL_flip s t
  simp only [cmpL]
  by_cases h1 : a < b
  ·rw [if_neg (by omega), if_pos h1, if_pos h1]; rfl
  ·by_cases h2 : b < a
   ·rw [if_pos h2, if_neg h1, if_pos h2]
   ·rw [if_neg h2, if_neg h1, if_neg h1, if_neg h2, ih]
theorem cmpL_zero : ∀ a b, cmpL a b = 0 → a = b
 | [], [], _ => rfl
 | [], _ :: _, h => by simp [cmpL] at h
 | _ :: _, [], h => by simp [cmpL] at h
 | a :: s, b :: t, h => by
  simp only [cmpL] at h
  by_cases h1 : a < b
  ·rw [if_pos h1] at h; omega
  ·rw [if_neg h1] at h
   by_cases h2 : b < a
   ·rw [if_pos h2] at h; omega
   ·rw [if_neg h2] at h
    rw [cmpL_zero s t h, show a = b by omega]
theorem cmpL_refl (a : List Int) : cmpL a a = 0 := by
 have := cmpL_flip a a
 omega
theorem cmpL_trans : ∀ a b c, cmpL a b ≤ 0 → cmpL b c ≤ 0 → cmpL a c ≤ 0
 | [], _, [], _, _ => by simp [cmpL]
 | [], _, _ :: _, _, _ => by simp [cmpL]
 | _ :: _, [], _, h, _ => by simp [cmpL] at h
 | _ :: _, _ :: _, [], _, h => by simp [cmpL] at h
 | a :: s, b :: t, c :: u, h, k => by
  have ih := cmpL_trans s t u
  simp only [cmpL] at h k ⊢
  by_cases h1 : a < b
  ·by_cases k1 : b < c
   ·rw [if_pos (by omega)]; omega
   ·rw [if_neg k1] at k
    by_cases k2 : c < b
    ·rw [if_pos k2] at k; omega
    ·rw [if_pos (by omega)]; omega
  ·rw [if_neg h1] at h
   by_cases h2 : b < a
   ·rw [if_pos h2] at h; omega
   ·rw [if_neg h2] at h
    by_cases k1 : b < c
    ·rw [if_pos (by omega)]; omega
    ·rw [if_neg k1] at k
     by_cases k2 : c < b
     ·rw [if_pos k2] at k; omega
     ·rw [if_neg k2] at k
      rw [if_neg (by omega), if_neg (by omega)]
      exact ih h k
theorem compare_l0 {a b : List Int} (ha : a.length ≤ 1000000) (hb : b.length ≤ 1000000) : ∀ (d k i : Nat), i + d = a.length → i ≤ b.length → d < k → slices_Compare_int_int.l0 k a b a (a.length : Int) (i : Int) = some (cmpL (a.drop i) (b.drop i)) := by
 intro d
 induction d with
 | zero =>
  intro k i hi hib hk
  obtain ⟨k, rfl⟩ : ∃ m, k = m + 1 := ⟨k - 1, by omega⟩
  rw [slices_Compare_int_int.l0.eq_2, if_neg (by omega), List.drop_of_length_le (by omega : a.length ≤ i)]
  by_cases h : a.length < b.length
  ·rw [if_pos (by omega), List.drop_eq_getElem_cons (by omega : i < b.length)]
   rfl
  ·rw [if_neg (by omega), List.drop_of_length_le (by omega : b.length ≤ i)]
   rfl
 | succ d ih =>
  intro k i hi hib hk
  obtain ⟨k, rfl⟩ : ∃ m, k = m + 1 := ⟨k - 1, by omega⟩
  have hlt : i < a.length := by omega
  rw [slices_Compare_int_int.l0.eq_2, if_pos (by omega), if_pos (by omega), if_pos (by omega), List.drop_eq_getElem_cons hlt]
  by_cases h : i < b.length
  ·have ea : rd a (i : Int) = a[i] := by unfold rd; rw [Int.toNat_natCast, List.getD_eq_getElem?_getD, List.getElem?_eq_getElem hlt]; rfl
   have eb : rd b (i : Int) = b[i] := by unfold rd; rw [Int.toNat_natCast, List.getD_eq_getElem?_getD, List.getElem?_eq_getElem h]; rfl
   have ew : wrap64 ((i : Int) + 1) = ((i + 1 : Nat) : Int) := by unfold wrap64; omega
   rw [if_neg (by omega), if_pos (by omega), ea, eb, ew, ih k (i + 1) (by omega) (by omega) (by omega), List.drop_eq_getElem_cons h]
   generalize a[i] = x
   generalize b[i] = y
   unfold cmp_Compare_int.f cmp_isNaN_int.f
   simp only [bne_self_eq_false, Option.bind_some, Bool.false_eq_true, if_false, cmpL]
   by_cases c1 : x < y
   ·rw [if_pos c1, if_pos c1, Option.bind_some, if_neg (by decide)]
   ·rw [if_neg c1, if_neg c1]
    by_cases c2 : x > y
    ·rw [if_pos c2, if_pos c2, Option.bind_some, if_neg (by decide)]
    ·rw [if_neg c2, if_neg c2, Option.bind_some, if_pos rfl]
  ·rw [if_pos (by omega), List.drop_of_length_le (by omega : b.length ≤ i)]
   rfl
theorem compare_eq {a b : List Int} (ha : a.length ≤ 1000000) (hb : b.length ≤ 1000000) {k : Nat} (hk : a.length < k) : slices_Compare_int_int.f k a b = some (cmpL a b) := compare_l0 ha hb a.length k 0 (by omega) (by omega) hk
def leL (a b : List Int) : Bool := decide (cmpL a b ≤ 0)
theorem cmpL_swo {n : Nat} (xs : Fin n → List Int) : Go.Sort.SWO (fun x y => decide (cmpL (xs x) (xs y) < 0)) where
 irrefl := fun x => by
  have := cmpL_refl (xs x)
  exact decide_eq_false (by omega)
 trans := fun x y z h k => by
  have h := odt_ h
  have k := odt_ k
  have h1 := cmpL_trans _ _ _ (Int.le_of_lt h) (Int.le_of_lt k)
  refine decide_eq_true ?_
  apply Classical.byContradiction
  intro hn
  have h2 := cmpL_zero (xs x) (xs z) (by omega)
  rw [← h2, cmpL_flip (xs x)] at k
  omega
 ntrans := fun x y z h k => by
  have h := of_decide_eq_false h
  have k := of_decide_eq_false k
  have e1 := cmpL_flip (xs x) (xs y)
  have e2 := cmpL_flip (xs y) (xs z)
  have e3 := cmpL_flip (xs x) (xs z)
  have := cmpL_trans (xs z) (xs y) (xs x) (by omega) (by omega)
  exact decide_eq_false (by omega)
theorem sorted_rows {xs : List (List Int)} [Inhabited (Fin xs.length)] {dk : Array (Fin xs.length)} (hp : Go.Sort.PermIn 0 xs.length (List.finRange xs.length).toArray dk) (hs : Go.Sort.SortedIn (fun x y : Fin xs.length => decide (cmpL xs[x] xs[y] < 0)) 0 xs.length dk) :
  dk.size = xs.length ∧ dk.toList.Nodup ∧ (dk.toList.map fun i => xs[i]) = xs.mergeSort leL := by
 have hsz : dk.size = xs.length := by
  have := hp.1
  simpa using this
 have hperm : dk.toList.Perm (List.finRange xs.length) := by
  have := hp.2.2
  simp only [Array.toList_extract, List.extract, Nat.sub_zero, List.drop_zero] at this
  rwa [List.take_of_length_le (by simp [hsz]), List.take_of_length_le (by simp)] at this
 refine ⟨hsz, hperm.nodup_iff.2 (List.nodup_finRange _), ?_⟩
 have hmap : (List.finRange xs.length).map (fun i => xs[i]) = xs := by
  apply List.ext_getElem
  ·simp
  ·intro i h1 h2
   simp
 have hp2 : (dk.toList.map fun i => xs[i]).Perm (xs.mergeSort leL) := by
  have h1 := hperm.map (fun i : Fin xs.length => xs[i])
  rw [hmap] at h1
  exact h1.trans (List.mergeSort_perm _ _).symm
 have hpw : (xs.mergeSort leL).Pairwise (fun a b => cmpL a b ≤ 0) := (List.pairwise_mergeSort (le := leL) (fun a b c h1 h2 => decide_eq_true (cmpL_trans a b c (odt_ h1) (odt_ h2))) (fun a b => by
  have := cmpL_flip a b
  unfold leL
  simp only [Bool.or_eq_true, decide_eq_true_eq]
  omega) xs).imp fun h => odt_ h
 have hpw2 : (dk.toList.map fun i => xs[i]).Pairwise (fun a b => cmpL a b ≤ 0) := by
  rw [List.pairwise_iff_getElem]
  intro i j hi hj hij
  rw [List.length_map] at hi hj
  have h1 := of_decide_eq_false (hs i j (by omega) hij (by simpa [hsz] using hj))
  have ei : dk[i]! = dk[i]'(by simpa using hi) := getElem!_pos dk i _
  have ej : dk[j]! = dk[j]'(by simpa using hj) := getElem!_pos dk j _
  rw [ei, ej] at h1
  rw [List.getElem_map, List.getElem_map]
  have e := cmpL_flip xs[dk[j]'(by simpa using hj)] xs[dk[i]'(by simpa using hi)]
  have e2 : dk.toList[i]'(by simpa using hi) = dk[i]'(by simpa using hi) := by simp
  have e3 : dk.toList[j]'(by simpa using hj) = dk[j]'(by simpa using hj) := by simp
  rw [e2, e3]
  omega
 exact List.Perm.eq_of_pairwise (le := fun a b => cmpL a b ≤ 0) (fun a b _ _ h1 h2 => cmpL_zero a b (by have := cmpL_flip a b; omega)) hpw2 hpw hp2
def grSort (k : Nat) (l : List (List Int)) : Option (List (List Int)) := if l.length = 0 then some [] else if l.length ≤ 1000 ∧ (l.all fun x => decide (x.length ≤ 1000)) = true then some (l.mergeSort leL) else none
def impl_Night_groups.f (k : Nat) (ts : List Int) (se tq : Int) (ov : List Bool) (t : Int) : Option (List (List Int)) := (grPart k ts se tq ov t false []).bind fun a => (grPart k ts se tq ov t true a).bind fun b => grSort k b
def grRest (k : Nat) (ts : List Int) (se tq : Int) (ov : List Bool) (t : Int) : Nat → List (List Int) → Option (List (List Int))
 | 0, acc => (grPart k ts se tq ov t false acc).bind fun a => grPart k ts se tq ov t true a
 | 1, acc => grPart k ts se tq ov t true acc
 | _ + 2, acc => some acc
theorem rsW_below {n : Nat} [Inhabited (Fin n)] (val : Fin n → Value) {w0 w : World} {B g : Nat} (m : Nat) (dk : Array (Fin n)) (os : Array Obj) (h : Below B w0 w) (hg : B ≤ g) (hgw : g < w.heap.size) : Below B w0 (rsW val w g m dk os) := by
 have h1 : Below B w0 (Go.Sort.putRow val (Go.Sort.ahead w m) g 0 dk) := Lib.below_putRow h hg
 have hs : (Go.Sort.putRow val (Go.Sort.ahead w m) g 0 dk).heap.size = w.heap.size := by simp [Go.Sort.putRow, Go.Sort.mapBlock, Go.Sort.ahead]
 refine ⟨h1.os, h1.tape, h1.output, ?_, fun k hk => ?_⟩
 ·have h2 := h1.size
  show w0.heap.size ≤ ((Go.Sort.putRow val (Go.Sort.ahead w m) g 0 dk).heap ++ os).size
  rw [Array.size_append]
  omega
 ·rw [← h1.block k hk]
  show ((Go.Sort.putRow val (Go.Sort.ahead w m) g 0 dk).heap ++ os)[k]? = _
  rw [Array.getElem?_append_left (by omega)]
set_option maxHeartbeats 1000000 in
theorem rs_sort (b cap base : Nat) (ok : Nat → Prop) (xs : List (List Int)) (W : World) (HS : Kd.S (Kd.slice 3 (Kd.int .i64)) 22 W base ok (.slice (some ⟨b, 0, none⟩) xs.length cap) xs) (h0 : 0 < xs.length) (hn : xs.length ≤ 1000) (hl : ∀ x ∈ xs, x.length ≤ 1000) :
  Calls Try.prog 91 #[.slice (some ⟨b, 0, none⟩) xs.length cap, .func (.func 92) #[] #[]] W fun e w' => e = .returned (.tuple #[]) ∧ Kd.S (Kd.slice 3 (Kd.int .i64)) 22 w' base ok (.slice (some ⟨b, 0, none⟩) xs.length cap) (xs.mergeSort leL) ∧ (∀ k, k ≠ b → k < W.heap.size → w'.heap[k]? = W.heap[k]?) ∧ ∀ B w0, Below B w0 W → B ≤ b → Below B w0 w' := by
 haveI : Inhabited (Fin xs.length) := ⟨⟨0, h0⟩⟩
 obtain ⟨val, hone, hH, hbase, hlt, hall⟩ := S_rows (Kd.slice 3 (Kd.int .i64)) rfl HS h0
 have hsz : ((List.finRange xs.length).toArray).size = xs.length := by simp
 have hcmp : CmpReads Try.prog 92 #[] val (fun x y : Fin xs.length => cmpL xs[x] xs[y]) b 0 ((List.finRange xs.length).toArray).size W := by
  intro m os dk hdk x y
  obtain ⟨A1, c1, ex, lx, cx⟩ := (hall m os dk (by omega)).1 x
  obtain ⟨A2, c2, ey, ly, cy⟩ := (hall m os dk (by omega)).1 y
  have ex' : val x = .slice A1 xs[x].length c1 := by injection ex
  have ey' : val y = .slice A2 xs[y].length c2 := by injection ey
  have h := slices_Compare_int_int.calls 1001 A1 c1 xs[x] A2 c2 xs[y] (cmpL xs[x] xs[y]) (rsW val W b m dk os) cx lx cy ly (compare_eq (by have := hl xs[x] (List.getElem_mem _); omega) (by have := hl xs[y] (List.getElem_mem _); omega) (by have := hl xs[x] (List.getElem_mem _); omega))
  rw [← ex', ← ey'] at h
  exact h.mono fun e w' hh => ⟨hh.1, by obtain ⟨nd, e_⟩ := hh.2; exact ⟨nd, e_⟩⟩
 have h := Try.slices_SortFunc val hone (fun x y : Fin xs.length => cmpL xs[x] xs[y]) (cmpL_swo (fun i => xs[i])) 92 #[] b 0 cap (List.finRange xs.length).toArray W (enters_of Try.func92 (by kernel_rfl) rfl) hcmp.lays hH hlt (by omega)
 rw [hsz] at h
 refine h.mono ?_
 rintro e w' ⟨rfl, dk, m, os, hp, hs, rfl⟩
 obtain ⟨h1, h2, h3⟩ := sorted_rows hp hs
 have h4 := (hall m os dk h1).2 h2
 rw [h3] at h4
 exact ⟨rfl, h4, fun k hk hlk => rsW_heap val W b m dk os k hk hlk, fun B w0 hB hb => rsW_below val m dk os hB hb hlt⟩
theorem ty_ne {W : World} {a b t u : Nat} {cs ds : Array Value} (h : W.heap[a]? = some (.cells cs t (0, 0))) (h2 : W.heap[b]? = some (.cells ds u (0, 0))) (ht : t ≠ u) : a ≠ b := by
 rintro rfl
 rw [h] at h2
 injection h2 with h2
 injection h2 with _ h2
 exact ht h2
theorem impl_Night_groups.calls (k : Nat) (At : Option Addr) (ct : Nat) (ts : List Int) (se tq : Int) (Ao : Option Addr) (co : Nat) (ov : List Bool) (t : Int) (r : List (List Int)) (w : World)
  (ht : Kd.C (Kd.int .i64) w At ts.length ts) (hct : ts.length ≤ ct) (ho : Kd.C Kd.bool w Ao ov.length ov) (hco : ov.length ≤ co) (h : impl_Night_groups.f k ts se tq ov t = some r) :
  Calls Try.prog 69 #[.agg #[.slice At ts.length ct, .int .i64 se, .int .i64 tq], .agg #[.slice Ao ov.length co, .int .i64 t]] w fun e w' => ∃ v0_ : Value, e = .returned v0_ ∧ Kd.N (Kd.slice 3 (Kd.int .i64)) 22 w' w.heap.size (fun k_ => (w.heap.size ≤ k_)) v0_ r ∧ Below w.heap.size w w' := by
 have hu := Try.underlying33
 have hu2 := Try.underlying35
 have hu3 := Try.underlying94
 unfold impl_Night_groups.f at h
 obtain ⟨a0, h1, h⟩ := Option.bind_eq_some_iff.mp h
 obtain ⟨b, h2, h3⟩ := Option.bind_eq_some_iff.mp h
 have h4 : grRest k ts se tq ov t 0 [] = some b := by
  show (grPart k ts se tq ov t false []).bind (fun a => grPart k ts se tq ov t true a) = some b
  rw [h1, Option.bind_some, h2]
 have AT := ak_ fun (over : Bool) (m : Int) (hm : impl_Night_torches.f ts se tq ov t over = some m) (W : World) (hb : Below w.heap.size w W) => impl_Night_torches.calls At ct ts se tq Ao co ov t over m W (Kd.C_below ht hb) hct (Kd.C_below ho hb) hco hm
 have A1 := ak_ fun (over : Bool) (P : List Int) (hp : impl_State_side.f k ov over over = some P) (W : World) (hb : Below w.heap.size w W) => impl_State_side.calls k Ao co ov over over P W (Kd.C_below ho hb) hco hp
 have A2 := ak_ fun (P : List Int) (acc a1 : List (List Int)) (hP : P.length ≤ 100) (hg : gOn grSt se P [] acc = some a1) (g : Nat) (w0 W : World) (Ap : Option Addr) (cp : Nat) (v : Value) (hst : GpSt (Kd.slice 3 (Kd.int .i64)) 22 57 g w0 W v (fun _ => True) acc) (hp : (Kd.int .i64).R 3 W w0.heap.size (fun k => k ≠ g ∧ some k ≠ v.ownBlock) (.slice Ap P.length cp) P) =>
  groups_calls (Kd.slice 3 (Kd.int .i64)) 22 57 grSt g 90 #[.pointer (some ⟨g, 0, none⟩)] w0 Ap cp P se (enters_of Try.func90 (by kernel_rfl) rfl) (gr_each g w0) hP v a1 W hst hp hg
 have H := ak_ h4
 have H3 := ak_ h3
 have HB := ak_ (Below.refl w.heap.size w)
 clear h h1 h2 h3 h4 ht hct ho hco
 go_enter Try.func69, Try.ntmps69
 go_upto_region 2 with (first | ((with_reducible refine gate_dst (N := 2) rfl ?_); refine bx_ 2 #[.slice At ts.length ct, .int .i64 se, .int .i64 tq] 33 ?_; intro gb2 hg w2 hbox hb; have nb_ := ak_ (bs_ (bb_ HB.out) hb); have nc_ := ak_ hbox; have nd_ := ak_ ((by rw [hg]; exact (bz_ (bb_ HB.out)) : w.heap.size ≤ gb2)); clear HB hb hbox hg; have HB := nb_; have BK2 := nc_; have GE2 := nd_; clear nb_ nc_ nd_; have hz2_0 := (blk_cell BK2.out 0); have hf2_0 := (blk_frozen BK2.out 0); simp at hz2_0; have hz2_1 := (blk_cell BK2.out 1); have hf2_1 := (blk_frozen BK2.out 1); simp at hz2_1; have hz2_2 := (blk_cell BK2.out 2); have hf2_2 := (blk_frozen BK2.out 2); simp at hz2_2; skip) | ((with_reducible refine gate_dst (N := 3) rfl ?_); refine bx_ 3 #[.slice Ao ov.length co, .int .i64 t] 35 ?_; intro gb3 hg w3 hbox hb; have n0_ := ak_ (blk_below (pk BK2.out) hb); have m0_ := ak_ ((by rw [hg]; exact Nat.ne_of_lt (blk_lt (pk BK2.out)) : gb2 ≠ gb3)); have nb_ := ak_ (bs_ (bb_ HB.out) hb); have nc_ := ak_ hbox; have nd_ := ak_ ((by rw [hg]; exact (bz_ (bb_ HB.out)) : w.heap.size ≤ gb3)); clear HB hb hbox hg; clear BK2; have BK2 := n0_; have NE2_3 := m0_; have HB := nb_; have BK3 := nc_; have GE3 := nd_; clear nb_ nc_ nd_ n0_ m0_; have hz3_0 := (blk_cell BK3.out 0); have hf3_0 := (blk_frozen BK3.out 0); simp at hz3_0; have hz3_1 := (blk_cell BK3.out 1); have hf3_1 := (blk_frozen BK3.out 1); simp at hz3_1; skip))
 have HB3 := ak_ HB.out
 have hst := (show GpSt (Kd.slice 3 (Kd.int .i64)) 22 57 (w3.heap.size + 1) w3 ((w3.alloc (.cells #[] 22)).alloc (.cells #[.slice (some ⟨w3.heap.size, 0, none⟩) 0 0] 57)) (.slice (some ⟨w3.heap.size, 0, none⟩) 0 0) (fun _ => True) [] from ⟨gp_new2 w3 _ _, Kd.S_alloc (gp_lit0 _ _ w3 (Nat.le_refl _)) _, ba_ (ba_ (Below.refl _ _) _) _, Nat.le_succ _⟩)
 have n0_ := ak_ (ka_ (ka_ BK2.out (.cells #[] 22)) (.cells #[.slice (some ⟨w3.heap.size, 0, none⟩) 0 0] 57))
 have n1_ := ak_ (ka_ (ka_ BK3.out (.cells #[] 22)) (.cells #[.slice (some ⟨w3.heap.size, 0, none⟩) 0 0] 57))
 have HL2 := ak_ (blk_lt BK2.out)
 have HL3 := ak_ (blk_lt BK3.out)
 have ST := ak_ hst
 clear BK2 BK3 HB hst hz2_0 hz2_1 hz2_2 hf2_0 hf2_1 hf2_2 hz3_0 hz3_1 hf3_0 hf3_1
 have BK2 := n0_; have BK3 := n1_; clear n0_ n1_
 generalize (w3.alloc (.cells #[] 22)).alloc (.cells #[.slice (some ⟨w3.heap.size, 0, none⟩) 0 0] 57) = w5 at BK2 BK3 ST ⊢
 generalize Value.slice (some ⟨w3.heap.size, 0, none⟩) 0 0 = v5 at ST ⊢
 generalize w3.heap.size + 1 = gb5 at ST ⊢
 go_wp2
 obtain ⟨w6, hw6⟩ : ∃ W, W = w5.alloc (.cells #[.bool false, .bool true] 4) := ⟨_, rfl⟩
 have hb6 : Below w5.heap.size w5 w6 := by rw [hw6]; exact ba_ (Below.refl _ _) _
 have hbk : w6.heap[w5.heap.size]? = some (.cells #[.bool false, .bool true] 4 (0, 0)) := by rw [hw6]; exact blk_new w5 _
 rw [← hw6]
 clear hw6
 have n0_ := ak_ (blk_below BK2.out hb6); have n1_ := ak_ (blk_below BK3.out hb6); have n2_ := ak_ (ST.out.up hb6); clear BK2 BK3 ST hb6; have BK2 := n0_; have BK3 := n1_; have ST := n2_; clear n0_ n1_ n2_
 obtain ⟨gbL, hgL⟩ : ∃ g, g = w5.heap.size := ⟨_, rfl⟩
 rw [← hgL] at hbk ⊢
 have BKL := ak_ hbk
 clear hbk hgL
 go_loopg [11] 3 (fun gg v11 wr => ∃ (i : Nat) (acc : List (List Int)) (v : Value), v11 = .int .i64 (i : Int) ∧ i ≤ 2 ∧ 3 - i ≤ gg ∧ Aside0 (grRest k ts se tq ov t i acc = some b) ∧ Aside0 (GpSt (Kd.slice 3 (Kd.int .i64)) 22 57 gb5 w3 wr v (fun _ => True) acc) ∧ Aside0 (wr.heap[gb2]? = some (.cells #[.slice At ts.length ct, .int .i64 se, .int .i64 tq] 33 (0, 0))) ∧ Aside0 (wr.heap[gb3]? = some (.cells #[.slice Ao ov.length co, .int .i64 t] 35 (0, 0))) ∧ Aside0 (wr.heap[gbL]? = some (.cells #[.bool false, .bool true] 4 (0, 0))))
 case atStart => exact ⟨0, [], v5, rfl, by omega, by omega, H, ⟨ST.out.up be_⟩, ⟨pk BK2.out⟩, ⟨pk BK3.out⟩, ⟨pk BKL.out⟩⟩
 case round =>
  clear H BK2 BK3 BKL ST
  obtain ⟨i, acc, v, rfl, hi2, hgg, H, ST, BK2, BK3, BKL⟩ := hrel
  cases gk with
  | zero => exact absurd hgg (by omega)
  | succ m =>
   have h := H.out
   have hl0 := blk_cell BKL.out 0
   have hl1 := blk_cell BKL.out 1
   have hq2_0 := blk_cell BK2.out 0
   simp at hq2_0
   have hq2_1 := blk_cell BK2.out 1
   simp at hq2_1
   have hq2_2 := blk_cell BK2.out 2
   simp at hq2_2
   have hq3_0 := blk_cell BK3.out 0
   simp at hq3_0
   have hq3_1 := blk_cell BK3.out 1
   simp at hq3_1
   simp at hl0
   simp at hl1
   rcases i with _ | _ | i
   ·obtain ⟨a, hp, hr⟩ : ∃ a, grPart k ts se tq ov t false acc = some a ∧ grRest k ts se tq ov t 1 a = some b := by
      obtain ⟨a, h1, h2⟩ := Option.bind_eq_some_iff.mp (show (grPart k ts se tq ov t false acc).bind (fun a => grPart k ts se tq ov t true a) = some b from h)
      exact ⟨a, h1, h2⟩
    unfold grPart at hp
    obtain ⟨mm, hm, hp⟩ := Option.bind_eq_some_iff.mp hp
    have AT2 := ak_ (AT.out false mm hm)
    by_cases hm0 : mm > 0
    ·rw [if_pos hm0] at hp
     obtain ⟨P, hP, hp⟩ := Option.bind_eq_some_iff.mp hp
     by_cases hPl : P.length ≤ 100
     rotate_left
     ·rw [if_neg hPl] at hp; exact absurd hp (by simp)
     rw [if_pos hPl] at hp
     have A12 := ak_ (A1.out false P hP)
     have A22 := ak_ (A2.out P acc a hPl hp)
     have v3 : decide (mm > 0) = true := decide_eq_true hm0
     have v4 : decide (0 < mm) = true := decide_eq_true hm0
     have HR := ak_ hr
     clear h H AT A1 A2 hm hp hP hPl hm0 hr H3
     go_upto_region 6 with (go_at_call 87; refine (AT2.out _ (below_then HB3.out HB3.out.size (ST.out.up be_).bel)).mono ?_; rintro e w7 ⟨rfl, hb⟩; clear hq2_0 hq2_1 hq2_2 hq3_0 hq3_1 hl0 hl1 AT2; have n0_ := ak_ (blk_below (pk BK2.out) hb); have n1_ := ak_ (blk_below (pk BK3.out) hb); have n2_ := ak_ (blk_below (pk BKL.out) hb); have n3_ := ak_ ((ST.out.up be_).up hb); clear BK2 BK3 BKL ST hb; have BK2 := n0_; have BK3 := n1_; have BKL := n2_; have ST := n3_; clear n0_ n1_ n2_ n3_)
     try go_wp2
     have n0_ := ak_ (k1_ BK2.out); have n1_ := ak_ (k1_ BK3.out); have n2_ := ak_ (k1_ BKL.out); have n3_ := ak_ (ST.out.up (below_drew (Below.refl _ _))); clear BK2 BK3 BKL ST; have BK2 := n0_; have BK3 := n1_; have BKL := n2_; have ST := n3_; clear n0_ n1_ n2_ n3_
     refine start_ (n := 10) (S := fun w' => w'.cell? ⟨gb3, 0, none⟩ = some (.slice Ao ov.length co) ∧ w'.cell? ⟨gb2, 1, none⟩ = some (.int .i64 se)) (ds := []) (mb_ 10 0) (by kernel_rfl) rfl rfl ⟨(blk_cell BK3.out 0).trans rfl, (blk_cell BK2.out 1).trans rfl⟩ (fun hHeld => ?_); refine with_tabW impl_Night_groups.T6_ impl_Night_groups.B6_ (fun HT_ HW_ => ?_)
     generalize w7.drew = w9 at BK2 BK3 BKL ST hHeld ⊢
     refine pu_ 0 20 10 1 ?_
     refine tk_ 1 21 10 3 ?_ (hy := by rintro w' ⟨s0, s1⟩; go_simp; with_reducible rfl)
     refine pu_ 2 22 10 7 ?_
     refine pu_ 3 23 10 15 ?_
     refine pu_ 4 24 10 31 ?_
     refine pu_ 6 26 10 95 ?_
     refine tk_ 7 27 10 223 ?_ (hy := by rintro w' ⟨s0, s1⟩; go_simp; with_reducible rfl)
     refine pu_ 8 28 10 479 ?_
     refine on_ 5 25 10 511 (fun K hK => ?_)
     refine goes_ Try.func89 (by kernel_rfl) rfl #[.agg #[.slice Ao ov.length co, .bool false], .bool false] (by rfl) rfl rfl (by first | rfl | (simp only [map_toArray, map_cons, map_nil]; try rfl)) ?_
     refine (A12.out _ (below_then HB3.out HB3.out.size ST.out.bel)).mono ?_
     rintro e_ w10 ⟨v12, rfl, hp, hb⟩
     obtain ⟨Ap, cp, rfl⟩ := Kd.R_slice hp
     refine ⟨_, rfl, ?_⟩
     have PL := ak_ (Kd.R_lower (ST.out.new (Nat.le_refl _) hp) (bz_ ST.out.bel))
     have n0_ := ak_ (blk_below BK2.out hb); have n1_ := ak_ (blk_below BK3.out hb); have n2_ := ak_ (blk_below BKL.out hb); have n3_ := ak_ (ST.out.up hb); clear BK2 BK3 BKL ST hb hp; have BK2 := n0_; have BK3 := n1_; have BKL := n2_; have ST := n3_; clear n0_ n1_ n2_ n3_
     refine hK.out _ _ ⟨(blk_cell BK3.out 0).trans rfl, (blk_cell BK2.out 1).trans rfl⟩ (fun hHeld => ?_)
     clear hK K
     refine nm_ ?_
     refine on_ 9 29 10 1023 (fun K hK => ?_)
     refine goes_ Try.func88 (by kernel_rfl) rfl #[.slice Ap P.length cp, .int .i64 se, .func (.func 90) #[] #[.pointer (some ⟨gb5, 0, none⟩)]] (by rfl) rfl rfl (by first | rfl | (simp only [map_toArray, map_cons, map_nil]; try rfl)) ?_
     refine (A22.out gb5 w3 _ Ap cp v ST.out PL.out).mono ?_
     rintro e_ w11 ⟨rfl, v11, hst, hfr⟩
     refine ⟨_, rfl, ?_⟩
     have n0_ := ak_ hst; have n1_ := ak_ ((hfr.at_ (blk_lt BK2.out) (ty_ne BK2.out ST.out.out (by decide)) (Kd.S_ne ST.out.row BK2.out (by decide))).trans BK2.out); have n2_ := ak_ ((hfr.at_ (blk_lt BK3.out) (ty_ne BK3.out ST.out.out (by decide)) (Kd.S_ne ST.out.row BK3.out (by decide))).trans BK3.out); have n3_ := ak_ ((hfr.at_ (blk_lt BKL.out) (ty_ne BKL.out ST.out.out (by decide)) (Kd.S_ne ST.out.row BKL.out (by decide))).trans BKL.out); clear ST BK2 BK3 BKL hst hfr; have ST := n0_; have BK2 := n1_; have BK3 := n2_; have BKL := n3_; clear n0_ n1_ n2_ n3_
     refine hK.out _ _ ⟨(blk_cell BK3.out 0).trans rfl, (blk_cell BK2.out 1).trans rfl⟩ (fun hHeld => ?_)
     clear hK K
     refine nm_ ?_
     refine done_ (done_of HT_.out (by kernel_rfl)) ?_
     try go_wp2
     go_roundg m
     case measure => omega
     case rel => exact ⟨1, a, v11, rfl, by omega, by omega, HR, ⟨ST.out.up be_⟩, ⟨pk BK2.out⟩, ⟨pk BK3.out⟩, ⟨pk BKL.out⟩⟩
    ·rw [if_neg hm0] at hp
     obtain rfl : acc = a := Option.some.inj hp
     have v3 : decide (mm > 0) = false := decide_eq_false hm0
     have v4 : decide (0 < mm) = false := decide_eq_false hm0
     have HR := ak_ hr
     clear h H AT A1 A2 hm hp hm0 hr H3
     go_wp2_with (go_at_call 87; refine (AT2.out _ (below_then HB3.out HB3.out.size (ST.out.up be_).bel)).mono ?_; rintro e w7 ⟨rfl, hb⟩; clear hq2_0 hq2_1 hq2_2 hq3_0 hq3_1 hl0 hl1 AT2; have n0_ := ak_ (blk_below (pk BK2.out) hb); have n1_ := ak_ (blk_below (pk BK3.out) hb); have n2_ := ak_ (blk_below (pk BKL.out) hb); have n3_ := ak_ ((ST.out.up be_).up hb); clear BK2 BK3 BKL ST hb; have BK2 := n0_; have BK3 := n1_; have BKL := n2_; have ST := n3_; clear n0_ n1_ n2_ n3_)
     go_roundg m
     case measure => omega
     case rel => exact ⟨1, acc, v, rfl, by omega, by omega, HR, ⟨ST.out.up be_⟩, ⟨pk BK2.out⟩, ⟨pk BK3.out⟩, ⟨pk BKL.out⟩⟩
   ·obtain ⟨a, hp, hr⟩ : ∃ a, grPart k ts se tq ov t true acc = some a ∧ grRest k ts se tq ov t 2 a = some b := ⟨b, h, rfl⟩
    unfold grPart at hp
    obtain ⟨mm, hm, hp⟩ := Option.bind_eq_some_iff.mp hp
    have AT2 := ak_ (AT.out true mm hm)
    by_cases hm0 : mm > 0
    ·rw [if_pos hm0] at hp
     obtain ⟨P, hP, hp⟩ := Option.bind_eq_some_iff.mp hp
     by_cases hPl : P.length ≤ 100
     rotate_left
     ·rw [if_neg hPl] at hp; exact absurd hp (by simp)
     rw [if_pos hPl] at hp
     have A12 := ak_ (A1.out true P hP)
     have A22 := ak_ (A2.out P acc a hPl hp)
     have v3 : decide (mm > 0) = true := decide_eq_true hm0
     have v4 : decide (0 < mm) = true := decide_eq_true hm0
     have HR := ak_ hr
     clear h H AT A1 A2 hm hp hP hPl hm0 hr H3
     go_upto_region 6 with (go_at_call 87; refine (AT2.out _ (below_then HB3.out HB3.out.size (ST.out.up be_).bel)).mono ?_; rintro e w7 ⟨rfl, hb⟩; clear hq2_0 hq2_1 hq2_2 hq3_0 hq3_1 hl0 hl1 AT2; have n0_ := ak_ (blk_below (pk BK2.out) hb); have n1_ := ak_ (blk_below (pk BK3.out) hb); have n2_ := ak_ (blk_below (pk BKL.out) hb); have n3_ := ak_ ((ST.out.up be_).up hb); clear BK2 BK3 BKL ST hb; have BK2 := n0_; have BK3 := n1_; have BKL := n2_; have ST := n3_; clear n0_ n1_ n2_ n3_)
     try go_wp2
     have n0_ := ak_ (k1_ BK2.out); have n1_ := ak_ (k1_ BK3.out); have n2_ := ak_ (k1_ BKL.out); have n3_ := ak_ (ST.out.up (below_drew (Below.refl _ _))); clear BK2 BK3 BKL ST; have BK2 := n0_; have BK3 := n1_; have BKL := n2_; have ST := n3_; clear n0_ n1_ n2_ n3_
     refine start_ (n := 10) (S := fun w' => w'.cell? ⟨gb3, 0, none⟩ = some (.slice Ao ov.length co) ∧ w'.cell? ⟨gb2, 1, none⟩ = some (.int .i64 se)) (ds := []) (mb_ 10 0) (by kernel_rfl) rfl rfl ⟨(blk_cell BK3.out 0).trans rfl, (blk_cell BK2.out 1).trans rfl⟩ (fun hHeld => ?_); refine with_tabW impl_Night_groups.T6_ impl_Night_groups.B6_ (fun HT_ HW_ => ?_)
     generalize w7.drew = w9 at BK2 BK3 BKL ST hHeld ⊢
     refine pu_ 0 20 10 1 ?_
     refine tk_ 1 21 10 3 ?_ (hy := by rintro w' ⟨s0, s1⟩; go_simp; with_reducible rfl)
     refine pu_ 2 22 10 7 ?_
     refine pu_ 3 23 10 15 ?_
     refine pu_ 4 24 10 31 ?_
     refine pu_ 6 26 10 95 ?_
     refine tk_ 7 27 10 223 ?_ (hy := by rintro w' ⟨s0, s1⟩; go_simp; with_reducible rfl)
     refine pu_ 8 28 10 479 ?_
     refine on_ 5 25 10 511 (fun K hK => ?_)
     refine goes_ Try.func89 (by kernel_rfl) rfl #[.agg #[.slice Ao ov.length co, .bool true], .bool true] (by rfl) rfl rfl (by first | rfl | (simp only [map_toArray, map_cons, map_nil]; try rfl)) ?_
     refine (A12.out _ (below_then HB3.out HB3.out.size ST.out.bel)).mono ?_
     rintro e_ w10 ⟨v12, rfl, hp, hb⟩
     obtain ⟨Ap, cp, rfl⟩ := Kd.R_slice hp
     refine ⟨_, rfl, ?_⟩
     have PL := ak_ (Kd.R_lower (ST.out.new (Nat.le_refl _) hp) (bz_ ST.out.bel))
     have n0_ := ak_ (blk_below BK2.out hb); have n1_ := ak_ (blk_below BK3.out hb); have n2_ := ak_ (blk_below BKL.out hb); have n3_ := ak_ (ST.out.up hb); clear BK2 BK3 BKL ST hb hp; have BK2 := n0_; have BK3 := n1_; have BKL := n2_; have ST := n3_; clear n0_ n1_ n2_ n3_
     refine hK.out _ _ ⟨(blk_cell BK3.out 0).trans rfl, (blk_cell BK2.out 1).trans rfl⟩ (fun hHeld => ?_)
     clear hK K
     refine nm_ ?_
     refine on_ 9 29 10 1023 (fun K hK => ?_)
     refine goes_ Try.func88 (by kernel_rfl) rfl #[.slice Ap P.length cp, .int .i64 se, .func (.func 90) #[] #[.pointer (some ⟨gb5, 0, none⟩)]] (by rfl) rfl rfl (by first | rfl | (simp only [map_toArray, map_cons, map_nil]; try rfl)) ?_
     refine (A22.out gb5 w3 _ Ap cp v ST.out PL.out).mono ?_
     rintro e_ w11 ⟨rfl, v11, hst, hfr⟩
     refine ⟨_, rfl, ?_⟩
     have n0_ := ak_ hst; have n1_ := ak_ ((hfr.at_ (blk_lt BK2.out) (ty_ne BK2.out ST.out.out (by decide)) (Kd.S_ne ST.out.row BK2.out (by decide))).trans BK2.out); have n2_ := ak_ ((hfr.at_ (blk_lt BK3.out) (ty_ne BK3.out ST.out.out (by decide)) (Kd.S_ne ST.out.row BK3.out (by decide))).trans BK3.out); have n3_ := ak_ ((hfr.at_ (blk_lt BKL.out) (ty_ne BKL.out ST.out.out (by decide)) (Kd.S_ne ST.out.row BKL.out (by decide))).trans BKL.out); clear ST BK2 BK3 BKL hst hfr; have ST := n0_; have BK2 := n1_; have BK3 := n2_; have BKL := n3_; clear n0_ n1_ n2_ n3_
     refine hK.out _ _ ⟨(blk_cell BK3.out 0).trans rfl, (blk_cell BK2.out 1).trans rfl⟩ (fun hHeld => ?_)
     clear hK K
     refine nm_ ?_
     refine done_ (done_of HT_.out (by kernel_rfl)) ?_
     try go_wp2
     go_roundg m
     case measure => omega
     case rel => exact ⟨2, a, v11, rfl, by omega, by omega, HR, ⟨ST.out.up be_⟩, ⟨pk BK2.out⟩, ⟨pk BK3.out⟩, ⟨pk BKL.out⟩⟩
    ·rw [if_neg hm0] at hp
     obtain rfl : acc = a := Option.some.inj hp
     have v3 : decide (mm > 0) = false := decide_eq_false hm0
     have v4 : decide (0 < mm) = false := decide_eq_false hm0
     have HR := ak_ hr
     clear h H AT A1 A2 hm hp hm0 hr H3
     go_wp2_with (go_at_call 87; refine (AT2.out _ (below_then HB3.out HB3.out.size (ST.out.up be_).bel)).mono ?_; rintro e w7 ⟨rfl, hb⟩; clear hq2_0 hq2_1 hq2_2 hq3_0 hq3_1 hl0 hl1 AT2; have n0_ := ak_ (blk_below (pk BK2.out) hb); have n1_ := ak_ (blk_below (pk BK3.out) hb); have n2_ := ak_ (blk_below (pk BKL.out) hb); have n3_ := ak_ ((ST.out.up be_).up hb); clear BK2 BK3 BKL ST hb; have BK2 := n0_; have BK3 := n1_; have BKL := n2_; have ST := n3_; clear n0_ n1_ n2_ n3_)
     go_roundg m
     case measure => omega
     case rel => exact ⟨2, acc, v, rfl, by omega, by omega, HR, ⟨ST.out.up be_⟩, ⟨pk BK2.out⟩, ⟨pk BK3.out⟩, ⟨pk BKL.out⟩⟩
   ·obtain rfl : acc = b := Option.some.inj h
    have h3 := H3.out
    unfold grSort at h3
    clear h H AT A1 A2 hl0 hl1 H3
    have hy5 := blk_cell ST.out.out 0
    simp at hy5
    by_cases h0 : acc.length = 0
    ·rw [if_pos h0] at h3
     obtain rfl := Option.some.inj h3
     obtain rfl : acc = [] := List.length_eq_zero_iff.1 h0
     obtain ⟨A, cL, rfl⟩ := Kd.S_slice ST.out.row
     have SN := ak_ fun (W : World) => AnyF.slices_SortFunc_none (P := Try.prog) (ρ := Try.laysSlF6_f91_ren) { Try.laysSlF6_f91 with } A cL (.func (.func 92) #[] #[]) W
     clear h3 h0
     go_wp2_with (go_at_call 91; refine (SN.out _).mono ?_; rintro e w8 ⟨rfl, rfl⟩)
     first | go_ret | go_ret2
     exact ⟨_, rfl, Kd.R_N (Kd.R_mono (Kd.R_bound (Kd.S_R (Kd.S_lower (Kd.S_below ST.out.row be_) (bz_ HB3.out)))) (fun _ hk_ => hk_.2.1)), below_then HB3.out HB3.out.size (ST.out.up be_).bel⟩
    ·rw [if_neg h0] at h3
     by_cases hc : acc.length ≤ 1000 ∧ (acc.all fun x => decide (x.length ≤ 1000)) = true
     rotate_left
     ·rw [if_neg hc] at h3; exact absurd h3 (by simp)
     rw [if_pos hc] at h3
     obtain rfl := Option.some.inj h3
     obtain ⟨bL, cL, ev, hbL, -⟩ := Kd.S_form ST.out.row (by omega)
     subst ev
     have HNE := ak_ (Kd.S_ne ST.out.row ST.out.out (by decide))
     have SO := ak_ fun (W : World) (HP : Kd.S (Kd.slice 3 (Kd.int .i64)) 22 W w3.heap.size (fun _ => True) (.slice (some ⟨bL, 0, none⟩) acc.length cL) acc) => rs_sort bL cL w3.heap.size (fun _ => True) acc W HP (by omega) hc.1 (fun x hx => odt_ (List.all_eq_true.1 hc.2 x hx))
     have HBL := ak_ hbL
     clear h3 h0 hc hbL
     go_wp2_with (go_at_call 91; refine (SO.out _ (Kd.pS ST.out.row)).mono ?_; rintro e w8 ⟨rfl, hs, hk, hbw⟩; have HS := ak_ hs; have BG := ak_ ((hk gb5 (fun e_ => HNE.out (by rw [e_]; rfl)) (blk_lt (pk ST.out.out))).trans (pk ST.out.out)); have HW := ak_ (hbw w.heap.size w (below_then HB3.out HB3.out.size (ST.out.up be_).bel) (Nat.le_trans HB3.out.size HBL.out)); clear hs hk hbw hy5 ST SO; have hy5 := blk_cell BG.out 0; simp at hy5)
     first | go_ret | go_ret2
     exact ⟨_, rfl, Kd.R_N (Kd.R_mono (Kd.R_bound (Kd.S_R (Kd.S_lower (Kd.S_below HS.out be_) (bz_ HB3.out)))) (fun _ hk_ => hk_.2.1)), below_then HW.out HW.out.size be_⟩
def slices_Index_int_int.l0 : Nat → List Int → Int → Int → Int → Option (Int)
 | 0, _, _, _, _ => none
 | k + 1, x0, x1, x7, x8 => if x8 < x7 then (if 0 ≤ x8 then (if x8 < (x0.length : Int) then (if x1 = (rd x0 x8) then (some x8) else (slices_Index_int_int.l0 k x0 x1 x7 (wrap64 (x8 + 1)))) else (none)) else (none)) else (some (-1))
def slices_Index_int_int.f (k : Nat) (l0 : List Int) (a1 : Int) : Option (Int) := slices_Index_int_int.l0 k l0 a1 (l0.length : Int) 0
theorem slices_Index_int_int.calls (k : Nat) (A0 : Option Addr) (c0 : Nat) (l0 : List Int) (a1 : Int) (r : Int) (w : World) (hr0 : Kd.C (Kd.int .i64) w A0 l0.length l0) (hc0 : l0.length ≤ c0) (h : slices_Index_int_int.f k l0 a1 = some r) :
  Calls Try.prog 124 #[.slice A0 l0.length c0, .int .i64 a1] w fun e w' => e = .returned (.int .i64 r) ∧ Drawn0 w w' := by
 have HR0 := ak_ hr0
 have HC0 := ak_ hc0
 clear hr0 hc0
 have H : (slices_Index_int_int.l0 k l0 a1 (l0.length : Int) 0) = some r := h
 clear h
 have H' := ak_ H
 clear H
 go_enter Try.func124, Try.ntmps124
 go_wp2
 go_loopg [8] k (fun kq v8 w' => ∃ (x8_1 : Int), v8 = .int .i64 x8_1 ∧ Aside0 (slices_Index_int_int.l0 kq l0 a1 (l0.length : Int) x8_1 = some r) ∧ Aside0 (kq ≤ k) ∧ Drawn0 w w')
 case atStart => exact ⟨(0), (ry_), H', ⟨Nat.le_refl _⟩, by repeat (first | exact Drawn0.refl _ | apply Drawn0.step)⟩
 case round =>
  clear H'
  try clear c1
  try clear p2
  obtain ⟨x8_1, rfl, HA, HK1, ⟨m1, rfl⟩⟩ := hrel
  cases gk with
  | zero => exact absurd HA.out (by simp [slices_Index_int_int.l0])
  | succ k1 =>
   have H := HA.out
   clear HA
   simp only [slices_Index_int_int.l0] at H
   by_cases c3 : x8_1 < (l0.length : Int)
   ·
    rw [if_pos c3] at H
    have c3b0 : decide (x8_1 < (l0.length : Int)) = true := decide_eq_true c3
    clear c3
    by_cases c4 : 0 ≤ x8_1
    ·
     rw [if_pos c4] at H
     have c4b0 : decide (0 ≤ x8_1) = true := decide_eq_true c4
     clear c4
     by_cases c5 : x8_1 < (l0.length : Int)
     ·
      rw [if_pos c5] at H
      have c5b0 : decide (x8_1 < (l0.length : Int)) = true := decide_eq_true c5
      clear c5
      by_cases c6 : a1 = (rd l0 x8_1)
      ·
       rw [if_pos c6] at H
       have c6b0 : (a1 == (rd l0 x8_1)) = true := beq_iff_eq.mpr c6
       have c6b1 : (a1 != (rd l0 x8_1)) = false := bne_eq_false_iff_eq.mpr c6
       clear c6
       obtain rfl := Option.some.inj H
       have p332 : 0 ≤ (x8_1 : Int) := odt_ (by assumption)
       have q332 : x8_1 < (l0.length : Int) := odt_ (by assumption)
       obtain ⟨ad332, e332, hx332_0⟩ := Kd.at_int HR0.out x8_1 p332 q332
       cases e332
       replace p332 := eq_true p332
       replace q332 := eq_true q332
       go_wp2
       go_ret
       exact ⟨ry_, by repeat (first | exact Drawn0.refl _ | apply Drawn0.step)⟩
      ·
       rw [if_neg c6] at H
       have c6b0 : (a1 == (rd l0 x8_1)) = false := beq_eq_false_iff_ne.mpr c6
       have c6b1 : (a1 != (rd l0 x8_1)) = true := bne_iff_ne.mpr c6
       have H' := ak_ H
       clear H
       have p332 : 0 ≤ (x8_1 : Int) := odt_ (by assumption)
       have q332 : x8_1 < (l0.length : Int) := odt_ (by assumption)
       obtain ⟨ad332, e332, hx332_0⟩ := Kd.at_int HR0.out x8_1 p332 q332
       cases e332
       replace p332 := eq_true p332
       replace q332 := eq_true q332
       go_wp2
       go_roundg k1
       case measure => have := HK1.out; omega
       case rel => exact ⟨(wrap64 (x8_1 + 1)), (ry_), H', ⟨by have := HK1.out; omega⟩, by repeat (first | exact Drawn0.refl _ | apply Drawn0.step)⟩
     ·
      rw [if_neg c5] at H
      exact absurd H (by simp)
    ·
     rw [if_neg c4] at H
     exact absurd H (by simp)
   ·
    rw [if_neg c3] at H
    have c3b0 : decide (x8_1 < (l0.length : Int)) = false := decide_eq_false c3
    clear c3
    obtain rfl := Option.some.inj H
    go_wp2
    go_ret
    exact ⟨ry_, by repeat (first | exact Drawn0.refl _ | apply Drawn0.step)⟩
def slices_Contains_int_int.f (k : Nat) (l0 : List Int) (a1 : Int) : Option (Bool) := (slices_Index_int_int.f k l0 a1).bind fun t333 => (some (decide (t333 ≥ 0)))
theorem slices_Contains_int_int.calls (k : Nat) (A0 : Option Addr) (c0 : Nat) (l0 : List Int) (a1 : Int) (r : Bool) (w : World) (hr0 : Kd.C (Kd.int .i64) w A0 l0.length l0) (hc0 : l0.length ≤ c0) (h : slices_Contains_int_int.f k l0 a1 = some r) :
  Calls Try.prog 109 #[.slice A0 l0.length c0, .int .i64 a1] w fun e w' => e = .returned (.bool r) ∧ Drawn0 w w' := by
 have HR0 := ak_ hr0
 have HC0 := ak_ hc0
 clear hr0 hc0
 have H : ((slices_Index_int_int.f k l0 a1).bind fun t333 => (some (decide (t333 ≥ 0)))) = some r := h
 clear h
 replace H := Option.bind_eq_some_iff.mp H
 obtain ⟨t333, A30, H⟩ := H
 replace H : (some (decide (t333 ≥ 0))) = some r := H
 have A3 := ak_ A30
 clear A30
 obtain rfl := Option.some.inj H
 go_enter Try.func109, Try.ntmps109
 go_wp2_with (first | ((with_reducible refine gate_callee (f := 124) rfl ?_); refine goesL_ (some 7) rfl rfl Try.func124 (by kernel_rfl) rfl #[.slice A0 l0.length c0, .int .i64 a1] rfl (by first | rfl | (simp only [map_toArray, map_cons, map_nil]; try rfl)) ?_; (with_reducible refine (slices_Index_int_int.calls k _ _ l0 a1 t333 _ ?side1 ?side2 A3.out).mono ?_); (case side1 => repeat (first | exact HR0.out | (with_reducible refine Kd.C_alloc ?_ _) | (with_reducible refine Kd.C_drewN ?_ _) | (with_reducible refine Kd.C_drew ?_))); (case side2 => exact HC0.out); rintro e w' ⟨rfl, ⟨nd, rfl⟩⟩; refine ⟨_, rfl, ?_⟩))
 go_ret
 exact ⟨ry_, by repeat (first | exact Drawn0.refl _ | apply Drawn0.step)⟩
def impl_share.f (k : Nat) (a b : List Int) : Option Bool := anyO (fun x => slices_Contains_int_int.f k b x) a
theorem impl_share.calls_1 (k : Nat) (B : Nat) (Ab : Option Addr) (cb : Nat) (b : List Int) (x : Int) (r : Bool) (W : World) (h1 : W.cell? ⟨B, 0, none⟩ = some (.slice Ab b.length cb)) (hb : (Kd.int .i64).C W Ab b.length b) (hcb : b.length ≤ cb) (h : slices_Contains_int_int.f k b x = some r) :
  Calls Try.prog 108 #[.int .i64 x, .pointer (some ⟨B, 0, none⟩)] W fun e w' => e = .returned (.bool r) ∧ Below W.heap.size W w' := by
 have A1 := ak_ fun (W' : World) (hb' : Below W.heap.size W W') => slices_Contains_int_int.calls k Ab cb b x r W' (Kd.C_below hb hb') hcb h
 have HB := ak_ (Below.refl W.heap.size W)
 clear h hb hcb
 go_enter Try.func108, Try.ntmps108
 go_wp2_with (go_at_call 109; refine (A1.out _ (bb_ HB.out)).mono ?_; rintro e w6 ⟨rfl, hd⟩; have n0_ := ak_ (bs_ (bb_ HB.out) hd.below); clear hd HB; have HB := n0_; clear n0_)
 first | go_ret | go_ret2
 exact ⟨rfl, (bb_ HB.out)⟩
theorem impl_share.calls (k : Nat) (Aa : Option Addr) (ca : Nat) (a : List Int) (Ab : Option Addr) (cb : Nat) (b : List Int) (r : Bool) (w : World)
  (ha : Kd.C (Kd.int .i64) w Aa a.length a) (hca : a.length ≤ ca) (hb0 : Kd.C (Kd.int .i64) w Ab b.length b) (hcb : b.length ≤ cb) (h : impl_share.f k a b = some r) :
  Calls Try.prog 93 #[.slice Aa a.length ca, .slice Ab b.length cb] w fun e w' => e = .returned (.bool r) ∧ Below w.heap.size w w' := by
 unfold impl_share.f at h
 have A2 := ak_ fun (g : Nat) (W : World) (hb : Below w.heap.size w W) (hg : ∀ W', Below W.heap.size W W' → W'.cell? ⟨g, 0, none⟩ = some (.slice Ab b.length cb)) =>
  slices_ContainsFunc_int_int.calls_fn 108 #[.pointer (some ⟨g, 0, none⟩)] (enters_of Try.func108 (by kernel_rfl) rfl) (fun x => slices_Contains_int_int.f k b x) Aa ca a W (Kd.C_below ha hb) (fun W' x r' hb' hx => impl_share.calls_1 k g Ab cb b x r' W' (hg W' hb') (Kd.C_below hb0 (bs_ hb hb')) hcb hx) r h
 have HB := ak_ (Below.refl w.heap.size w)
 clear h ha hca hb0 hcb
 go_enter Try.func93, Try.ntmps93
 go_wp2_with (first | ((with_reducible refine gate_dst (N := 3) rfl ?_); refine bx_ 3 #[.slice Ab b.length cb] 22 ?_; intro gb3 hg w3 hbox hb; have nb_ := ak_ (bs_ (bb_ HB.out) hb); have nc_ := ak_ hbox; have nd_ := ak_ ((by rw [hg]; exact (bz_ (bb_ HB.out)) : w.heap.size ≤ gb3)); clear HB hb hbox hg; have HB := nb_; have BK3 := nc_; have GE3 := nd_; clear nb_ nc_ nd_; have hz3_0 := (blk_cell BK3.out 0); have hf3_0 := (blk_frozen BK3.out 0); simp at hz3_0; skip) | (go_at_call 94; refine (A2.out gb3 _ (bb_ HB.out) (fun W' hb' => (blk_cell (blk_below (pk BK3.out) hb') 0).trans rfl)).mono ?_; rintro e w7 ⟨rfl, hb⟩; have n0_ := ak_ (bs_ (bb_ HB.out) hb); clear HB hb; have HB := n0_; clear n0_))
 first | go_ret | go_ret2
 exact ⟨rfl, (bb_ HB.out)⟩
end Go.Proofs.Ytmdbhpbogbekmaa.QNt
