/- Contracts of functions of the given program, walked: each call returns what its Lean function says. Conditions: those that stand at each theorem. (Written by a program of this session.) -/
import Derived.Test.YthkchdfkeieabaaQGrx0
import Derived.Test.YthkchdfkeieabaaQGrx10
namespace Go.Proofs.Ythkchdfkeieabaa.QGr
open Go.RowKit Go.Proofs.YthkchdfkeieabaaW.PrintWords Go.Proofs.YthkchdfkeieabaaW.PrintLast Go.Proofs.YthkchdfkeieabaaW.PrintMore
open List (setIfInBounds_toArray set_cons_zero set_cons_succ map_toArray map_cons map_nil)
attribute [local go_sem] max2_int min2_int max_two min_two max_three min_three max_four min_four
set_option linter.unusedVariables false
set_option maxHeartbeats 8000000
set_option maxRecDepth 100000
set_option linter.unusedSimpArgs false
def anyO {α : Type} (p : α → Option Bool) : List α → Option Bool
 | [] => some false
 | x :: xs => (p x).bind fun b => if b = true then some true else anyO p xs
theorem anyO_some {α : Type} (p : α → Bool) (l : List α) : anyO (fun x => some (p x)) l = some (l.any p) := by
 induction l with
 | nil => rfl
 | cons x xs ih =>
  simp only [anyO, Option.bind_some, List.any_cons]
  cases p x
  ·simpa using ih
  ·simp
theorem drop_at_i64 {l : List (Int)} {kk : Nat} (h : kk < l.length) : l.drop kk = rd l (kk : Int) :: l.drop (kk + 1) := by
 rw [List.drop_eq_getElem_cons h]
 simp [rd, List.getD_eq_getElem?_getD, List.getElem?_eq_getElem h]
theorem slices_IndexFunc_int_int.calls_fn (g : Nat) (lb : Array Value) (eg : ∀ args w, (callFunc g args).run Try.prog w = .ok (.enter g args) w) (p : Int → Option Bool)
  (A : Option Addr) (c : Nat) (l : List (Int)) (w : World) (hr : Kd.C (Kd.int .i64) w A l.length l)
  (hp : ∀ (W : World) (x : Int) (r : Bool), Below w.heap.size w W → p x = some r → Calls Try.prog g (#[.int .i64 x] ++ lb) W fun e w' => e = .returned (.bool r) ∧ Below W.heap.size W w')
  (r : Bool) (h : anyO p l = some r) :
  Calls Try.prog 163 #[.slice A l.length c, .func (.func g) #[] lb] w fun e w' => (∃ i : Int, e = .returned (.int .i64 i) ∧ decide (i ≥ 0) = r) ∧ Below w.heap.size w w' := by
 have HR0 := ak_ hr
 clear hr
 go_enter Try.func163, Try.ntmps163
 go_wp2
 go_loopg [5, 8] l.length (fun gg _ s8 wr => ∃ kk : Nat, kk ≤ l.length ∧ l.length - kk ≤ gg ∧ s8 = .int .i64 kk ∧ Aside0 (Below w.heap.size w wr) ∧ Aside0 (anyO p (l.drop kk) = some r))
 case atStart => exact ⟨0, Nat.zero_le _, by omega, rfl, ⟨Below.refl _ w⟩, ⟨h⟩⟩
 case round =>
  clear h
  obtain ⟨kk, hkk, hg, rfl, BW, A0⟩ := hrel
  have hbig := HR0.out.2.1
  by_cases hlt : kk < l.length
  ·have hltz : (kk : Int) < (l.length : Int) := by omega
   have hA := A0.out
   clear A0
   rw [drop_at_i64 hlt] at hA
   simp only [anyO] at hA
   obtain ⟨b, hb0, hb⟩ := Option.bind_eq_some_iff.mp hA
   clear hA
   obtain ⟨ad, eA, hx⟩ := Kd.at_int (Kd.C_below HR0.out BW.out) (kk : Int) (by omega) (by omega)
   cases eA
   simp only [Int.toNat_natCast] at hx
   have hcall := hp wr _ b BW.out hb0
   clear hp
   cases b with
   | true =>
    obtain rfl : true = r := by simpa using hb
    go_wp2_with (go_at_fn g; refine hcall.mono ?_; rintro e w' ⟨rfl, hb'⟩)
    go_ret
    exact ⟨⟨_, rfl, by simp⟩, BW.out.trans (hb'.mono BW.out.size)⟩
   | false =>
    have hb2 : anyO p (l.drop (kk + 1)) = some r := by simpa using hb
    have HB2 := ak_ hb2
    clear hb hb2
    go_wp2_with (go_at_fn g; refine hcall.mono ?_; rintro e w' ⟨rfl, hb'⟩)
    go_roundg (l.length - (kk + 1))
    case measure => omega
    case rel => exact ⟨kk + 1, by omega, by omega, by go_num, ⟨BW.out.trans (hb'.mono BW.out.size)⟩, HB2⟩
  ·have hltz : ¬ (kk : Int) < (l.length : Int) := by omega
   have : kk = l.length := by omega
   subst this
   have hA := A0.out
   clear A0
   rw [List.drop_length] at hA
   obtain rfl : false = r := by simpa [anyO] using hA
   go_wp2
   go_ret
   exact ⟨⟨_, rfl, by decide⟩, BW.out⟩
theorem slices_ContainsFunc_int_int.calls_fn (g : Nat) (lb : Array Value) (eg : ∀ args w, (callFunc g args).run Try.prog w = .ok (.enter g args) w) (p : Int → Option Bool)
  (A : Option Addr) (c : Nat) (l : List (Int)) (w : World) (hr : Kd.C (Kd.int .i64) w A l.length l)
  (hp : ∀ (W : World) (x : Int) (r : Bool), Below w.heap.size w W → p x = some r → Calls Try.prog g (#[.int .i64 x] ++ lb) W fun e w' => e = .returned (.bool r) ∧ Below W.heap.size W w')
  (r : Bool) (h : anyO p l = some r) :
  Calls Try.prog 131 #[.slice A l.length c, .func (.func g) #[] lb] w fun e w' => e = .returned (.bool r) ∧ Below w.heap.size w w' := by
 have hI := ak_ (slices_IndexFunc_int_int.calls_fn g lb eg p A c l w hr hp r h)
 clear hr hp h
 go_enter Try.func131, Try.ntmps131
 go_wp2_with (go_at_call 163; refine hI.out.mono ?_; rintro e w' ⟨⟨i, rfl, hi⟩, hb'⟩)
 go_ret
 exact ⟨by first | rfl | simp [hi], hb'⟩
def impl_areIn.f (l0 : List Int) (a1 : Int) (a2 : Int) (a3 : Int) (a4 : Int) : Option Bool :=
 some ((decide (a3 ≤ (l0.length : Int)) && decide ((l0.length : Int) ≤ a4)) && !(l0.any fun x => !(decide (a1 ≤ x) && decide (x ≤ a2))))
theorem impl_in.f_eq (x a b : Int) : impl_in.f x a b = some (decide (a ≤ x) && decide (x ≤ b)) := by
 unfold impl_in.f
 by_cases h : a ≤ x <;> simp [h]
theorem impl_areIn.calls_1 (x a1 a2 : Int) (B1 B2 : Nat) (w : World) (h1 : w.cell? ⟨B1, 0, none⟩ = some (.int .i64 a1)) (h2 : w.cell? ⟨B2, 0, none⟩ = some (.int .i64 a2)) :
  Calls Try.prog 132 (#[.int .i64 x] ++ #[.pointer (some ⟨B1, 0, none⟩), .pointer (some ⟨B2, 0, none⟩)]) w fun e w' => e = .returned (.bool (!(decide (a1 ≤ x) && decide (x ≤ a2)))) ∧ Below w.heap.size w w' := by
 have hin := fun W => impl_in.calls x a1 a2 _ W (impl_in.f_eq x a1 a2)
 generalize hb : (decide (a1 ≤ x) && decide (x ≤ a2)) = b at hin ⊢
 clear hb
 go_enter Try.func132, Try.ntmps132
 go_wp2_with (go_at_call 82; refine (hin _).mono ?_; rintro e w' ⟨rfl, ⟨nd, rfl⟩⟩)
 go_ret
 exact ⟨rfl, by repeat (first | exact Below.refl _ _ | apply bN_ | apply b1_)⟩
theorem impl_areIn.calls (A0 : Option Addr) (c0 : Nat) (l0 : List Int) (a1 : Int) (a2 : Int) (a3 : Int) (a4 : Int) (r : Bool) (w : World) (hr0 : Kd.C (Kd.int .i64) w A0 l0.length l0) (hc0 : l0.length ≤ c0) (h : impl_areIn.f l0 a1 a2 a3 a4 = some r) :
  Calls Try.prog 97 #[.slice A0 l0.length c0, .int .i64 a1, .int .i64 a2, .int .i64 a3, .int .i64 a4] w fun e w' => e = .returned (.bool r) ∧ Below w.heap.size w w' := by
 have hin := fun W => impl_in.calls (l0.length : Int) a3 a4 _ W (impl_in.f_eq _ a3 a4)
 obtain rfl := Option.some.inj h
 clear h
 have hC := ak_ fun (W : World) (hb : Below w.heap.size w W) (B1 B2 : Nat) (h1 : W.cell? ⟨B1, 0, none⟩ = some (.int .i64 a1)) (h2 : W.cell? ⟨B2, 0, none⟩ = some (.int .i64 a2)) (hB1 : B1 < W.heap.size) (hB2 : B2 < W.heap.size) =>
  slices_ContainsFunc_int_int.calls_fn 132 #[.pointer (some ⟨B1, 0, none⟩), .pointer (some ⟨B2, 0, none⟩)] (enters_of Try.func132 (by kernel_rfl) rfl) (fun x => some (!(decide (a1 ≤ x) && decide (x ≤ a2)))) A0 c0 l0 W (Kd.C_below hr0 hb)
   (fun W' x r hb' hx => by
    obtain rfl := Option.some.inj hx
    exact impl_areIn.calls_1 x a1 a2 B1 B2 W' ((hb'.cell (p := ⟨B1, 0, none⟩) hB1).trans h1) ((hb'.cell (p := ⟨B2, 0, none⟩) hB2).trans h2)) _ (anyO_some _ l0)
 clear hr0
 generalize hq : (l0.any fun x => !(decide (a1 ≤ x) && decide (x ≤ a2))) = q at hC ⊢
 clear hq
 generalize hb : (decide (a3 ≤ (l0.length : Int)) && decide ((l0.length : Int) ≤ a4)) = b at hin ⊢
 clear hb
 cases b
 ·go_enter Try.func97, Try.ntmps97
  go_wp2_with (go_at_call 82; refine (hin _).mono ?_; rintro e w' ⟨rfl, ⟨nd, rfl⟩⟩)
  go_ret
  exact ⟨rfl, by repeat (first | exact Below.refl _ _ | apply ba_ | apply bN_ | apply b1_)⟩
 ·go_enter Try.func97, Try.ntmps97
  go_wp2_with (first | (go_at_call 82; refine (hin _).mono ?_; rintro e w' ⟨rfl, ⟨nd, rfl⟩⟩) | (go_at_call 131; refine (hC.out _ (by repeat (first | exact Below.refl _ _ | apply ba_ | apply bN_ | apply b1_)) _ _ (by simp) (by simp) (by first | (simp; done) | (simp; omega)) (by first | (simp; done) | (simp; omega))).mono ?_; rintro e w' ⟨rfl, hb'⟩))
  go_ret
  exact ⟨by cases q <;> rfl, Below.trans (by repeat (first | exact Below.refl _ _ | apply ba_ | apply bN_ | apply b1_)) (hb'.mono (by first | (simp; done) | (simp; omega)))⟩
def impl_IsCrew.f (l0_0 : List Int) (l0_1 : List Bool) (a0_2 : Int) : Option (Bool) := (impl_areIn.f l0_0 1 500 1 7).bind fun t382 => (if t382 = true then (if (l0_1.length : Int) = (l0_0.length : Int) then ((impl_in.f a0_2 0 2000).bind fun t383 => (some t383)) else (some false)) else (some false))
theorem impl_IsCrew.calls (A0_0 : Option Addr) (c0_0 : Nat) (l0_0 : List Int) (A0_1 : Option Addr) (c0_1 : Nat) (l0_1 : List Bool) (a0_2 : Int) (r : Bool) (w : World) (hr0_0 : Kd.C (Kd.int .i64) w A0_0 l0_0.length l0_0) (hc0_0 : l0_0.length ≤ c0_0) (hr0_1 : Kd.C Kd.bool w A0_1 l0_1.length l0_1) (hc0_1 : l0_1.length ≤ c0_1) (h : impl_IsCrew.f l0_0 l0_1 a0_2 = some r) :
  Calls Try.prog 57 #[.agg #[.slice A0_0 l0_0.length c0_0, .slice A0_1 l0_1.length c0_1, .int .i64 a0_2]] w fun e w' => e = .returned (.bool r) ∧ Below w.heap.size w w' := by
 have hu43 := Try.underlying43
 have HR0_0 := ak_ hr0_0
 have HC0_0 := ak_ hc0_0
 clear hr0_0 hc0_0
 have HR0_1 := ak_ hr0_1
 have HC0_1 := ak_ hc0_1
 clear hr0_1 hc0_1
 have HB := ak_ (Below.refl w.heap.size w)
 have H : ((impl_areIn.f l0_0 1 500 1 7).bind fun t382 => (if t382 = true then (if (l0_1.length : Int) = (l0_0.length : Int) then ((impl_in.f a0_2 0 2000).bind fun t383 => (some t383)) else (some false)) else (some false))) = some r := h
 clear h
 replace H := Option.bind_eq_some_iff.mp H
 obtain ⟨t382, A20, H⟩ := H
 replace H : (if t382 = true then (if (l0_1.length : Int) = (l0_0.length : Int) then ((impl_in.f a0_2 0 2000).bind fun t383 => (some t383)) else (some false)) else (some false)) = some r := H
 have A2 := ak_ A20
 clear A20
 by_cases c3 : t382 = true
 ·
  subst c3
  have H1 : (if (l0_1.length : Int) = (l0_0.length : Int) then ((impl_in.f a0_2 0 2000).bind fun t383 => (some t383)) else (some false)) = some r := by rw [if_pos rfl] at H; exact H
  clear H
  have H := H1
  clear H1
  by_cases c4 : (l0_1.length : Int) = (l0_0.length : Int)
  ·
   rw [if_pos c4] at H
   have c4b0 : ((l0_1.length : Int) == (l0_0.length : Int)) = true := beq_iff_eq.mpr c4
   have c4b1 : ((l0_1.length : Int) != (l0_0.length : Int)) = false := bne_eq_false_iff_eq.mpr c4
   have c4b2 : (l0_1.length == l0_0.length) = true := by first | simpa using c4 | (simp at c4 ⊢; omega)
   clear c4
   replace H := Option.bind_eq_some_iff.mp H
   obtain ⟨t383, A50, H⟩ := H
   replace H : (some t383) = some r := H
   have A5 := ak_ A50
   clear A50
   obtain rfl := Option.some.inj H
   go_enter Try.func57, Try.ntmps57
   go_wp2_with (first | ((with_reducible refine gate_dst (N := 1) rfl ?_); (try (refine gate_guard (by rfl) ?_; dsimp only)); refine bx_ 1 #[.slice A0_0 l0_0.length c0_0, .slice A0_1 l0_1.length c0_1, .int .i64 a0_2] 43 ?_; intro gb381 hg w6 hbox hb; have n0_ := ak_ (bs_ (bb_ HB.out) hb); have n1_ := ak_ (hbox); have n2_ := ak_ ((by rw [hg]; exact (bz_ (bb_ HB.out)) : w.heap.size ≤ gb381)); have n3_ := n2_; clear HB; have HB := n0_; have BK381 := n1_; have GW381 := n2_; have GE381 := n3_; clear n0_ n1_ n2_ n3_; clear hb hbox hg; have hcz7_0 : w6.cell? ⟨gb381, 0, none⟩ = some (.slice A0_0 l0_0.length c0_0) := (blk_cell BK381.out 0).trans rfl; have hcz7_1 : w6.cell? ⟨gb381, 1, none⟩ = some (.slice A0_1 l0_1.length c0_1) := (blk_cell BK381.out 1).trans rfl; have hcz7_2 : w6.cell? ⟨gb381, 2, none⟩ = some (.int .i64 a0_2) := (blk_cell BK381.out 2).trans rfl; have hfz7_0 := blk_frozen BK381.out 0; have hfz7_1 := blk_frozen BK381.out 1; have hfz7_2 := blk_frozen BK381.out 2) | ((with_reducible refine gate_callee (f := 97) rfl ?_); refine goesL_ (some 5) rfl rfl Try.func97 (by kernel_rfl) rfl #[.slice A0_0 l0_0.length c0_0, .int .i64 1, .int .i64 500, .int .i64 1, .int .i64 7] rfl (by first | rfl | (simp only [map_toArray, map_cons, map_nil]; try rfl)) ?_; (with_reducible refine (impl_areIn.calls _ _ l0_0 1 500 1 7 true _ ?side1 ?side2 A2.out).mono ?_); (case side1 => repeat (first | exact (Kd.C_below HR0_0.out HB.out) | (with_reducible refine Kd.C_alloc ?_ _) | (with_reducible refine Kd.C_drewN ?_ _) | (with_reducible refine Kd.C_drew ?_))); (case side2 => exact HC0_0.out); rintro e w8 ⟨rfl, hb⟩; refine ⟨_, rfl, ?_⟩; have n0_ := ak_ (blk_below (pk BK381.out) hb); have n1_ := ak_ (bs_ bl_ hb); clear BK381; clear HB; have BK381 := n0_; have HB := n1_; clear n0_ n1_; (try clear hb); (try clear hb2); (try clear hk); (try clear hi); have hcz9_0 : w8.cell? ⟨gb381, 0, none⟩ = some (.slice A0_0 l0_0.length c0_0) := (blk_cell BK381.out 0).trans rfl; have hcz9_1 : w8.cell? ⟨gb381, 1, none⟩ = some (.slice A0_1 l0_1.length c0_1) := (blk_cell BK381.out 1).trans rfl; have hcz9_2 : w8.cell? ⟨gb381, 2, none⟩ = some (.int .i64 a0_2) := (blk_cell BK381.out 2).trans rfl; have hfz9_0 := blk_frozen BK381.out 0; have hfz9_1 := blk_frozen BK381.out 1; have hfz9_2 := blk_frozen BK381.out 2) | (go_at_call 82; (with_reducible refine (impl_in.calls a0_2 0 2000 t383 _ A5.out).mono ?_); rintro e w' ⟨rfl, ⟨nd, rfl⟩⟩))
   go_ret
   exact ⟨rx_, by repeat (first | exact HB.out | apply ba_ | apply bN_ | apply b1_ | refine below_set ?_ GE381.out)⟩
  ·
   rw [if_neg c4] at H
   have c4b0 : ((l0_1.length : Int) == (l0_0.length : Int)) = false := beq_eq_false_iff_ne.mpr c4
   have c4b1 : ((l0_1.length : Int) != (l0_0.length : Int)) = true := bne_iff_ne.mpr c4
   have c4b2 : (l0_1.length == l0_0.length) = false := by first | simpa using c4 | (simp at c4 ⊢; omega)
   obtain rfl := Option.some.inj H
   go_enter Try.func57, Try.ntmps57
   go_wp2_with (first | ((with_reducible refine gate_dst (N := 1) rfl ?_); (try (refine gate_guard (by rfl) ?_; dsimp only)); refine bx_ 1 #[.slice A0_0 l0_0.length c0_0, .slice A0_1 l0_1.length c0_1, .int .i64 a0_2] 43 ?_; intro gb381 hg w10 hbox hb; have n0_ := ak_ (bs_ (bb_ HB.out) hb); have n1_ := ak_ (hbox); have n2_ := ak_ ((by rw [hg]; exact (bz_ (bb_ HB.out)) : w.heap.size ≤ gb381)); have n3_ := n2_; clear HB; have HB := n0_; have BK381 := n1_; have GW381 := n2_; have GE381 := n3_; clear n0_ n1_ n2_ n3_; clear hb hbox hg; have hcz11_0 : w10.cell? ⟨gb381, 0, none⟩ = some (.slice A0_0 l0_0.length c0_0) := (blk_cell BK381.out 0).trans rfl; have hcz11_1 : w10.cell? ⟨gb381, 1, none⟩ = some (.slice A0_1 l0_1.length c0_1) := (blk_cell BK381.out 1).trans rfl; have hcz11_2 : w10.cell? ⟨gb381, 2, none⟩ = some (.int .i64 a0_2) := (blk_cell BK381.out 2).trans rfl; have hfz11_0 := blk_frozen BK381.out 0; have hfz11_1 := blk_frozen BK381.out 1; have hfz11_2 := blk_frozen BK381.out 2) | ((with_reducible refine gate_callee (f := 97) rfl ?_); refine goesL_ (some 5) rfl rfl Try.func97 (by kernel_rfl) rfl #[.slice A0_0 l0_0.length c0_0, .int .i64 1, .int .i64 500, .int .i64 1, .int .i64 7] rfl (by first | rfl | (simp only [map_toArray, map_cons, map_nil]; try rfl)) ?_; (with_reducible refine (impl_areIn.calls _ _ l0_0 1 500 1 7 true _ ?side1 ?side2 A2.out).mono ?_); (case side1 => repeat (first | exact (Kd.C_below HR0_0.out HB.out) | (with_reducible refine Kd.C_alloc ?_ _) | (with_reducible refine Kd.C_drewN ?_ _) | (with_reducible refine Kd.C_drew ?_))); (case side2 => exact HC0_0.out); rintro e w12 ⟨rfl, hb⟩; refine ⟨_, rfl, ?_⟩; have n0_ := ak_ (blk_below (pk BK381.out) hb); have n1_ := ak_ (bs_ bl_ hb); clear BK381; clear HB; have BK381 := n0_; have HB := n1_; clear n0_ n1_; (try clear hb); (try clear hb2); (try clear hk); (try clear hi); have hcz13_0 : w12.cell? ⟨gb381, 0, none⟩ = some (.slice A0_0 l0_0.length c0_0) := (blk_cell BK381.out 0).trans rfl; have hcz13_1 : w12.cell? ⟨gb381, 1, none⟩ = some (.slice A0_1 l0_1.length c0_1) := (blk_cell BK381.out 1).trans rfl; have hcz13_2 : w12.cell? ⟨gb381, 2, none⟩ = some (.int .i64 a0_2) := (blk_cell BK381.out 2).trans rfl; have hfz13_0 := blk_frozen BK381.out 0; have hfz13_1 := blk_frozen BK381.out 1; have hfz13_2 := blk_frozen BK381.out 2))
   go_ret
   exact ⟨rx_, by repeat (first | exact HB.out | apply ba_ | apply bN_ | apply b1_ | refine below_set ?_ GE381.out)⟩
 ·
  replace c3 := Bool.eq_false_iff.mpr c3
  subst c3
  have H1 : (some false) = some r := by rw [if_neg (show ¬ (false = true) by decide)] at H; exact H
  clear H
  have H := H1
  clear H1
  obtain rfl := Option.some.inj H
  go_enter Try.func57, Try.ntmps57
  go_wp2_with (first | ((with_reducible refine gate_dst (N := 1) rfl ?_); (try (refine gate_guard (by rfl) ?_; dsimp only)); refine bx_ 1 #[.slice A0_0 l0_0.length c0_0, .slice A0_1 l0_1.length c0_1, .int .i64 a0_2] 43 ?_; intro gb381 hg w14 hbox hb; have n0_ := ak_ (bs_ (bb_ HB.out) hb); have n1_ := ak_ (hbox); have n2_ := ak_ ((by rw [hg]; exact (bz_ (bb_ HB.out)) : w.heap.size ≤ gb381)); have n3_ := n2_; clear HB; have HB := n0_; have BK381 := n1_; have GW381 := n2_; have GE381 := n3_; clear n0_ n1_ n2_ n3_; clear hb hbox hg; have hcz15_0 : w14.cell? ⟨gb381, 0, none⟩ = some (.slice A0_0 l0_0.length c0_0) := (blk_cell BK381.out 0).trans rfl; have hcz15_1 : w14.cell? ⟨gb381, 1, none⟩ = some (.slice A0_1 l0_1.length c0_1) := (blk_cell BK381.out 1).trans rfl; have hcz15_2 : w14.cell? ⟨gb381, 2, none⟩ = some (.int .i64 a0_2) := (blk_cell BK381.out 2).trans rfl; have hfz15_0 := blk_frozen BK381.out 0; have hfz15_1 := blk_frozen BK381.out 1; have hfz15_2 := blk_frozen BK381.out 2) | ((with_reducible refine gate_callee (f := 97) rfl ?_); refine goesL_ (some 5) rfl rfl Try.func97 (by kernel_rfl) rfl #[.slice A0_0 l0_0.length c0_0, .int .i64 1, .int .i64 500, .int .i64 1, .int .i64 7] rfl (by first | rfl | (simp only [map_toArray, map_cons, map_nil]; try rfl)) ?_; (with_reducible refine (impl_areIn.calls _ _ l0_0 1 500 1 7 false _ ?side1 ?side2 A2.out).mono ?_); (case side1 => repeat (first | exact (Kd.C_below HR0_0.out HB.out) | (with_reducible refine Kd.C_alloc ?_ _) | (with_reducible refine Kd.C_drewN ?_ _) | (with_reducible refine Kd.C_drew ?_))); (case side2 => exact HC0_0.out); rintro e w16 ⟨rfl, hb⟩; refine ⟨_, rfl, ?_⟩; have n0_ := ak_ (blk_below (pk BK381.out) hb); have n1_ := ak_ (bs_ bl_ hb); clear BK381; clear HB; have BK381 := n0_; have HB := n1_; clear n0_ n1_; (try clear hb); (try clear hb2); (try clear hk); (try clear hi)))
  go_ret
  exact ⟨rx_, by repeat (first | exact HB.out | apply ba_ | apply bN_ | apply b1_ | refine below_set ?_ GE381.out)⟩
def slices_Index_bool_bool.l0 : Nat → List Bool → Bool → Int → Int → Option (Int)
 | 0, _, _, _, _ => none
 | k + 1, x0, x1, x7, x8 => if x8 < x7 then (if 0 ≤ x8 then (if x8 < (x0.length : Int) then (if (x1 == (rdOf false x0 x8)) = true then (some x8) else (slices_Index_bool_bool.l0 k x0 x1 x7 (wrap64 (x8 + 1)))) else (none)) else (none)) else (some (-1))
def slices_Index_bool_bool.f (k : Nat) (l0 : List Bool) (a1 : Bool) : Option (Int) := slices_Index_bool_bool.l0 k l0 a1 (l0.length : Int) 0
theorem slices_Index_bool_bool.calls (k : Nat) (A0 : Option Addr) (c0 : Nat) (l0 : List Bool) (a1 : Bool) (r : Int) (w : World) (hr0 : Kd.C Kd.bool w A0 l0.length l0) (hc0 : l0.length ≤ c0) (h : slices_Index_bool_bool.f k l0 a1 = some r) :
  Calls Try.prog 112 #[.slice A0 l0.length c0, .bool a1] w fun e w' => e = .returned (.int .i64 r) ∧ Drawn0 w w' := by
 have HR0 := ak_ hr0
 have HC0 := ak_ hc0
 clear hr0 hc0
 have H : (slices_Index_bool_bool.l0 k l0 a1 (l0.length : Int) 0) = some r := h
 clear h
 have H' := ak_ H
 clear H
 go_enter Try.func112, Try.ntmps112
 go_wp2
 go_loopg [8] k (fun kq v8 w' => ∃ (x8_1 : Int), v8 = .int .i64 x8_1 ∧ Aside0 (slices_Index_bool_bool.l0 kq l0 a1 (l0.length : Int) x8_1 = some r) ∧ Aside0 (kq ≤ k) ∧ Drawn0 w w')
 case atStart => exact ⟨(0), (ry_), H', ⟨Nat.le_refl _⟩, by repeat (first | exact Drawn0.refl _ | apply Drawn0.step)⟩
 case round =>
  clear H'
  try clear c1
  try clear p2
  obtain ⟨x8_1, rfl, HA, HK1, ⟨m1, rfl⟩⟩ := hrel
  cases gk with
  | zero => exact absurd HA.out (by simp [slices_Index_bool_bool.l0])
  | succ k1 =>
   have H := HA.out
   clear HA
   simp only [slices_Index_bool_bool.l0] at H
   by_cases c3 : x8_1 < (l0.length : Int)
   ·
    rw [if_pos c3] at H
    have c3b0 : decide (x8_1 < (l0.length : Int)) = true := decide_eq_true c3
    clear c3
    by_cases c4 : 0 ≤ x8_1
    ·
     rw [if_pos c4] at H
     have c4b0 : decide (0 ≤ x8_1) = true := decide_eq_true c4
     clear c4
     by_cases c5 : x8_1 < (l0.length : Int)
     ·
      rw [if_pos c5] at H
      have c5b0 : decide (x8_1 < (l0.length : Int)) = true := decide_eq_true c5
      clear c5
      by_cases c6 : (a1 == (rdOf false l0 x8_1)) = true
      ·
       rw [if_pos c6] at H
       have c6b0 : (a1 == (rdOf false l0 x8_1)) = true := c6
       (try (have c6b1 : decide (a1 = (rdOf false l0 x8_1)) = true := by simpa using c6))
       (try (have c6b2 : (a1 == (rdOf false l0 x8_1)) = true := by simpa using c6))
       clear c6
       obtain rfl := Option.some.inj H
       have p384 : 0 ≤ (x8_1 : Int) := odt_ (by assumption)
       have q384 : x8_1 < (l0.length : Int) := odt_ (by assumption)
       obtain ⟨ad384, e384, hx384_0⟩ := Kd.at_bool HR0.out x8_1 p384 q384
       cases e384
       replace p384 := eq_true p384
       replace q384 := eq_true q384
       go_wp2
       go_ret
       exact ⟨ry_, by repeat (first | exact Drawn0.refl _ | apply Drawn0.step)⟩
      ·
       rw [if_neg c6] at H
       have c6b0 : (a1 == (rdOf false l0 x8_1)) = false := by simpa using c6
       (try (have c6b1 : decide (a1 = (rdOf false l0 x8_1)) = false := by simpa using c6))
       (try (have c6b2 : (a1 == (rdOf false l0 x8_1)) = false := by simpa using c6))
       (try (have c6b3 : ¬ (a1 = (rdOf false l0 x8_1)) := by simpa using c6))
       clear c6
       have H' := ak_ H
       clear H
       have p384 : 0 ≤ (x8_1 : Int) := odt_ (by assumption)
       have q384 : x8_1 < (l0.length : Int) := odt_ (by assumption)
       obtain ⟨ad384, e384, hx384_0⟩ := Kd.at_bool HR0.out x8_1 p384 q384
       cases e384
       replace p384 := eq_true p384
       replace q384 := eq_true q384
       go_wp2
       go_roundg k1
       case measure => have := HK1.out; omega
       case rel => exact ⟨(wrap64 (x8_1 + 1)), (ry_), H', ⟨by have := HK1.out; omega⟩, by repeat (first | exact Drawn0.refl _ | apply Drawn0.step)⟩
     ·
      rw [if_neg c5] at H
      exact absurd H (by simp)
    ·
     rw [if_neg c4] at H
     exact absurd H (by simp)
   ·
    rw [if_neg c3] at H
    have c3b0 : decide (x8_1 < (l0.length : Int)) = false := decide_eq_false c3
    clear c3
    obtain rfl := Option.some.inj H
    go_wp2
    go_ret
    exact ⟨ry_, by repeat (first | exact Drawn0.refl _ | apply Drawn0.step)⟩
def slices_Contains_bool_bool.f (k : Nat) (l0 : List Bool) (a1 : Bool) : Option (Bool) := (slices_Index_bool_bool.f k l0 a1).bind fun t385 => (some (decide (t385 ≥ 0)))
theorem slices_Contains_bool_bool.calls (k : Nat) (A0 : Option Addr) (c0 : Nat) (l0 : List Bool) (a1 : Bool) (r : Bool) (w : World) (hr0 : Kd.C Kd.bool w A0 l0.length l0) (hc0 : l0.length ≤ c0) (h : slices_Contains_bool_bool.f k l0 a1 = some r) :
  Calls Try.prog 77 #[.slice A0 l0.length c0, .bool a1] w fun e w' => e = .returned (.bool r) ∧ Drawn0 w w' := by
 have HR0 := ak_ hr0
 have HC0 := ak_ hc0
 clear hr0 hc0
 have H : ((slices_Index_bool_bool.f k l0 a1).bind fun t385 => (some (decide (t385 ≥ 0)))) = some r := h
 clear h
 replace H := Option.bind_eq_some_iff.mp H
 obtain ⟨t385, A30, H⟩ := H
 replace H : (some (decide (t385 ≥ 0))) = some r := H
 have A3 := ak_ A30
 clear A30
 obtain rfl := Option.some.inj H
 go_enter Try.func77, Try.ntmps77
 go_wp2_with (first | ((with_reducible refine gate_callee (f := 112) rfl ?_); refine goesL_ (some 7) rfl rfl Try.func112 (by kernel_rfl) rfl #[.slice A0 l0.length c0, .bool a1] rfl (by first | rfl | (simp only [map_toArray, map_cons, map_nil]; try rfl)) ?_; (with_reducible refine (slices_Index_bool_bool.calls k _ _ l0 a1 t385 _ ?side1 ?side2 A3.out).mono ?_); (case side1 => repeat (first | exact HR0.out | (with_reducible refine Kd.C_alloc ?_ _) | (with_reducible refine Kd.C_drewN ?_ _) | (with_reducible refine Kd.C_drew ?_))); (case side2 => exact HC0.out); rintro e w' ⟨rfl, ⟨nd, rfl⟩⟩; refine ⟨_, rfl, ?_⟩))
 go_ret
 exact ⟨ry_, by repeat (first | exact Drawn0.refl _ | apply Drawn0.step)⟩
def slices_Clone_int_int_s.f (l0 : List Int) : Option (List Int) := (some (([] : List Int) : List Int)).bind fun y386 => (if y386.length + l0.length < 17592186044416 then (some (y386 ++ l0)) else (none))
theorem slices_Clone_int_int_s.calls (ad0 : Addr) (c0 : Nat) (l0 : List Int) (r : List Int) (w : World) (hr0 : Kd.C (Kd.int .i64) w (some ad0) l0.length l0) (hc0 : l0.length ≤ c0) (h : slices_Clone_int_int_s.f l0 = some r) :
  Calls Try.prog 149 #[.slice (some ad0) l0.length c0] w fun e w' => ∃ v0_ : Value, e = .returned (v0_) ∧ Kd.R (Kd.int .i64) 3 w' w.heap.size (fun _ => True) v0_ r ∧ Below w.heap.size w w' := by
 have HR0 := ak_ hr0
 have HC0 := ak_ hc0
 clear hr0 hc0
 have HB := ak_ (Below.refl w.heap.size w)
 have H : ((some (([] : List Int) : List Int)).bind fun y386 => (if y386.length + l0.length < 17592186044416 then (some (y386 ++ l0)) else (none))) = some r := h
 clear h
 obtain ⟨y386, hy386⟩ : ∃ y_ : List Int, y_ = (([] : List Int)) := ⟨_, rfl⟩
 replace H : (if y386.length + l0.length < 17592186044416 then (some (y386 ++ l0)) else (none)) = some r := by first | (rw [hy386]; exact H) | exact H
 have Ny386 := ak_ hy386
 clear hy386
 by_cases c2 : y386.length + l0.length < 17592186044416
 ·rw [if_pos c2] at H
  have LMc2 := ak_ c2
  clear c2
  obtain ⟨y389, hy389⟩ : ∃ y_ : List Int, y_ = (y386 ++ l0) := ⟨_, rfl⟩
  replace H : (some y389) = some r := by first | (rw [hy389]; exact H) | exact H
  have Ny389 := ak_ hy389
  clear hy389
  obtain rfl := Option.some.inj H
  have hnil := fun (W : World) (a : Option Addr) (n c : Nat) => Go.Lib.run_eql_slice_nil (P := Try.prog) W 29 3 a n c 0 0 Try.underlying29
  go_enter Try.func149, Try.ntmps149
  go_wp2_with (first | ((with_reducible refine gate_dst (N := 5) rfl ?_); refine Kd.R_lit (Kd.int .i64) _ 3 ?hg (N := 5) ?hd (xs := ([] : List Int)) (inner := []) (ok := fun _ => True) (okp := fun _ => True) ?hr ?hp (fun _ hk => hk) trivial (Below.refl _ _) (Nat.le_refl _) (by simp) ?_; (case hd => rfl); (case hg => rfl); (case hr => go_simp <;> rfl); (case hp => exact (Reps.none _ _)); intro v387 w3 ho4 hb hg_ hnew_; clear hg_ hnew_; (first | rw [← Ny386.out] at ho4 | (simp only [Int.reduceToNat] at ho4; rw [← Ny386.out] at ho4)); have n0_ := ak_ (Kd.R_lower ho4 (bz_ (bb_ HB.out))); have n1_ := ak_ (bs_ (bb_ HB.out) hb); clear HB; have HO388 := n0_; have HB := n1_; clear n0_ n1_; clear hb ho4) | ((with_reducible refine gate_builtin (b := .append) (xs := #[.tmp 5, .tmp 6]) rfl ?_); at_builtin; refine Kd.R_append_rows (Kd.int .i64) (w0 := w) w.heap.size rfl (.tmp 5) (.tmp 6) 29 3 (.int .i64 0) 8 rfl Try.underlying29 info3 rfl (by decide) (by omega) v387 y386 l0 _ _ _ (fun _ => True) (fun _ => False) rfl rfl ?aO ?aR (fun _ _ h => h) (fun _ h => h.elim) ?aF ?aB ?aS ?aL ?_; (case aR => repeat (first | exact (Kd.C_below HR0.out HB.out) | (with_reducible refine Kd.C_alloc ?_ _) | (with_reducible refine Kd.C_drewN ?_ _) | (with_reducible refine Kd.C_drew ?_))); (case aB => exact (bb_ HB.out)); (case aF => exact (fun _ _ => trivial)); (case aO => exact (Kd.pR HO388.out)); (case aS => exact (bz_ (bb_ HB.out))); (case aL => have := LMc2.out; omega); intro v390 w5 ho hb hg hat; rw [← Ny389.out] at ho; have n0_ := ak_ (hb); have n1_ := ak_ (ho); clear HB; clear HO388; have HB := n0_; have HO391 := n1_; clear n0_ n1_; clear ho hb hg hat))
  go_ret
  exact ⟨_, rx_, by (with_reducible repeat (first | apply Kd.R_alloc | apply Kd.R_drewN | apply Kd.R_drew)); exact HO391.out, bb_ HB.out⟩
 ·rw [if_neg c2] at H
  exact absurd H (by simp)
theorem slices_Clone_int_int_s.f_eq (l0 : List Int) : slices_Clone_int_int_s.f l0 = if l0.length < 17592186044416 then some l0 else none := by
 unfold slices_Clone_int_int_s.f
 simp
def slices_Clone_int_int.f (l0 : List Int) : Option (List Int) := if l0.length < 17592186044416 then some l0 else none
theorem slices_Clone_int_int.calls (A0 : Option Addr) (c0 : Nat) (l0 : List Int) (r : List Int) (w : World) (hr0 : Kd.C (Kd.int .i64) w A0 l0.length l0) (hc0 : l0.length ≤ c0) (h : slices_Clone_int_int.f l0 = some r) :
  Calls Try.prog 149 #[.slice A0 l0.length c0] w fun e w' => ∃ v0_ : Value, e = .returned (v0_) ∧ Kd.R (Kd.int .i64) 3 w' w.heap.size (fun _ => True) v0_ r ∧ Below w.heap.size w w' := by
 cases A0 with
 | some ad => exact slices_Clone_int_int_s.calls ad c0 l0 r w hr0 hc0 (by rw [slices_Clone_int_int_s.f_eq]; exact h)
 | none =>
  obtain rfl : l0 = [] := by
   cases l0 with
   | nil => rfl
   | cons x xs =>
    obtain ⟨ad, he, _⟩ := hr0.2.2 (by simp)
    exact absurd he (by simp)
  obtain rfl : [] = r := by
   unfold slices_Clone_int_int.f at h
   simpa using h
  clear hr0 h
  have hnil := fun (W : World) (a : Option Addr) (n c : Nat) => Go.Lib.run_eql_slice_nil (P := Try.prog) W 29 3 a n c 0 0 Try.underlying29
  go_enter Try.func149, Try.ntmps149
  go_wp2
  go_ret
  exact ⟨_, rfl, Kd.R_nil (Kd.int .i64) 3 w w.heap.size _, Below.refl _ _⟩
section
variable {P : Program} {ops : Array Oper} {Q : Exit → Act → World → Prop}
theorem run_store_fn_ (P : Program) (w : World) (a : Addr) (m : Mode) (fn : Fn) (f c : Array Value) : (store a (.func fn f c) m).run P w = stored P w a (.func fn f c) m := run_store P w a _ m rfl
end
attribute [local go_sem] run_store_fn_
def gOn {α : Type} (st : List Int → List α → Option (List α)) (most : Int) : List Int → List Int → List α → Option (List α)
 | [], _, acc => some acc
 | x :: P, l, acc => if (l.length : Int) < most then (st (l ++ [x]) acc).bind fun a1 => (gOn st most P (l ++ [x]) a1).bind fun a => gOn st most P l a else some acc
def GpFr (g : Nat) (v v' : Value) (W w' : World) : Prop := W.heap.size ≤ w'.heap.size ∧ (∀ k, k < W.heap.size → k ≠ g → some k ≠ v.ownBlock → w'.heap[k]? = W.heap[k]?) ∧ (v'.ownBlock = v.ownBlock ∨ ∀ b, v'.ownBlock = some b → W.heap.size ≤ b)
theorem GpFr.below {g : Nat} {v : Value} {W w' : World} (h : Below W.heap.size W w') : GpFr g v v W w' := ⟨h.size, fun k hk _ _ => h.block k hk, .inl rfl⟩
theorem GpFr.ne {g k : Nat} {v v' : Value} {W w' : World} (h : GpFr g v v' W w') (hk : k < W.heap.size) (hv : some k ≠ v.ownBlock) : some k ≠ v'.ownBlock := by
 rcases h.2.2 with e | e
 ·rw [e]; exact hv
 ·intro h2
  have := e k h2.symm
  omega
theorem GpFr.trans {g : Nat} {v v1 v2 : Value} {W w1 w2 : World} (h : GpFr g v v1 W w1) (h' : GpFr g v1 v2 w1 w2) : GpFr g v v2 W w2 := by
 refine ⟨Nat.le_trans h.1 h'.1, fun k hk hg hv => (h'.2.1 k (Nat.lt_of_lt_of_le hk h.1) hg (h.ne hk hv)).trans (h.2.1 k hk hg hv), ?_⟩
 rcases h'.2.2 with e | e
 ·rcases h.2.2 with e1 | e1
  ·exact .inl (e.trans e1)
  ·exact .inr (fun b hb => e1 b (by rw [← e]; exact hb))
 ·exact .inr (fun b hb => Nat.le_trans h.1 (e b hb))
theorem GpFr.at_ {g k : Nat} {v v' : Value} {W w' : World} (h : GpFr g v v' W w') (hk : k < W.heap.size) (hg : k ≠ g) (hv : some k ≠ v.ownBlock) : w'.heap[k]? = W.heap[k]? := h.2.1 k hk hg hv
theorem GpFr.row {g : Nat} {v v' : Value} {W w' : World} (h : GpFr g v v' W w') {base : Nat} {u : Value} {l : List Int} (hr : (Kd.int .i64).R 3 W base (fun k => k ≠ g ∧ some k ≠ v.ownBlock) u l) : (Kd.int .i64).R 3 w' base (fun k => k ≠ g ∧ some k ≠ v'.ownBlock) u l :=
 Kd.R_mono (Kd.R_move (Kd.R_bound hr) (fun k hk => h.2.1 k hk.2.2.1 hk.1.1 hk.1.2)) (fun k hk => ⟨hk.1.1, h.ne hk.2.2.1 hk.1.2⟩)
structure GpSt {α : Type} (d : Kd α) (e tv : Nat) (g : Nat) (w0 W : World) (v : Value) (ok : Nat → Prop) (acc : List α) : Prop where
 out : W.heap[g]? = some (.cells #[v] tv (0, 0))
 row : Kd.S d e W w0.heap.size ok v acc
 bel : Below w0.heap.size w0 W
 ge : w0.heap.size ≤ g
section
variable {α : Type} {d : Kd α} {e tv : Nat}
theorem GpSt.up {g : Nat} {w0 W w' : World} {v : Value} {ok : Nat → Prop} {acc : List α} (h : GpSt d e tv g w0 W v ok acc) (hb : Below W.heap.size W w') : GpSt d e tv g w0 w' v ok acc := ⟨blk_below h.out hb, Kd.S_below h.row hb, bs_ h.bel hb, h.ge⟩
theorem GpSt.any {g : Nat} {w0 W : World} {v : Value} {ok : Nat → Prop} {acc : List α} (h : GpSt d e tv g w0 W v ok acc) : GpSt d e tv g w0 W v (fun _ => True) acc := ⟨h.out, Kd.S_mono h.row (fun _ _ => trivial), h.bel, h.ge⟩
theorem GpSt.old {g : Nat} {w0 W : World} {v u : Value} {ok : Nat → Prop} {acc : List α} (h : GpSt d e tv g w0 W v ok acc) (hu : ∀ k, u.ownBlock = some k → W.heap.size ≤ k) : GpSt d e tv g w0 W v (fun k => some k ≠ u.ownBlock) acc :=
 ⟨h.out, Kd.S_mono (Kd.S_bound h.row) (fun k hk e => by have := hu k e.symm; have := hk.2.2.1; omega), h.bel, h.ge⟩
theorem GpSt.new {g : Nat} {w0 W w' : World} {v u : Value} {ok ok2 : Nat → Prop} {acc : List α} {l : List Int} {n : Nat} (h : GpSt d e tv g w0 W v ok acc) (hn : W.heap.size ≤ n) (hr : (Kd.int .i64).R 3 w' n ok2 u l) : (Kd.int .i64).R 3 w' n (fun k => k ≠ g ∧ some k ≠ v.ownBlock) u l :=
 Kd.R_mono (Kd.R_bound hr) (fun k hk => ⟨fun e_ => by have := blk_lt h.out; have := hk.2.1; omega, fun e_ => by have := Kd.S_lt h.row k e_.symm; have := hk.2.1; omega⟩)
end
theorem gp_row {W : World} {base : Nat} {ok : Nat → Prop} {v : Value} {l : List Int} (h : (Kd.int .i64).R 3 W base ok v l) : ∃ A c, v = .slice A l.length c ∧ l.length ≤ c ∧ (Kd.int .i64).C W A l.length l := by
 obtain ⟨A, c, rfl⟩ := Kd.R_slice h
 obtain ⟨_, h1, h2⟩ := Kd.R_reads' h
 exact ⟨A, c, rfl, h1, h2⟩
theorem gp_at {W : World} {base : Nat} {ok : Nat → Prop} {ad : Addr} {n c : Nat} {P : List Int} (h : (Kd.int .i64).R 3 W base ok (.slice (some ad) n c) P) (i : Int) (h0 : 0 ≤ i) (h1 : i < (P.length : Int)) : W.cell? (ad.add i.toNat) = some (.int .i64 (rd P i)) := by
 obtain ⟨ad', e, hc⟩ := Kd.at_int (Kd.R_reads' h).2.2 i h0 h1
 cases e
 exact hc
theorem gp_some {W : World} {base : Nat} {ok : Nat → Prop} {Ap : Option Addr} {n c : Nat} {P : List Int} (h : (Kd.int .i64).R 3 W base ok (.slice Ap n c) P) (h1 : 0 < P.length) : ∃ ad, Ap = some ad := by
 obtain ⟨ad', e, -⟩ := Kd.at_int (Kd.R_reads' h).2.2 0 (by omega) (by omega)
 exact ⟨ad', e⟩
def gpB (Bp Bm Be Bo : Nat) : Array Value := #[.pointer (some ⟨Bp, 0, none⟩), .pointer (some ⟨Bm, 0, none⟩), .pointer (some ⟨Be, 0, none⟩), .pointer (some ⟨Bo, 0, none⟩)]
structure GpX (g : Nat) (Bp Bm Be Bo : Nat) (vp : Value) (most : Int) (ne : Nat) (eb : Array Value) (W : World) (v : Value) : Prop where
 p : W.heap[Bp]? = some (.cells #[vp] 29 (0, 0))
 m : W.heap[Bm]? = some (.cells #[.int .i64 most] 3 (0, 0))
 e : W.heap[Be]? = some (.cells #[.func (.func ne) #[] eb] 137 (0, 0))
 o : W.heap[Bo]? = some (.cells #[.func (.func 148) #[] (gpB Bp Bm Be Bo)] 156 (0, 0))
 aw : ∀ k, (k = Bp ∨ k = Bm ∨ k = Be ∨ k = Bo) → k ≠ g ∧ some k ≠ v.ownBlock
theorem GpX.up {g Bp Bm Be Bo ne : Nat} {vp v : Value} {most : Int} {eb : Array Value} {W w' : World} (h : GpX g Bp Bm Be Bo vp most ne eb W v) (hb : Below W.heap.size W w') : GpX g Bp Bm Be Bo vp most ne eb w' v :=
 ⟨blk_below h.p hb, blk_below h.m hb, blk_below h.e hb, blk_below h.o hb, h.aw⟩
theorem GpX.fr {g Bp Bm Be Bo ne : Nat} {vp v v' : Value} {most : Int} {eb : Array Value} {W w' : World} (h : GpX g Bp Bm Be Bo vp most ne eb W v) (hf : GpFr g v v' W w') : GpX g Bp Bm Be Bo vp most ne eb w' v' := by
 have a1 := h.aw Bp (.inl rfl)
 have a2 := h.aw Bm (.inr (.inl rfl))
 have a3 := h.aw Be (.inr (.inr (.inl rfl)))
 have a4 := h.aw Bo (.inr (.inr (.inr rfl)))
 refine ⟨(hf.at_ (blk_lt h.p) a1.1 a1.2).trans h.p, (hf.at_ (blk_lt h.m) a2.1 a2.2).trans h.m, (hf.at_ (blk_lt h.e) a3.1 a3.2).trans h.e, (hf.at_ (blk_lt h.o) a4.1 a4.2).trans h.o, ?_⟩
 rintro k (rfl | rfl | rfl | rfl)
 ·exact ⟨a1.1, hf.ne (blk_lt h.p) a1.2⟩
 ·exact ⟨a2.1, hf.ne (blk_lt h.m) a2.2⟩
 ·exact ⟨a3.1, hf.ne (blk_lt h.e) a3.2⟩
 ·exact ⟨a4.1, hf.ne (blk_lt h.o) a4.2⟩
def GpEach {α : Type} (d : Kd α) (e tv : Nat) (st : List Int → List α → Option (List α)) (g ne : Nat) (eb : Array Value) (w0 : World) : Prop :=
 ∀ (W : World) (v vL : Value) (l : List Int) (acc a1 : List α), GpSt d e tv g w0 W v (fun k => some k ≠ vL.ownBlock) acc → (Kd.int .i64).R 3 W w0.heap.size (fun k => k ≠ g ∧ some k ≠ v.ownBlock) vL l → st l acc = some a1 →
  Calls Try.prog ne (#[vL] ++ eb) W fun e_ w' => e_ = .returned (.tuple #[]) ∧ ∃ v', GpSt d e tv g w0 w' v' (fun _ => True) a1 ∧ GpFr g v v' W w'
def impl_groups_1.T3 : Bool × List (List Nat × List Nat) := (true, [([], []), ([0], [0]), ([], []), ([], []), ([2, 3], [2, 3]), ([4], [4]), ([5], [5]), ([1, 6, 1], [1, 6]), ([7, 7, 0, 1, 2, 3, 4, 5, 6, 7], [7])])
def impl_groups_1.B3 : List Nat := [0, 1, 0, 0, 12, 28, 60, 127, 255]
theorem impl_groups_1.T3_ : rtab .any (opsOf Try.f148 3) = impl_groups_1.T3 := by kernel_rfl
theorem impl_groups_1.B3_ : waitsOk impl_groups_1.T3.2 impl_groups_1.B3 = true := by kernel_rfl
theorem gp_on {α : Type} (d0 : Kd α) (e0 tv : Nat) (st : List Int → List α → Option (List α)) (g ne : Nat) (eb : Array Value) (w0 : World) (Bp Bm Be Bo : Nat) (Ap : Option Addr) (cp : Nat) (P : List Int) (most : Int) (ee : ∀ args w, (callFunc ne args).run Try.prog w = .ok (.enter ne args) w) (hE : GpEach d0 e0 tv st g ne eb w0) (hP : P.length ≤ 100) (d : Nat)
  (hI : ∀ (d' : Nat) (i : Nat) (l : List Int) (vL v : Value) (acc acc' : List α) (W : World), d' < d → i + d' = P.length → l.length + d' ≤ 200 → GpSt d0 e0 tv g w0 W v (fun _ => True) acc → (Kd.int .i64).R 3 W w0.heap.size (fun k => k ≠ g ∧ some k ≠ v.ownBlock) vL l → (Kd.int .i64).R 3 W w0.heap.size (fun k => k ≠ g ∧ some k ≠ v.ownBlock) (.slice Ap P.length cp) P → GpX g Bp Bm Be Bo (.slice Ap P.length cp) most ne eb W v → gOn st most (P.drop i) l acc = some acc' →
   Calls Try.prog 148 (#[.int .i64 (i : Int), vL] ++ gpB Bp Bm Be Bo) W fun e w' => e = .returned (.tuple #[]) ∧ ∃ v', GpSt d0 e0 tv g w0 w' v' (fun _ => True) acc' ∧ GpFr g v v' W w')
  (i : Nat) (l : List Int) (vL v : Value) (acc acc' : List α) (W : World) (hi : i + d = P.length) (hl : l.length + d ≤ 200) (hst : GpSt d0 e0 tv g w0 W v (fun _ => True) acc) (hr : (Kd.int .i64).R 3 W w0.heap.size (fun k => k ≠ g ∧ some k ≠ v.ownBlock) vL l) (hp : (Kd.int .i64).R 3 W w0.heap.size (fun k => k ≠ g ∧ some k ≠ v.ownBlock) (.slice Ap P.length cp) P) (hx : GpX g Bp Bm Be Bo (.slice Ap P.length cp) most ne eb W v) (h : gOn st most (P.drop i) l acc = some acc') :
  Calls Try.prog 148 (#[.int .i64 (i : Int), vL] ++ gpB Bp Bm Be Bo) W fun e w' => e = .returned (.tuple #[]) ∧ ∃ v', GpSt d0 e0 tv g w0 w' v' (fun _ => True) acc' ∧ GpFr g v v' W w' := by
 obtain ⟨A0, c0, rfl, hle, -⟩ := gp_row hr
 have ST := ak_ hst
 have RL := ak_ hr
 have PL := ak_ hp
 have GX := ak_ hx
 have FR := ak_ (GpFr.below (g := g) (v := v) (Below.refl W.heap.size W))
 have HE := ak_ hE
 have HM := ak_ (And.intro hl (And.intro hP (And.intro hle hi)))
 have H := ak_ h
 have HCl2 := ak_ fun (W1 : World) (ok1 : Nat → Prop) (h1 : (Kd.int .i64).R 3 W1 w0.heap.size ok1 (.slice A0 l.length c0) l) => slices_Clone_int_int.calls A0 c0 l l W1 (Kd.R_reads' h1).2.2 hle (by unfold slices_Clone_int_int.f; rw [if_pos (by omega)])
 unfold gpB at hI ⊢
 simp only [List.append_toArray, List.cons_append, List.nil_append] at hI
 have HI := ak_ hI
 have HX := ak_ fun (W : World) (v : Value) (h : GpX g Bp Bm Be Bo (.slice Ap P.length cp) most ne eb W v) => (show W.heap[Bo]? = some (.cells #[.func (.func 148) #[] #[.pointer (some ⟨Bp, 0, none⟩), .pointer (some ⟨Bm, 0, none⟩), .pointer (some ⟨Be, 0, none⟩), .pointer (some ⟨Bo, 0, none⟩)]] 156 (0, 0)) from h.o)
 clear hi hl hst hr hp hx h hE hP hle hI
 go_enter Try.func148, Try.ntmps148
 go_wp2
 go_loopg [8] d (fun gg v8 wr => ∃ (j : Nat) (a1 : List α) (v1 : Value), v8 = .int .i64 (j : Int) ∧ i ≤ j ∧ j ≤ P.length ∧ P.length - j ≤ gg ∧ Aside0 (gOn st most (P.drop j) l a1 = some acc') ∧ Aside0 (GpSt d0 e0 tv g w0 wr v1 (fun _ => True) a1) ∧ Aside0 ((Kd.int .i64).R 3 wr w0.heap.size (fun k => k ≠ g ∧ some k ≠ v1.ownBlock) (.slice A0 l.length c0) l) ∧ Aside0 ((Kd.int .i64).R 3 wr w0.heap.size (fun k => k ≠ g ∧ some k ≠ v1.ownBlock) (.slice Ap P.length cp) P) ∧ Aside0 (GpX g Bp Bm Be Bo (.slice Ap P.length cp) most ne eb wr v1) ∧ Aside0 (GpFr g v v1 W wr))
 case atStart => exact ⟨i, acc, v, rfl, Nat.le_refl _, by have := HM.out; omega, by have := HM.out; omega, H, ⟨ST.out.up be_⟩, ⟨Kd.R_below RL.out be_⟩, ⟨Kd.R_below PL.out be_⟩, ⟨GX.out.up be_⟩, ⟨FR.out.trans (GpFr.below be_)⟩⟩
 case round =>
  clear H ST RL PL GX FR
  obtain ⟨j, a1, v1, rfl, hij, hjP, hg, H, ST, RL, PL, GX, FR⟩ := hrel
  have hp0 := (blk_cell GX.out.p 0)
  have hm0 := (blk_cell GX.out.m 0)
  simp at hp0
  simp at hm0
  by_cases hlt : j < P.length
  ·have q1 : decide ((j : Int) < (P.length : Int)) = true := decide_eq_true (by omega)
   have q1n : decide (j < P.length) = true := decide_eq_true hlt
   have q1p : (j < P.length) = True := eq_true hlt
   have h := H.out
   rw [drop_at_i64 hlt] at h
   simp only [gOn] at h
   by_cases hlm : (l.length : Int) < most
   ·have q2 : decide ((l.length : Int) < most) = true := decide_eq_true hlm
    rw [if_pos hlm] at h
    obtain ⟨ad, rfl⟩ := gp_some PL.out (by omega)
    obtain ⟨a0, h0, h⟩ := Option.bind_eq_some_iff.mp h
    obtain ⟨a2, h1, h2⟩ := Option.bind_eq_some_iff.mp h
    have HA := ak_ h0
    have H1 := ak_ h1
    have H2 := ak_ h2
    have hw : IntKind.i64.wrap ((j : Int) + 1) = ((j + 1 : Nat) : Int) := by rw [IntWalk.i64_in _ ⟨by omega, by have := HM.out; omega⟩]; omega
    have HN := ak_ (And.intro hlt (And.intro hg hij))
    have j0 : (0 : Int) ≤ (j : Int) := by omega
    have j1 : (j : Int) < (P.length : Int) := by omega
    have J0 := ak_ j0
    have J1 := ak_ j1
    have j0e := eq_true j0
    have j1e := eq_true j1
    obtain ⟨x, hxe⟩ : ∃ x, x = rd P (j : Int) := ⟨_, rfl⟩
    have HXE := ak_ hxe
    clear h h0 h1 h2 hlt hlm hg hij hjP j0 j1 hxe H
    go_upto_region 3 with (fail)
    clear hp0 hm0
    try go_wp2
    have n0_ := ak_ (ST.out.up (below_drew (Below.refl _ _)))
    have n1_ := ak_ (Kd.R_drew RL.out)
    have n2_ := ak_ (Kd.R_drew PL.out)
    have n3_ := ak_ (GX.out.up (below_drew (Below.refl _ _)))
    have n4_ := ak_ (FR.out.trans (GpFr.below (below_drew (Below.refl _ _))))
    clear ST RL PL GX FR
    have ST := n0_; have RL := n1_; have PL := n2_; have GX := n3_; have FR := n4_
    clear n0_ n1_ n2_ n3_ n4_
    refine start_ (n := 9) (S := fun w' => w'.cell? ⟨Bp, 0, none⟩ = some (.slice (some ad) P.length cp) ∧ w'.cell? (ad.add j) = some (.int .i64 x)) (ds := [8]) (mb_ 9 0) (by kernel_rfl) rfl rfl ⟨(blk_cell GX.out.p 0).trans rfl, by have h_ := gp_at PL.out (j : Int) J0.out J1.out; rw [Int.toNat_natCast, ← HXE.out] at h_; exact h_⟩ (fun hHeld => ?_); refine with_tabW impl_groups_1.T3_ impl_groups_1.B3_ (fun HT_ HW_ => ?_)
    generalize wr.drew = w9 at ST RL PL GX FR hHeld ⊢
    refine pu_ 0 23 9 1 ?_
    refine tk_ 2 25 9 5 ?_ (hy := by rintro w' ⟨s0, s1⟩; go_simp; with_reducible rfl)
    refine pu_ 3 26 9 13 ?_
    refine pu_ 4 27 9 29 ?_
    refine tk_ 5 28 9 61 ?_ (hy := by rintro w' ⟨s0, s1⟩; go_simp; with_reducible rfl)
    refine join_ (σ := Value × Value) 2 (mb_ 9 127) (fun s_ => [(24, s_.1), (29, s_.2)]) (fun s_ w' => (w'.cell? ⟨Bp, 0, none⟩ = some (.slice (some ad) P.length cp) ∧ w'.cell? (ad.add j) = some (.int .i64 x)) ∧ (Kd.int .i64).R 3 w' w9.heap.size (fun _ => True) s_.1 l ∧ (∃ A c, s_.2 = .slice A 1 c ∧ (Kd.int .i64).C w' A 1 [x]) ∧ Below w9.heap.size w9 w') ?_ ?_
    rotate_left
    ·intro hCont
     refine two_ (i := 1) (j := 6) (Ni := some 24) (Nj := some 29) (mb_ 9 63) (mb_ 9 125) rfl rfl rfl rfl (two_of HT_.out (by kernel_rfl)) (by decide) (by decide) (fun K hK => ?_) (fun K hK => ?_)
     ·refine goes_ Try.func149 (by kernel_rfl) rfl #[.slice A0 l.length c0] (by rfl) rfl rfl (by first | rfl | (simp only [map_toArray, map_cons, map_nil]; try rfl)) ?_
      refine (HCl2.out _ _ RL.out).mono ?_
      rintro e w5 ⟨s1, rfl, hR0, hb0⟩
      have hR := ak_ hR0
      have hb3 := ak_ hb0
      have hb1 := ak_ hb0
      clear hR0 hb0
      refine ⟨_, rfl, ?_⟩
      refine hK.out _ _ ⟨(blk_cell (GX.out.up hb1.out).p 0).trans rfl, by have h_ := gp_at (Kd.R_below PL.out hb1.out) (j : Int) J0.out J1.out; rw [Int.toNat_natCast, ← HXE.out] at h_; exact h_⟩ (fun hHeld => ?_)
      clear hK K
      refine nm_ ?_
      clear hb3
      refine on_ 6 29 9 127 (fun K hK => ?_)
      refine Kd.R_lit_step (Kd.int .i64) _ 3 ?hg (N := 29) ?hd (xs := [x]) (inner := [.int .i64 x]) (ok := fun _ => True) (okp := fun _ => True) ?hr ?hp (fun _ hk => hk) trivial (Below.refl _ _) (Nat.le_refl _) (by simp) ?_; (case hd => rfl); (case hg => rfl); (case hr => go_simp <;> rfl); (case hp => exact (Reps.one (show Kd.M (Kd.int .i64) _ _ _ x [.int .i64 x] from rfl) (Reps.none _ _)))
      intro s2 w6 ho0 hb0 hg_ hnew_
      clear hg_ hnew_
      have hO := ak_ ho0
      have hb3 := ak_ hb0
      have hb2 := ak_ (bs_ hb1.out hb0)
      clear ho0 hb0
      refine hK.out _ _ ⟨(blk_cell (GX.out.up hb2.out).p 0).trans rfl, by have h_ := gp_at (Kd.R_below PL.out hb2.out) (j : Int) J0.out J1.out; rw [Int.toNat_natCast, ← HXE.out] at h_; exact h_⟩ (fun hHeld => ?_)
      clear hK K
      refine nm_ ?_
      exact norm_ (by simp only [putAll, Act.put, setIfInBounds_toArray, set_cons_zero, set_cons_succ]) (hCont (s1, s2) _ ⟨hHeld, Kd.R_below hR.out hb3.out, (by obtain ⟨A2, c2, rfl⟩ := Kd.R_slice hO.out; exact ⟨A2, c2, rfl, (Kd.R_reads' hO.out).2.2⟩), hb2.out⟩)
     ·refine Kd.R_lit_step (Kd.int .i64) _ 3 ?hg (N := 29) ?hd (xs := [x]) (inner := [.int .i64 x]) (ok := fun _ => True) (okp := fun _ => True) ?hr ?hp (fun _ hk => hk) trivial (Below.refl _ _) (Nat.le_refl _) (by simp) ?_; (case hd => rfl); (case hg => rfl); (case hr => go_simp <;> rfl); (case hp => exact (Reps.one (show Kd.M (Kd.int .i64) _ _ _ x [.int .i64 x] from rfl) (Reps.none _ _)))
      intro s2 w5 ho0 hb0 hg_ hnew_
      clear hg_ hnew_
      have hO := ak_ ho0
      have hb3 := ak_ hb0
      have hb1 := ak_ hb0
      clear ho0 hb0
      refine hK.out _ _ ⟨(blk_cell (GX.out.up hb1.out).p 0).trans rfl, by have h_ := gp_at (Kd.R_below PL.out hb1.out) (j : Int) J0.out J1.out; rw [Int.toNat_natCast, ← HXE.out] at h_; exact h_⟩ (fun hHeld => ?_)
      clear hK K
      refine nm_ ?_
      clear hb3
      refine on_ 1 24 9 127 (fun K hK => ?_)
      refine goes_ Try.func149 (by kernel_rfl) rfl #[.slice A0 l.length c0] (by rfl) rfl rfl (by first | rfl | (simp only [map_toArray, map_cons, map_nil]; try rfl)) ?_
      refine (HCl2.out _ _ (Kd.R_below RL.out hb1.out)).mono ?_
      rintro e w6 ⟨s1, rfl, hR0, hb0⟩
      have hR := ak_ hR0
      have hb3 := ak_ hb0
      have hb2 := ak_ (bs_ hb1.out hb0)
      clear hR0 hb0
      refine ⟨_, rfl, ?_⟩
      refine hK.out _ _ ⟨(blk_cell (GX.out.up hb2.out).p 0).trans rfl, by have h_ := gp_at (Kd.R_below PL.out hb2.out) (j : Int) J0.out J1.out; rw [Int.toNat_natCast, ← HXE.out] at h_; exact h_⟩ (fun hHeld => ?_)
      clear hK K
      refine nm_ ?_
      exact norm_ (by simp only [putAll, Act.put, setIfInBounds_toArray, set_cons_zero, set_cons_succ]) (hCont (s1, s2) _ ⟨hHeld, Kd.R_lower hR.out hb1.out.size, (by obtain ⟨A2, c2, rfl⟩ := Kd.R_slice (Kd.R_below hO.out hb3.out); exact ⟨A2, c2, rfl, (Kd.R_reads' (Kd.R_below hO.out hb3.out)).2.2⟩), hb2.out⟩)
    rintro ⟨s1, s2⟩ w2 ⟨hHeld, h1_, ⟨A2, c2, h2_, h3_⟩, h4_⟩
    dsimp only at h1_ h2_
    subst h2_
    have hR := ak_ h1_
    have hL := ak_ h3_
    have hB := ak_ h4_
    clear h1_ h3_ h4_
    refine norm_ (a' := ?_) ?_ ?_
    rotate_left
    ·simp only [putAll, Act.put, setIfInBounds_toArray, set_cons_zero, set_cons_succ]
     rfl
    refine on_ 7 30 9 255 (fun K hK => ?_)
    refine Kd.R_append_rows_step (Kd.int .i64) (w0 := w9) w9.heap.size (by rfl) (.tmp 24) (.tmp 29) 29 3 (.int .i64 0) 8 rfl Try.underlying29 info3 rfl (by decide) (by omega) s1 l [x] A2 1 c2 (fun _ => True) (fun _ => False) rfl rfl ?aO ?aR (fun _ _ h => h) (fun _ h => h.elim) ?aF ?aB ?aS ?aL ?_
    (case aO => exact hR.out)
    (case aR => exact hL.out)
    (case aB => exact hB.out)
    (case aF => exact (fun _ _ => trivial))
    (case aS => exact hB.out.size)
    (case aL => have := HM.out; omega)
    intro v3 w3 ho hb hg_ hat_
    clear hg_ hat_ hR hL hB
    have n0_ := ak_ ((ST.out.old (u := v3) (Kd.R_base ho)).up hb)
    have n1_ := ak_ (Kd.R_below RL.out hb)
    have n2_ := ak_ (Kd.R_below PL.out hb)
    have n3_ := ak_ (GX.out.up hb)
    have n4_ := ak_ (FR.out.trans (GpFr.below hb))
    have HO := ak_ (Kd.R_lower (ST.out.new (Nat.le_refl _) ho) (bz_ ST.out.bel))
    clear ST RL PL GX FR ho hb
    have ST := n0_; have RL := n1_; have PL := n2_; have GX := n3_; have FR := n4_
    clear n0_ n1_ n2_ n3_ n4_
    refine hK.out _ _ ⟨(blk_cell GX.out.p 0).trans rfl, by have h_ := gp_at PL.out (j : Int) J0.out J1.out; rw [Int.toNat_natCast, ← HXE.out] at h_; exact h_⟩ (fun hHeld => ?_)
    clear hK K
    refine nm_ ?_
    refine pu_ 8 9 9 511 ?_
    refine done_ (done_of HT_.out (by kernel_rfl)) ?_
    have he0 := (blk_cell GX.out.e 0)
    simp at he0
    go_upto_region 5 with (go_at_fn ne; refine (HE.out _ v1 v3 (l ++ [x]) a1 a0 ST.out HO.out (by rw [HXE.out]; exact HA.out)).mono ?_; rintro e w8 ⟨rfl, v5, hst5, hfr5⟩; have n0_ := ak_ hst5; have n1_ := ak_ (hfr5.row RL.out); have n2_ := ak_ (hfr5.row PL.out); have n3_ := ak_ (GX.out.fr hfr5); have n4_ := ak_ (FR.out.trans hfr5); have n5_ := ak_ (hfr5.row HO.out); clear ST RL PL GX FR HO hst5 hfr5; have ST := n0_; have RL := n1_; have PL := n2_; have GX := n3_; have FR := n4_; have HO := n5_; clear n0_ n1_ n2_ n3_ n4_ n5_)
    clear he0
    have ho0 := (blk_cell (HX.out _ _ GX.out) 0)
    simp at ho0
    go_wp2_with (refine (HI.out (P.length - (j + 1)) (j + 1) (l ++ [x]) v3 v5 a0 a2 _ (by have := HN.out; have := HM.out; omega) (by have := HN.out; omega) (by have := HM.out; have := HN.out; rw [List.length_append, List.length_singleton]; omega) (ST.out.up be_) (Kd.R_below HO.out be_) (Kd.R_below PL.out be_) (GX.out.up be_) (by rw [HXE.out]; exact H1.out)).mono ?_; rintro e w9 ⟨rfl, v6, hst6, hfr6⟩; have n0_ := ak_ hst6; have n1_ := ak_ (hfr6.row (Kd.R_below RL.out be_)); have n2_ := ak_ (hfr6.row (Kd.R_below PL.out be_)); have n3_ := ak_ ((GX.out.up be_).fr hfr6); have n4_ := ak_ (FR.out.trans ((GpFr.below be_).trans hfr6)); clear ST RL PL GX FR HO hst6 hfr6; have ST := n0_; have RL := n1_; have PL := n2_; have GX := n3_; have FR := n4_; clear n0_ n1_ n2_ n3_ n4_)
    go_roundg (P.length - (j + 1))
    case measure => have := HN.out; omega
    case rel => exact ⟨j + 1, a2, v6, (ry_), by have := HN.out; omega, by have := HN.out; omega, Nat.le_refl _, H2, ⟨ST.out.up be_⟩, ⟨Kd.R_below RL.out be_⟩, ⟨Kd.R_below PL.out be_⟩, ⟨GX.out.up be_⟩, ⟨FR.out.trans (GpFr.below be_)⟩⟩
   ·have q2 : decide ((l.length : Int) < most) = false := decide_eq_false hlm
    rw [if_neg hlm] at h
    obtain rfl := Option.some.inj h
    clear h H hg hlm hlt hij hjP
    go_wp2
    go_end0
    first | exact ⟨rfl, ⟨v1, ST.out.up be_, FR.out.trans (GpFr.below be_)⟩⟩ | exact ⟨rfl, v1, ST.out.up be_, FR.out.trans (GpFr.below be_)⟩
  ·have q1 : decide ((j : Int) < (P.length : Int)) = false := decide_eq_false (by omega)
   have q1n : decide (j < P.length) = false := decide_eq_false hlt
   have q1p : (j < P.length) = False := eq_false hlt
   have h := H.out
   rw [List.drop_of_length_le (by omega)] at h
   obtain rfl := Option.some.inj (show some a1 = some acc' from h)
   clear h H hg hlt hij hjP
   go_wp2
   go_end0
   first | exact ⟨rfl, ⟨v1, ST.out.up be_, FR.out.trans (GpFr.below be_)⟩⟩ | exact ⟨rfl, v1, ST.out.up be_, FR.out.trans (GpFr.below be_)⟩
theorem gp_calls {α : Type} (d0 : Kd α) (e0 tv : Nat) (st : List Int → List α → Option (List α)) (g ne : Nat) (eb : Array Value) (w0 : World) (Bp Bm Be Bo : Nat) (Ap : Option Addr) (cp : Nat) (P : List Int) (most : Int) (ee : ∀ args w, (callFunc ne args).run Try.prog w = .ok (.enter ne args) w) (hE : GpEach d0 e0 tv st g ne eb w0) (hP : P.length ≤ 100) :
  ∀ (d : Nat) (i : Nat) (l : List Int) (vL v : Value) (acc acc' : List α) (W : World), i + d = P.length → l.length + d ≤ 200 → GpSt d0 e0 tv g w0 W v (fun _ => True) acc → (Kd.int .i64).R 3 W w0.heap.size (fun k => k ≠ g ∧ some k ≠ v.ownBlock) vL l → (Kd.int .i64).R 3 W w0.heap.size (fun k => k ≠ g ∧ some k ≠ v.ownBlock) (.slice Ap P.length cp) P → GpX g Bp Bm Be Bo (.slice Ap P.length cp) most ne eb W v → gOn st most (P.drop i) l acc = some acc' →
   Calls Try.prog 148 (#[.int .i64 (i : Int), vL] ++ gpB Bp Bm Be Bo) W fun e w' => e = .returned (.tuple #[]) ∧ ∃ v', GpSt d0 e0 tv g w0 w' v' (fun _ => True) acc' ∧ GpFr g v v' W w' := by
 intro d
 induction d using Nat.strongRecOn with
 | _ d ih => exact fun i l vL v acc acc' W h1 h2 h3 h4 h5 h6 h7 => gp_on d0 e0 tv st g ne eb w0 Bp Bm Be Bo Ap cp P most ee hE hP d (fun d' i l vL v acc acc' W hd k1 k2 k3 k4 k5 k6 k7 => ih d' hd i l vL v acc acc' W k1 k2 k3 k4 k5 k6 k7) i l vL v acc acc' W h1 h2 h3 h4 h5 h6 h7
theorem groups_calls {α : Type} (d0 : Kd α) (e0 tv : Nat) (st : List Int → List α → Option (List α)) (g ne : Nat) (eb : Array Value) (w0 : World) (Ap : Option Addr) (cp : Nat) (P : List Int) (most : Int) (ee : ∀ args w, (callFunc ne args).run Try.prog w = .ok (.enter ne args) w) (hE : GpEach d0 e0 tv st g ne eb w0) (hP : P.length ≤ 100)
  (v : Value) {acc0 : List α} (acc' : List α) (W : World) (hst : GpSt d0 e0 tv g w0 W v (fun _ => True) acc0) (hp : (Kd.int .i64).R 3 W w0.heap.size (fun k => k ≠ g ∧ some k ≠ v.ownBlock) (.slice Ap P.length cp) P) (h : gOn st most P [] acc0 = some acc') :
  Calls Try.prog 113 #[.slice Ap P.length cp, .int .i64 most, .func (.func ne) #[] eb] W fun e w' => e = .returned (.tuple #[]) ∧ ∃ v', GpSt d0 e0 tv g w0 w' v' (fun _ => True) acc' ∧ GpFr g v v' W w' := by
 have ST := ak_ hst
 have FR := ak_ (Below.refl W.heap.size W)
 have VB := ak_ fun k (hk : v.ownBlock = some k) => (show k < W.heap.size by obtain ⟨cells, hc⟩ := Kd.S_typed hst.row k hk; exact blk_lt hc)
 have HO := ak_ fun (W1 : World) (hb : Below W.heap.size W W1) (Bp Bm Be Bo : Nat) (hx : GpX g Bp Bm Be Bo (.slice Ap P.length cp) most ne eb W1 v) =>
  gp_calls d0 e0 tv st g ne eb w0 Bp Bm Be Bo Ap cp P most ee hE hP P.length 0 [] (.slice none 0 0) v acc0 acc' W1 (by omega) (by simp; omega) (hst.up hb) (Kd.R_nil _ _ _ _ _) (Kd.R_below hp hb) hx (by rw [List.drop_zero]; exact h)
 clear hst hp hE h hP
 unfold gpB at HO
 go_enter Try.func113, Try.ntmps113
 go_upto_region 3 with (first | ((with_reducible refine gate_dst (N := 3) rfl ?_); refine bx_ 3 #[.slice Ap P.length cp] 29 ?_; intro gb3 hg w3 hbox hb; have nb_ := ak_ (bs_ (by repeat (first | (with_reducible first | exact FR.out | apply ba_ | apply bN_ | apply b1_) | exact FR.out)) hb); have nc_ := ak_ hbox; have nd_ := ak_ ((by rw [hg]; exact (bz_ (by repeat (first | (with_reducible first | exact FR.out | apply ba_ | apply bN_ | apply b1_) | exact FR.out))) : W.heap.size ≤ gb3)); clear FR hb hbox hg; have FR := nb_; have BK3 := nc_; have GE3 := nd_; clear nb_ nc_ nd_; have hz3_0 := (blk_cell BK3.out 0); have hf3_0 := (blk_frozen BK3.out 0); simp at hz3_0; skip) | ((with_reducible refine gate_dst (N := 4) rfl ?_); refine bx_ 4 #[.int .i64 most] 3 ?_; intro gb4 hg w4 hbox hb; have n0_ := ak_ (blk_below (pk BK3.out) hb); have m0_ := ak_ ((by rw [hg]; exact Nat.ne_of_lt (blk_lt (pk BK3.out)) : gb3 ≠ gb4)); have nb_ := ak_ (bs_ (by repeat (first | (with_reducible first | exact FR.out | apply ba_ | apply bN_ | apply b1_) | exact FR.out)) hb); have nc_ := ak_ hbox; have nd_ := ak_ ((by rw [hg]; exact (bz_ (by repeat (first | (with_reducible first | exact FR.out | apply ba_ | apply bN_ | apply b1_) | exact FR.out))) : W.heap.size ≤ gb4)); clear FR hb hbox hg; clear BK3; have BK3 := n0_; have NE3_4 := m0_; have FR := nb_; have BK4 := nc_; have GE4 := nd_; clear nb_ nc_ nd_ n0_ m0_; have hz4_0 := (blk_cell BK4.out 0); have hf4_0 := (blk_frozen BK4.out 0); simp at hz4_0; skip) | ((with_reducible refine gate_dst (N := 5) rfl ?_); refine box_event ?hg (N := 5) ?hd (cs := #[.func (.func ne) #[] eb]) (t := 137) ?hr ?_; (case hd => rfl); (case hg => rfl); (case hr => go_simp <;> rfl); intro gb5 hg w5 hbox hb; have n0_ := ak_ (blk_below (pk BK3.out) hb); have m0_ := ak_ ((by rw [hg]; exact Nat.ne_of_lt (blk_lt (pk BK3.out)) : gb3 ≠ gb5)); have n1_ := ak_ (blk_below (pk BK4.out) hb); have m1_ := ak_ ((by rw [hg]; exact Nat.ne_of_lt (blk_lt (pk BK4.out)) : gb4 ≠ gb5)); have nb_ := ak_ (bs_ (by repeat (first | (with_reducible first | exact FR.out | apply ba_ | apply bN_ | apply b1_) | exact FR.out)) hb); have nc_ := ak_ hbox; have nd_ := ak_ ((by rw [hg]; exact (bz_ (by repeat (first | (with_reducible first | exact FR.out | apply ba_ | apply bN_ | apply b1_) | exact FR.out))) : W.heap.size ≤ gb5)); clear FR hb hbox hg; clear BK3 BK4; have BK3 := n0_; have NE3_5 := m0_; have BK4 := n1_; have NE4_5 := m1_; have FR := nb_; have BK5 := nc_; have GE5 := nd_; clear nb_ nc_ nd_ n0_ m0_ n1_ m1_; have hz5_0 := (blk_cell BK5.out 0); have hf5_0 := (blk_frozen BK5.out 0); simp at hz5_0; skip) | ((with_reducible refine gate_dst (N := 6) rfl ?_); refine bx_ 6 #[.nilFunc] 156 ?_; intro gb6 hg w6 hbox hb; have n0_ := ak_ (blk_below (pk BK3.out) hb); have m0_ := ak_ ((by rw [hg]; exact Nat.ne_of_lt (blk_lt (pk BK3.out)) : gb3 ≠ gb6)); have n1_ := ak_ (blk_below (pk BK4.out) hb); have m1_ := ak_ ((by rw [hg]; exact Nat.ne_of_lt (blk_lt (pk BK4.out)) : gb4 ≠ gb6)); have n2_ := ak_ (blk_below (pk BK5.out) hb); have m2_ := ak_ ((by rw [hg]; exact Nat.ne_of_lt (blk_lt (pk BK5.out)) : gb5 ≠ gb6)); have nb_ := ak_ (bs_ (by repeat (first | (with_reducible first | exact FR.out | apply ba_ | apply bN_ | apply b1_) | exact FR.out)) hb); have nc_ := ak_ hbox; have nd_ := ak_ ((by rw [hg]; exact (bz_ (by repeat (first | (with_reducible first | exact FR.out | apply ba_ | apply bN_ | apply b1_) | exact FR.out))) : W.heap.size ≤ gb6)); clear FR hb hbox hg; clear BK3 BK4 BK5; have BK3 := n0_; have NE3_6 := m0_; have BK4 := n1_; have NE4_6 := m1_; have BK5 := n2_; have NE5_6 := m2_; have FR := nb_; have BK6 := nc_; have GE6 := nd_; clear nb_ nc_ nd_ n0_ m0_ n1_ m1_ n2_ m2_; have hz6_0 := (blk_cell BK6.out 0); have hf6_0 := (blk_frozen BK6.out 0); simp at hz6_0; skip))
 have N1 := ak_ (blk_far (p := ⟨gb6, 0, none⟩) BK3.out NE3_6.out (.func (.func 148) #[] #[.pointer (some ⟨gb3, 0, none⟩), .pointer (some ⟨gb4, 0, none⟩), .pointer (some ⟨gb5, 0, none⟩), .pointer (some ⟨gb6, 0, none⟩)]))
 have N2 := ak_ (blk_far (p := ⟨gb6, 0, none⟩) BK4.out NE4_6.out (.func (.func 148) #[] #[.pointer (some ⟨gb3, 0, none⟩), .pointer (some ⟨gb4, 0, none⟩), .pointer (some ⟨gb5, 0, none⟩), .pointer (some ⟨gb6, 0, none⟩)]))
 have N3 := ak_ (blk_far (p := ⟨gb6, 0, none⟩) BK5.out NE5_6.out (.func (.func 148) #[] #[.pointer (some ⟨gb3, 0, none⟩), .pointer (some ⟨gb4, 0, none⟩), .pointer (some ⟨gb5, 0, none⟩), .pointer (some ⟨gb6, 0, none⟩)]))
 have N4 := ak_ (blk_put (cs' := #[.func (.func 148) #[] #[.pointer (some ⟨gb3, 0, none⟩), .pointer (some ⟨gb4, 0, none⟩), .pointer (some ⟨gb5, 0, none⟩), .pointer (some ⟨gb6, 0, none⟩)]]) BK6.out 0 (.func (.func 148) #[] #[.pointer (some ⟨gb3, 0, none⟩), .pointer (some ⟨gb4, 0, none⟩), .pointer (some ⟨gb5, 0, none⟩), .pointer (some ⟨gb6, 0, none⟩)]) rfl)
 have N5 := ak_ (below_set (v := .func (.func 148) #[] #[.pointer (some ⟨gb3, 0, none⟩), .pointer (some ⟨gb4, 0, none⟩), .pointer (some ⟨gb5, 0, none⟩), .pointer (some ⟨gb6, 0, none⟩)]) (j := 0) FR.out GE6.out)
 generalize hW5 : w6.setCell ⟨gb6, 0, none⟩ _ = W5 at N1 N2 N3 N4 N5 ⊢
 have hc0 := (blk_cell N4.out 0)
 simp at hc0
 have hx := HO.out W5 N5.out gb3 gb4 gb5 gb6 ⟨N1.out, N2.out, N3.out, N4.out, by
  have hlt_ := blk_lt ST.out.out
  rintro k (rfl | rfl | rfl | rfl)
  ·exact ⟨by have := GE3.out; omega, fun e => by have := VB.out _ e.symm; have := GE3.out; omega⟩
  ·exact ⟨by have := GE4.out; omega, fun e => by have := VB.out _ e.symm; have := GE4.out; omega⟩
  ·exact ⟨by have := GE5.out; omega, fun e => by have := VB.out _ e.symm; have := GE5.out; omega⟩
  ·exact ⟨by have := GE6.out; omega, fun e => by have := VB.out _ e.symm; have := GE6.out; omega⟩⟩
 simp only [List.append_toArray, List.cons_append, List.nil_append] at hx
 have HX := ak_ hx
 clear hx hW5 HO BK3 BK4 BK5 BK6 N1 N2 N3 N4
 go_wp2_with (refine HX.out.mono ?_; rintro e w8 ⟨rfl, v', h1, h2⟩; have H1 := ak_ h1; have H2 := ak_ h2; clear h1 h2)
 go_end0
 exact ⟨rfl, v', H1.out, (GpFr.below N5.out).trans H2.out⟩
end Go.Proofs.Ythkchdfkeieabaa.QGr
