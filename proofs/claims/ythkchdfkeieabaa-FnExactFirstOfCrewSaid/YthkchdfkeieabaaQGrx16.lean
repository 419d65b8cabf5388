/- Contracts of functions of the given program, walked: each call returns what its Lean function says. Conditions: those that stand at each theorem. (Written by a program of this session.) -/
import Derived.Test.YthkchdfkeieabaaQGrx0
import Derived.Test.YthkchdfkeieabaaQGrx12
import Derived.Test.YthkchdfkeieabaaQGrx13
import Derived.Test.YthkchdfkeieabaaQGrx15
namespace Go.Proofs.Ythkchdfkeieabaa.QGr
open Go.RowKit Go.Proofs.YthkchdfkeieabaaW.PrintWords Go.Proofs.YthkchdfkeieabaaW.PrintLast Go.Proofs.YthkchdfkeieabaaW.PrintMore
open List (setIfInBounds_toArray set_cons_zero set_cons_succ map_toArray map_cons map_nil)
attribute [local go_sem] max2_int min2_int max_two min_two max_three min_three max_four min_four
set_option linter.unusedVariables false
set_option maxHeartbeats 8000000
set_option maxRecDepth 100000
set_option linter.unusedSimpArgs false
section
variable {P : Program} {ops : Array Oper} {Q : Exit → Act → World → Prop}
theorem run_store_fn_ (P : Program) (w : World) (a : Addr) (m : Mode) (fn : Fn) (f c : Array Value) : (store a (.func fn f c) m).run P w = stored P w a (.func fn f c) m := run_store P w a _ m rfl
end
attribute [local go_sem] run_store_fn_
def gOn {α : Type} (st : List Int → List α → Option (List α)) (most : Int) : List Int → List Int → List α → Option (List α)
 | [], _, acc => some acc
 | x :: P, l, acc => if (l.length : Int) < most then (st (l ++ [x]) acc).bind fun a1 => (gOn st most P (l ++ [x]) a1).bind fun a => gOn st most P l a else some acc
def GpFr (g : Nat) (v v' : Value) (W w' : World) : Prop := W.heap.size ≤ w'.heap.size ∧ (∀ k, k < W.heap.size → k ≠ g → some k ≠ v.ownBlock → w'.heap[k]? = W.heap[k]?) ∧ (v'.ownBlock = v.ownBlock ∨ ∀ b, v'.ownBlock = some b → W.heap.size ≤ b)
theorem GpFr.below {g : Nat} {v : Value} {W w' : World} (h : Below W.heap.size W w') : GpFr g v v W w' := ⟨h.size, fun k hk _ _ => h.block k hk, .inl rfl⟩
theorem GpFr.ne {g k : Nat} {v v' : Value} {W w' : World} (h : GpFr g v v' W w') (hk : k < W.heap.size) (hv : some k ≠ v.ownBlock) : some k ≠ v'.ownBlock := by
 rcases h.2.2 with e | e
 ·rw [e]; exact hv
 ·intro h2
  have := e k h2.symm
  omega
theorem GpFr.trans {g : Nat} {v v1 v2 : Value} {W w1 w2 : World} (h : GpFr g v v1 W w1) (h' : GpFr g v1 v2 w1 w2) : GpFr g v v2 W w2 := by
 refine ⟨Nat.le_trans h.1 h'.1, fun k hk hg hv => (h'.2.1 k (Nat.lt_of_lt_of_le hk h.1) hg (h.ne hk hv)).trans (h.2.1 k hk hg hv), ?_⟩
 rcases h'.2.2 with e | e
 ·rcases h.2.2 with e1 | e1
  ·exact .inl (e.trans e1)
  ·exact .inr (fun b hb => e1 b (by rw [← e]; exact hb))
 ·exact .inr (fun b hb => Nat.le_trans h.1 (e b hb))
theorem GpFr.at_ {g k : Nat} {v v' : Value} {W w' : World} (h : GpFr g v v' W w') (hk : k < W.heap.size) (hg : k ≠ g) (hv : some k ≠ v.ownBlock) : w'.heap[k]? = W.heap[k]? := h.2.1 k hk hg hv
theorem GpFr.row {g : Nat} {v v' : Value} {W w' : World} (h : GpFr g v v' W w') {base : Nat} {u : Value} {l : List Int} (hr : (Kd.int .i64).R 3 W base (fun k => k ≠ g ∧ some k ≠ v.ownBlock) u l) : (Kd.int .i64).R 3 w' base (fun k => k ≠ g ∧ some k ≠ v'.ownBlock) u l :=
 Kd.R_mono (Kd.R_move (Kd.R_bound hr) (fun k hk => h.2.1 k hk.2.2.1 hk.1.1 hk.1.2)) (fun k hk => ⟨hk.1.1, h.ne hk.2.2.1 hk.1.2⟩)
structure GpSt {α : Type} (d : Kd α) (e tv : Nat) (g : Nat) (w0 W : World) (v : Value) (ok : Nat → Prop) (acc : List α) : Prop where
 out : W.heap[g]? = some (.cells #[v] tv (0, 0))
 row : Kd.S d e W w0.heap.size ok v acc
 bel : Below w0.heap.size w0 W
 ge : w0.heap.size ≤ g
section
variable {α : Type} {d : Kd α} {e tv : Nat}
theorem GpSt.up {g : Nat} {w0 W w' : World} {v : Value} {ok : Nat → Prop} {acc : List α} (h : GpSt d e tv g w0 W v ok acc) (hb : Below W.heap.size W w') : GpSt d e tv g w0 w' v ok acc := ⟨blk_below h.out hb, Kd.S_below h.row hb, bs_ h.bel hb, h.ge⟩
theorem GpSt.any {g : Nat} {w0 W : World} {v : Value} {ok : Nat → Prop} {acc : List α} (h : GpSt d e tv g w0 W v ok acc) : GpSt d e tv g w0 W v (fun _ => True) acc := ⟨h.out, Kd.S_mono h.row (fun _ _ => trivial), h.bel, h.ge⟩
theorem GpSt.old {g : Nat} {w0 W : World} {v u : Value} {ok : Nat → Prop} {acc : List α} (h : GpSt d e tv g w0 W v ok acc) (hu : ∀ k, u.ownBlock = some k → W.heap.size ≤ k) : GpSt d e tv g w0 W v (fun k => some k ≠ u.ownBlock) acc :=
 ⟨h.out, Kd.S_mono (Kd.S_bound h.row) (fun k hk e => by have := hu k e.symm; have := hk.2.2.1; omega), h.bel, h.ge⟩
theorem GpSt.new {g : Nat} {w0 W w' : World} {v u : Value} {ok ok2 : Nat → Prop} {acc : List α} {l : List Int} {n : Nat} (h : GpSt d e tv g w0 W v ok acc) (hn : W.heap.size ≤ n) (hr : (Kd.int .i64).R 3 w' n ok2 u l) : (Kd.int .i64).R 3 w' n (fun k => k ≠ g ∧ some k ≠ v.ownBlock) u l :=
 Kd.R_mono (Kd.R_bound hr) (fun k hk => ⟨fun e_ => by have := blk_lt h.out; have := hk.2.1; omega, fun e_ => by have := Kd.S_lt h.row k e_.symm; have := hk.2.1; omega⟩)
end
theorem gp_row {W : World} {base : Nat} {ok : Nat → Prop} {v : Value} {l : List Int} (h : (Kd.int .i64).R 3 W base ok v l) : ∃ A c, v = .slice A l.length c ∧ l.length ≤ c ∧ (Kd.int .i64).C W A l.length l := by
 obtain ⟨A, c, rfl⟩ := Kd.R_slice h
 obtain ⟨_, h1, h2⟩ := Kd.R_reads' h
 exact ⟨A, c, rfl, h1, h2⟩
theorem gp_at {W : World} {base : Nat} {ok : Nat → Prop} {ad : Addr} {n c : Nat} {P : List Int} (h : (Kd.int .i64).R 3 W base ok (.slice (some ad) n c) P) (i : Int) (h0 : 0 ≤ i) (h1 : i < (P.length : Int)) : W.cell? (ad.add i.toNat) = some (.int .i64 (rd P i)) := by
 obtain ⟨ad', e, hc⟩ := Kd.at_int (Kd.R_reads' h).2.2 i h0 h1
 cases e
 exact hc
theorem gp_some {W : World} {base : Nat} {ok : Nat → Prop} {Ap : Option Addr} {n c : Nat} {P : List Int} (h : (Kd.int .i64).R 3 W base ok (.slice Ap n c) P) (h1 : 0 < P.length) : ∃ ad, Ap = some ad := by
 obtain ⟨ad', e, -⟩ := Kd.at_int (Kd.R_reads' h).2.2 0 (by omega) (by omega)
 exact ⟨ad', e⟩
def gpB (Bp Bm Be Bo : Nat) : Array Value := #[.pointer (some ⟨Bp, 0, none⟩), .pointer (some ⟨Bm, 0, none⟩), .pointer (some ⟨Be, 0, none⟩), .pointer (some ⟨Bo, 0, none⟩)]
structure GpX (g : Nat) (Bp Bm Be Bo : Nat) (vp : Value) (most : Int) (ne : Nat) (eb : Array Value) (W : World) (v : Value) : Prop where
 p : W.heap[Bp]? = some (.cells #[vp] 29 (0, 0))
 m : W.heap[Bm]? = some (.cells #[.int .i64 most] 3 (0, 0))
 e : W.heap[Be]? = some (.cells #[.func (.func ne) #[] eb] 137 (0, 0))
 o : W.heap[Bo]? = some (.cells #[.func (.func 148) #[] (gpB Bp Bm Be Bo)] 156 (0, 0))
 aw : ∀ k, (k = Bp ∨ k = Bm ∨ k = Be ∨ k = Bo) → k ≠ g ∧ some k ≠ v.ownBlock
theorem GpX.up {g Bp Bm Be Bo ne : Nat} {vp v : Value} {most : Int} {eb : Array Value} {W w' : World} (h : GpX g Bp Bm Be Bo vp most ne eb W v) (hb : Below W.heap.size W w') : GpX g Bp Bm Be Bo vp most ne eb w' v :=
 ⟨blk_below h.p hb, blk_below h.m hb, blk_below h.e hb, blk_below h.o hb, h.aw⟩
theorem GpX.fr {g Bp Bm Be Bo ne : Nat} {vp v v' : Value} {most : Int} {eb : Array Value} {W w' : World} (h : GpX g Bp Bm Be Bo vp most ne eb W v) (hf : GpFr g v v' W w') : GpX g Bp Bm Be Bo vp most ne eb w' v' := by
 have a1 := h.aw Bp (.inl rfl)
 have a2 := h.aw Bm (.inr (.inl rfl))
 have a3 := h.aw Be (.inr (.inr (.inl rfl)))
 have a4 := h.aw Bo (.inr (.inr (.inr rfl)))
 refine ⟨(hf.at_ (blk_lt h.p) a1.1 a1.2).trans h.p, (hf.at_ (blk_lt h.m) a2.1 a2.2).trans h.m, (hf.at_ (blk_lt h.e) a3.1 a3.2).trans h.e, (hf.at_ (blk_lt h.o) a4.1 a4.2).trans h.o, ?_⟩
 rintro k (rfl | rfl | rfl | rfl)
 ·exact ⟨a1.1, hf.ne (blk_lt h.p) a1.2⟩
 ·exact ⟨a2.1, hf.ne (blk_lt h.m) a2.2⟩
 ·exact ⟨a3.1, hf.ne (blk_lt h.e) a3.2⟩
 ·exact ⟨a4.1, hf.ne (blk_lt h.o) a4.2⟩
def GpEach {α : Type} (d : Kd α) (e tv : Nat) (st : List Int → List α → Option (List α)) (g ne : Nat) (eb : Array Value) (w0 : World) : Prop :=
 ∀ (W : World) (v vL : Value) (l : List Int) (acc a1 : List α), GpSt d e tv g w0 W v (fun k => some k ≠ vL.ownBlock) acc → (Kd.int .i64).R 3 W w0.heap.size (fun k => k ≠ g ∧ some k ≠ v.ownBlock) vL l → st l acc = some a1 →
  Calls Try.prog ne (#[vL] ++ eb) W fun e_ w' => e_ = .returned (.tuple #[]) ∧ ∃ v', GpSt d e tv g w0 w' v' (fun _ => True) a1 ∧ GpFr g v v' W w'
def impl_groups_1.T3 : Bool × List (List Nat × List Nat) := (true, [([], []), ([0], [0]), ([], []), ([], []), ([2, 3], [2, 3]), ([4], [4]), ([5], [5]), ([1, 6, 1], [1, 6]), ([7, 7, 0, 1, 2, 3, 4, 5, 6, 7], [7])])
def impl_groups_1.B3 : List Nat := [0, 1, 0, 0, 12, 28, 60, 127, 255]
theorem impl_groups_1.T3_ : rtab .any (opsOf Try.f148 3) = impl_groups_1.T3 := by kernel_rfl
theorem impl_groups_1.B3_ : waitsOk impl_groups_1.T3.2 impl_groups_1.B3 = true := by kernel_rfl
theorem gp_on {α : Type} (d0 : Kd α) (e0 tv : Nat) (st : List Int → List α → Option (List α)) (g ne : Nat) (eb : Array Value) (w0 : World) (Bp Bm Be Bo : Nat) (Ap : Option Addr) (cp : Nat) (P : List Int) (most : Int) (ee : ∀ args w, (callFunc ne args).run Try.prog w = .ok (.enter ne args) w) (hE : GpEach d0 e0 tv st g ne eb w0) (hP : P.length ≤ 100) (d : Nat)
  (hI : ∀ (d' : Nat) (i : Nat) (l : List Int) (vL v : Value) (acc acc' : List α) (W : World), d' < d → i + d' = P.length → l.length + d' ≤ 200 → GpSt d0 e0 tv g w0 W v (fun _ => True) acc → (Kd.int .i64).R 3 W w0.heap.size (fun k => k ≠ g ∧ some k ≠ v.ownBlock) vL l → (Kd.int .i64).R 3 W w0.heap.size (fun k => k ≠ g ∧ some k ≠ v.ownBlock) (.slice Ap P.length cp) P → GpX g Bp Bm Be Bo (.slice Ap P.length cp) most ne eb W v → gOn st most (P.drop i) l acc = some acc' →
   Calls Try.prog 148 (#[.int .i64 (i : Int), vL] ++ gpB Bp Bm Be Bo) W fun e w' => e = .returned (.tuple #[]) ∧ ∃ v', GpSt d0 e0 tv g w0 w' v' (fun _ => True) acc' ∧ GpFr g v v' W w')
  (i : Nat) (l : List Int) (vL v : Value) (acc acc' : List α) (W : World) (hi : i + d = P.length) (hl : l.length + d ≤ 200) (hst : GpSt d0 e0 tv g w0 W v (fun _ => True) acc) (hr : (Kd.int .i64).R 3 W w0.heap.size (fun k => k ≠ g ∧ some k ≠ v.ownBlock) vL l) (hp : (Kd.int .i64).R 3 W w0.heap.size (fun k => k ≠ g ∧ some k ≠ v.ownBlock) (.slice Ap P.length cp) P) (hx : GpX g Bp Bm Be Bo (.slice Ap P.length cp) most ne eb W v) (h : gOn st most (P.drop i) l acc = some acc') :
  Calls Try.prog 148 (#[.int .i64 (i : Int), vL] ++ gpB Bp Bm Be Bo) W fun e w' => e = .returned (.tuple #[]) ∧ ∃ v', GpSt d0 e0 tv g w0 w' v' (fun _ => True) acc' ∧ GpFr g v v' W w' := by
 obtain ⟨A0, c0, rfl, hle, -⟩ := gp_row hr
 have ST := ak_ hst
 have RL := ak_ hr
 have PL := ak_ hp
 have GX := ak_ hx
 have FR := ak_ (GpFr.below (g := g) (v := v) (Below.refl W.heap.size W))
 have HE := ak_ hE
 have HM := ak_ (And.intro hl (And.intro hP (And.intro hle hi)))
 have H := ak_ h
 have HCl2 := ak_ fun (W1 : World) (ok1 : Nat → Prop) (h1 : (Kd.int .i64).R 3 W1 w0.heap.size ok1 (.slice A0 l.length c0) l) => slices_Clone_int_int.calls A0 c0 l l W1 (Kd.R_reads' h1).2.2 hle (by unfold slices_Clone_int_int.f; rw [if_pos (by omega)])
 unfold gpB at hI ⊢
 simp only [List.append_toArray, List.cons_append, List.nil_append] at hI
 have HI := ak_ hI
 have HX := ak_ fun (W : World) (v : Value) (h : GpX g Bp Bm Be Bo (.slice Ap P.length cp) most ne eb W v) => (show W.heap[Bo]? = some (.cells #[.func (.func 148) #[] #[.pointer (some ⟨Bp, 0, none⟩), .pointer (some ⟨Bm, 0, none⟩), .pointer (some ⟨Be, 0, none⟩), .pointer (some ⟨Bo, 0, none⟩)]] 156 (0, 0)) from h.o)
 clear hi hl hst hr hp hx h hE hP hle hI
 go_enter Try.func148, Try.ntmps148
 go_wp2
 go_loopg [8] d (fun gg v8 wr => ∃ (j : Nat) (a1 : List α) (v1 : Value), v8 = .int .i64 (j : Int) ∧ i ≤ j ∧ j ≤ P.length ∧ P.length - j ≤ gg ∧ Aside0 (gOn st most (P.drop j) l a1 = some acc') ∧ Aside0 (GpSt d0 e0 tv g w0 wr v1 (fun _ => True) a1) ∧ Aside0 ((Kd.int .i64).R 3 wr w0.heap.size (fun k => k ≠ g ∧ some k ≠ v1.ownBlock) (.slice A0 l.length c0) l) ∧ Aside0 ((Kd.int .i64).R 3 wr w0.heap.size (fun k => k ≠ g ∧ some k ≠ v1.ownBlock) (.slice Ap P.length cp) P) ∧ Aside0 (GpX g Bp Bm Be Bo (.slice Ap P.length cp) most ne eb wr v1) ∧ Aside0 (GpFr g v v1 W wr))
 case atStart => exact ⟨i, acc, v, rfl, Nat.le_refl _, by have := HM.out; omega, by have := HM.out; omega, H, ⟨ST.out.up be_⟩, ⟨Kd.R_below RL.out be_⟩, ⟨Kd.R_below PL.out be_⟩, ⟨GX.out.up be_⟩, ⟨FR.out.trans (GpFr.below be_)⟩⟩
 case round =>
  clear H ST RL PL GX FR
  obtain ⟨j, a1, v1, rfl, hij, hjP, hg, H, ST, RL, PL, GX, FR⟩ := hrel
  have hp0 := (blk_cell GX.out.p 0)
  have hm0 := (blk_cell GX.out.m 0)
  simp at hp0
  simp at hm0
  by_cases hlt : j < P.length
  ·have q1 : decide ((j : Int) < (P.length : Int)) = true := decide_eq_true (by omega)
   have q1n : decide (j < P.length) = true := decide_eq_true hlt
   have q1p : (j < P.length) = True := eq_true hlt
   have h := H.out
   rw [drop_at_i64 hlt] at h
   simp only [gOn] at h
   by_cases hlm : (l.length : Int) < most
   ·have q2 : decide ((l.length : Int) < most) = true := decide_eq_true hlm
    rw [if_pos hlm] at h
    obtain ⟨ad, rfl⟩ := gp_some PL.out (by omega)
    obtain ⟨a0, h0, h⟩ := Option.bind_eq_some_iff.mp h
    obtain ⟨a2, h1, h2⟩ := Option.bind_eq_some_iff.mp h
    have HA := ak_ h0
    have H1 := ak_ h1
    have H2 := ak_ h2
    have hw : IntKind.i64.wrap ((j : Int) + 1) = ((j + 1 : Nat) : Int) := by rw [IntWalk.i64_in _ ⟨by omega, by have := HM.out; omega⟩]; omega
    have HN := ak_ (And.intro hlt (And.intro hg hij))
    have j0 : (0 : Int) ≤ (j : Int) := by omega
    have j1 : (j : Int) < (P.length : Int) := by omega
    have J0 := ak_ j0
    have J1 := ak_ j1
    have j0e := eq_true j0
    have j1e := eq_true j1
    obtain ⟨x, hxe⟩ : ∃ x, x = rd P (j : Int) := ⟨_, rfl⟩
    have HXE := ak_ hxe
    clear h h0 h1 h2 hlt hlm hg hij hjP j0 j1 hxe H
    go_upto_region 3 with (fail)
    clear hp0 hm0
    try go_wp2
    have n0_ := ak_ (ST.out.up (below_drew (Below.refl _ _)))
    have n1_ := ak_ (Kd.R_drew RL.out)
    have n2_ := ak_ (Kd.R_drew PL.out)
    have n3_ := ak_ (GX.out.up (below_drew (Below.refl _ _)))
    have n4_ := ak_ (FR.out.trans (GpFr.below (below_drew (Below.refl _ _))))
    clear ST RL PL GX FR
    have ST := n0_; have RL := n1_; have PL := n2_; have GX := n3_; have FR := n4_
    clear n0_ n1_ n2_ n3_ n4_
    refine start_ (n := 9) (S := fun w' => w'.cell? ⟨Bp, 0, none⟩ = some (.slice (some ad) P.length cp) ∧ w'.cell? (ad.add j) = some (.int .i64 x)) (ds := [8]) (mb_ 9 0) (by kernel_rfl) rfl rfl ⟨(blk_cell GX.out.p 0).trans rfl, by have h_ := gp_at PL.out (j : Int) J0.out J1.out; rw [Int.toNat_natCast, ← HXE.out] at h_; exact h_⟩ (fun hHeld => ?_); refine with_tabW impl_groups_1.T3_ impl_groups_1.B3_ (fun HT_ HW_ => ?_)
    generalize wr.drew = w9 at ST RL PL GX FR hHeld ⊢
    refine pu_ 0 23 9 1 ?_
    refine tk_ 2 25 9 5 ?_ (hy := by rintro w' ⟨s0, s1⟩; go_simp; with_reducible rfl)
    refine pu_ 3 26 9 13 ?_
    refine pu_ 4 27 9 29 ?_
    refine tk_ 5 28 9 61 ?_ (hy := by rintro w' ⟨s0, s1⟩; go_simp; with_reducible rfl)
    refine join_ (σ := Value × Value) 2 (mb_ 9 127) (fun s_ => [(24, s_.1), (29, s_.2)]) (fun s_ w' => (w'.cell? ⟨Bp, 0, none⟩ = some (.slice (some ad) P.length cp) ∧ w'.cell? (ad.add j) = some (.int .i64 x)) ∧ (Kd.int .i64).R 3 w' w9.heap.size (fun _ => True) s_.1 l ∧ (∃ A c, s_.2 = .slice A 1 c ∧ (Kd.int .i64).C w' A 1 [x]) ∧ Below w9.heap.size w9 w') ?_ ?_
    rotate_left
    ·intro hCont
     refine two_ (i := 1) (j := 6) (Ni := some 24) (Nj := some 29) (mb_ 9 63) (mb_ 9 125) rfl rfl rfl rfl (two_of HT_.out (by kernel_rfl)) (by decide) (by decide) (fun K hK => ?_) (fun K hK => ?_)
     ·refine goes_ Try.func149 (by kernel_rfl) rfl #[.slice A0 l.length c0] (by rfl) rfl rfl (by first | rfl | (simp only [map_toArray, map_cons, map_nil]; try rfl)) ?_
      refine (HCl2.out _ _ RL.out).mono ?_
      rintro e w5 ⟨s1, rfl, hR0, hb0⟩
      have hR := ak_ hR0
      have hb3 := ak_ hb0
      have hb1 := ak_ hb0
      clear hR0 hb0
      refine ⟨_, rfl, ?_⟩
      refine hK.out _ _ ⟨(blk_cell (GX.out.up hb1.out).p 0).trans rfl, by have h_ := gp_at (Kd.R_below PL.out hb1.out) (j : Int) J0.out J1.out; rw [Int.toNat_natCast, ← HXE.out] at h_; exact h_⟩ (fun hHeld => ?_)
      clear hK K
      refine nm_ ?_
      clear hb3
      refine on_ 6 29 9 127 (fun K hK => ?_)
      refine Kd.R_lit_step (Kd.int .i64) _ 3 ?hg (N := 29) ?hd (xs := [x]) (inner := [.int .i64 x]) (ok := fun _ => True) (okp := fun _ => True) ?hr ?hp (fun _ hk => hk) trivial (Below.refl _ _) (Nat.le_refl _) (by simp) ?_; (case hd => rfl); (case hg => rfl); (case hr => go_simp <;> rfl); (case hp => exact (Reps.one (show Kd.M (Kd.int .i64) _ _ _ x [.int .i64 x] from rfl) (Reps.none _ _)))
      intro s2 w6 ho0 hb0 hg_ hnew_
      clear hg_ hnew_
      have hO := ak_ ho0
      have hb3 := ak_ hb0
      have hb2 := ak_ (bs_ hb1.out hb0)
      clear ho0 hb0
      refine hK.out _ _ ⟨(blk_cell (GX.out.up hb2.out).p 0).trans rfl, by have h_ := gp_at (Kd.R_below PL.out hb2.out) (j : Int) J0.out J1.out; rw [Int.toNat_natCast, ← HXE.out] at h_; exact h_⟩ (fun hHeld => ?_)
      clear hK K
      refine nm_ ?_
      exact norm_ (by simp only [putAll, Act.put, setIfInBounds_toArray, set_cons_zero, set_cons_succ]) (hCont (s1, s2) _ ⟨hHeld, Kd.R_below hR.out hb3.out, (by obtain ⟨A2, c2, rfl⟩ := Kd.R_slice hO.out; exact ⟨A2, c2, rfl, (Kd.R_reads' hO.out).2.2⟩), hb2.out⟩)
     ·refine Kd.R_lit_step (Kd.int .i64) _ 3 ?hg (N := 29) ?hd (xs := [x]) (inner := [.int .i64 x]) (ok := fun _ => True) (okp := fun _ => True) ?hr ?hp (fun _ hk => hk) trivial (Below.refl _ _) (Nat.le_refl _) (by simp) ?_; (case hd => rfl); (case hg => rfl); (case hr => go_simp <;> rfl); (case hp => exact (Reps.one (show Kd.M (Kd.int .i64) _ _ _ x [.int .i64 x] from rfl) (Reps.none _ _)))
      intro s2 w5 ho0 hb0 hg_ hnew_
      clear hg_ hnew_
      have hO := ak_ ho0
      have hb3 := ak_ hb0
      have hb1 := ak_ hb0
      clear ho0 hb0
      refine hK.out _ _ ⟨(blk_cell (GX.out.up hb1.out).p 0).trans rfl, by have h_ := gp_at (Kd.R_below PL.out hb1.out) (j : Int) J0.out J1.out; rw [Int.toNat_natCast, ← HXE.out] at h_; exact h_⟩ (fun hHeld => ?_)
      clear hK K
      refine nm_ ?_
      clear hb3
      refine on_ 1 24 9 127 (fun K hK => ?_)
      refine goes_ Try.func149 (by kernel_rfl) rfl #[.slice A0 l.length c0] (by rfl) rfl rfl (by first | rfl | (simp only [map_toArray, map_cons, map_nil]; try rfl)) ?_
      refine (HCl2.out _ _ (Kd.R_below RL.out hb1.out)).mono ?_
      rintro e w6 ⟨s1, rfl, hR0, hb0⟩
      have hR := ak_ hR0
      have hb3 := ak_ hb0
      have hb2 := ak_ (bs_ hb1.out hb0)
      clear hR0 hb0
      refine ⟨_, rfl, ?_⟩
      refine hK.out _ _ ⟨(blk_cell (GX.out.up hb2.out).p 0).trans rfl, by have h_ := gp_at (Kd.R_below PL.out hb2.out) (j : Int) J0.out J1.out; rw [Int.toNat_natCast, ← HXE.out] at h_; exact h_⟩ (fun hHeld => ?_)
      clear hK K
      refine nm_ ?_
      exact norm_ (by simp only [putAll, Act.put, setIfInBounds_toArray, set_cons_zero, set_cons_succ]) (hCont (s1, s2) _ ⟨hHeld, Kd.R_lower hR.out hb1.out.size, (by obtain ⟨A2, c2, rfl⟩ := Kd.R_slice (Kd.R_below hO.out hb3.out); exact ⟨A2, c2, rfl, (Kd.R_reads' (Kd.R_below hO.out hb3.out)).2.2⟩), hb2.out⟩)
    rintro ⟨s1, s2⟩ w2 ⟨hHeld, h1_, ⟨A2, c2, h2_, h3_⟩, h4_⟩
    dsimp only at h1_ h2_
    subst h2_
    have hR := ak_ h1_
    have hL := ak_ h3_
    have hB := ak_ h4_
    clear h1_ h3_ h4_
    refine norm_ (a' := ?_) ?_ ?_
    rotate_left
    ·simp only [putAll, Act.put, setIfInBounds_toArray, set_cons_zero, set_cons_succ]
     rfl
    refine on_ 7 30 9 255 (fun K hK => ?_)
    refine Kd.R_append_rows_step (Kd.int .i64) (w0 := w9) w9.heap.size (by rfl) (.tmp 24) (.tmp 29) 29 3 (.int .i64 0) 8 rfl Try.underlying29 info3 rfl (by decide) (by omega) s1 l [x] A2 1 c2 (fun _ => True) (fun _ => False) rfl rfl ?aO ?aR (fun _ _ h => h) (fun _ h => h.elim) ?aF ?aB ?aS ?aL ?_
    (case aO => exact hR.out)
    (case aR => exact hL.out)
    (case aB => exact hB.out)
    (case aF => exact (fun _ _ => trivial))
    (case aS => exact hB.out.size)
    (case aL => have := HM.out; omega)
    intro v3 w3 ho hb hg_ hat_
    clear hg_ hat_ hR hL hB
    have n0_ := ak_ ((ST.out.old (u := v3) (Kd.R_base ho)).up hb)
    have n1_ := ak_ (Kd.R_below RL.out hb)
    have n2_ := ak_ (Kd.R_below PL.out hb)
    have n3_ := ak_ (GX.out.up hb)
    have n4_ := ak_ (FR.out.trans (GpFr.below hb))
    have HO := ak_ (Kd.R_lower (ST.out.new (Nat.le_refl _) ho) (bz_ ST.out.bel))
    clear ST RL PL GX FR ho hb
    have ST := n0_; have RL := n1_; have PL := n2_; have GX := n3_; have FR := n4_
    clear n0_ n1_ n2_ n3_ n4_
    refine hK.out _ _ ⟨(blk_cell GX.out.p 0).trans rfl, by have h_ := gp_at PL.out (j : Int) J0.out J1.out; rw [Int.toNat_natCast, ← HXE.out] at h_; exact h_⟩ (fun hHeld => ?_)
    clear hK K
    refine nm_ ?_
    refine pu_ 8 9 9 511 ?_
    refine done_ (done_of HT_.out (by kernel_rfl)) ?_
    have he0 := (blk_cell GX.out.e 0)
    simp at he0
    go_upto_region 5 with (go_at_fn ne; refine (HE.out _ v1 v3 (l ++ [x]) a1 a0 ST.out HO.out (by rw [HXE.out]; exact HA.out)).mono ?_; rintro e w8 ⟨rfl, v5, hst5, hfr5⟩; have n0_ := ak_ hst5; have n1_ := ak_ (hfr5.row RL.out); have n2_ := ak_ (hfr5.row PL.out); have n3_ := ak_ (GX.out.fr hfr5); have n4_ := ak_ (FR.out.trans hfr5); have n5_ := ak_ (hfr5.row HO.out); clear ST RL PL GX FR HO hst5 hfr5; have ST := n0_; have RL := n1_; have PL := n2_; have GX := n3_; have FR := n4_; have HO := n5_; clear n0_ n1_ n2_ n3_ n4_ n5_)
    clear he0
    have ho0 := (blk_cell (HX.out _ _ GX.out) 0)
    simp at ho0
    go_wp2_with (refine (HI.out (P.length - (j + 1)) (j + 1) (l ++ [x]) v3 v5 a0 a2 _ (by have := HN.out; have := HM.out; omega) (by have := HN.out; omega) (by have := HM.out; have := HN.out; rw [List.length_append, List.length_singleton]; omega) (ST.out.up be_) (Kd.R_below HO.out be_) (Kd.R_below PL.out be_) (GX.out.up be_) (by rw [HXE.out]; exact H1.out)).mono ?_; rintro e w9 ⟨rfl, v6, hst6, hfr6⟩; have n0_ := ak_ hst6; have n1_ := ak_ (hfr6.row (Kd.R_below RL.out be_)); have n2_ := ak_ (hfr6.row (Kd.R_below PL.out be_)); have n3_ := ak_ ((GX.out.up be_).fr hfr6); have n4_ := ak_ (FR.out.trans ((GpFr.below be_).trans hfr6)); clear ST RL PL GX FR HO hst6 hfr6; have ST := n0_; have RL := n1_; have PL := n2_; have GX := n3_; have FR := n4_; clear n0_ n1_ n2_ n3_ n4_)
    go_roundg (P.length - (j + 1))
    case measure => have := HN.out; omega
    case rel => exact ⟨j + 1, a2, v6, (ry_), by have := HN.out; omega, by have := HN.out; omega, Nat.le_refl _, H2, ⟨ST.out.up be_⟩, ⟨Kd.R_below RL.out be_⟩, ⟨Kd.R_below PL.out be_⟩, ⟨GX.out.up be_⟩, ⟨FR.out.trans (GpFr.below be_)⟩⟩
   ·have q2 : decide ((l.length : Int) < most) = false := decide_eq_false hlm
    rw [if_neg hlm] at h
    obtain rfl := Option.some.inj h
    clear h H hg hlm hlt hij hjP
    go_wp2
    go_end0
    first | exact ⟨rfl, ⟨v1, ST.out.up be_, FR.out.trans (GpFr.below be_)⟩⟩ | exact ⟨rfl, v1, ST.out.up be_, FR.out.trans (GpFr.below be_)⟩
  ·have q1 : decide ((j : Int) < (P.length : Int)) = false := decide_eq_false (by omega)
   have q1n : decide (j < P.length) = false := decide_eq_false hlt
   have q1p : (j < P.length) = False := eq_false hlt
   have h := H.out
   rw [List.drop_of_length_le (by omega)] at h
   obtain rfl := Option.some.inj (show some a1 = some acc' from h)
   clear h H hg hlt hij hjP
   go_wp2
   go_end0
   first | exact ⟨rfl, ⟨v1, ST.out.up be_, FR.out.trans (GpFr.below be_)⟩⟩ | exact ⟨rfl, v1, ST.out.up be_, FR.out.trans (GpFr.below be_)⟩
theorem gp_calls {α : Type} (d0 : Kd α) (e0 tv : Nat) (st : List Int → List α → Option (List α)) (g ne : Nat) (eb : Array Value) (w0 : World) (Bp Bm Be Bo : Nat) (Ap : Option Addr) (cp : Nat) (P : List Int) (most : Int) (ee : ∀ args w, (callFunc ne args).run Try.prog w = .ok (.enter ne args) w) (hE : GpEach d0 e0 tv st g ne eb w0) (hP : P.length ≤ 100) :
  ∀ (d : Nat) (i : Nat) (l : List Int) (vL v : Value) (acc acc' : List α) (W : World), i + d = P.length → l.length + d ≤ 200 → GpSt d0 e0 tv g w0 W v (fun _ => True) acc → (Kd.int .i64).R 3 W w0.heap.size (fun k => k ≠ g ∧ some k ≠ v.ownBlock) vL l → (Kd.int .i64).R 3 W w0.heap.size (fun k => k ≠ g ∧ some k ≠ v.ownBlock) (.slice Ap P.length cp) P → GpX g Bp Bm Be Bo (.slice Ap P.length cp) most ne eb W v → gOn st most (P.drop i) l acc = some acc' →
   Calls Try.prog 148 (#[.int .i64 (i : Int), vL] ++ gpB Bp Bm Be Bo) W fun e w' => e = .returned (.tuple #[]) ∧ ∃ v', GpSt d0 e0 tv g w0 w' v' (fun _ => True) acc' ∧ GpFr g v v' W w' := by
 intro d
 induction d using Nat.strongRecOn with
 | _ d ih => exact fun i l vL v acc acc' W h1 h2 h3 h4 h5 h6 h7 => gp_on d0 e0 tv st g ne eb w0 Bp Bm Be Bo Ap cp P most ee hE hP d (fun d' i l vL v acc acc' W hd k1 k2 k3 k4 k5 k6 k7 => ih d' hd i l vL v acc acc' W k1 k2 k3 k4 k5 k6 k7) i l vL v acc acc' W h1 h2 h3 h4 h5 h6 h7
theorem groups_calls {α : Type} (d0 : Kd α) (e0 tv : Nat) (st : List Int → List α → Option (List α)) (g ne : Nat) (eb : Array Value) (w0 : World) (Ap : Option Addr) (cp : Nat) (P : List Int) (most : Int) (ee : ∀ args w, (callFunc ne args).run Try.prog w = .ok (.enter ne args) w) (hE : GpEach d0 e0 tv st g ne eb w0) (hP : P.length ≤ 100)
  (v : Value) {acc0 : List α} (acc' : List α) (W : World) (hst : GpSt d0 e0 tv g w0 W v (fun _ => True) acc0) (hp : (Kd.int .i64).R 3 W w0.heap.size (fun k => k ≠ g ∧ some k ≠ v.ownBlock) (.slice Ap P.length cp) P) (h : gOn st most P [] acc0 = some acc') :
  Calls Try.prog 113 #[.slice Ap P.length cp, .int .i64 most, .func (.func ne) #[] eb] W fun e w' => e = .returned (.tuple #[]) ∧ ∃ v', GpSt d0 e0 tv g w0 w' v' (fun _ => True) acc' ∧ GpFr g v v' W w' := by
 have ST := ak_ hst
 have FR := ak_ (Below.refl W.heap.size W)
 have VB := ak_ fun k (hk : v.ownBlock = some k) => (show k < W.heap.size by obtain ⟨cells, hc⟩ := Kd.S_typed hst.row k hk; exact blk_lt hc)
 have HO := ak_ fun (W1 : World) (hb : Below W.heap.size W W1) (Bp Bm Be Bo : Nat) (hx : GpX g Bp Bm Be Bo (.slice Ap P.length cp) most ne eb W1 v) =>
  gp_calls d0 e0 tv st g ne eb w0 Bp Bm Be Bo Ap cp P most ee hE hP P.length 0 [] (.slice none 0 0) v acc0 acc' W1 (by omega) (by simp; omega) (hst.up hb) (Kd.R_nil _ _ _ _ _) (Kd.R_below hp hb) hx (by rw [List.drop_zero]; exact h)
 clear hst hp hE h hP
 unfold gpB at HO
 go_enter Try.func113, Try.ntmps113
 go_upto_region 3 with (first | ((with_reducible refine gate_dst (N := 3) rfl ?_); refine bx_ 3 #[.slice Ap P.length cp] 29 ?_; intro gb3 hg w3 hbox hb; have nb_ := ak_ (bs_ (by repeat (first | (with_reducible first | exact FR.out | apply ba_ | apply bN_ | apply b1_) | exact FR.out)) hb); have nc_ := ak_ hbox; have nd_ := ak_ ((by rw [hg]; exact (bz_ (by repeat (first | (with_reducible first | exact FR.out | apply ba_ | apply bN_ | apply b1_) | exact FR.out))) : W.heap.size ≤ gb3)); clear FR hb hbox hg; have FR := nb_; have BK3 := nc_; have GE3 := nd_; clear nb_ nc_ nd_; have hz3_0 := (blk_cell BK3.out 0); have hf3_0 := (blk_frozen BK3.out 0); simp at hz3_0; skip) | ((with_reducible refine gate_dst (N := 4) rfl ?_); refine bx_ 4 #[.int .i64 most] 3 ?_; intro gb4 hg w4 hbox hb; have n0_ := ak_ (blk_below (pk BK3.out) hb); have m0_ := ak_ ((by rw [hg]; exact Nat.ne_of_lt (blk_lt (pk BK3.out)) : gb3 ≠ gb4)); have nb_ := ak_ (bs_ (by repeat (first | (with_reducible first | exact FR.out | apply ba_ | apply bN_ | apply b1_) | exact FR.out)) hb); have nc_ := ak_ hbox; have nd_ := ak_ ((by rw [hg]; exact (bz_ (by repeat (first | (with_reducible first | exact FR.out | apply ba_ | apply bN_ | apply b1_) | exact FR.out))) : W.heap.size ≤ gb4)); clear FR hb hbox hg; clear BK3; have BK3 := n0_; have NE3_4 := m0_; have FR := nb_; have BK4 := nc_; have GE4 := nd_; clear nb_ nc_ nd_ n0_ m0_; have hz4_0 := (blk_cell BK4.out 0); have hf4_0 := (blk_frozen BK4.out 0); simp at hz4_0; skip) | ((with_reducible refine gate_dst (N := 5) rfl ?_); refine box_event ?hg (N := 5) ?hd (cs := #[.func (.func ne) #[] eb]) (t := 137) ?hr ?_; (case hd => rfl); (case hg => rfl); (case hr => go_simp <;> rfl); intro gb5 hg w5 hbox hb; have n0_ := ak_ (blk_below (pk BK3.out) hb); have m0_ := ak_ ((by rw [hg]; exact Nat.ne_of_lt (blk_lt (pk BK3.out)) : gb3 ≠ gb5)); have n1_ := ak_ (blk_below (pk BK4.out) hb); have m1_ := ak_ ((by rw [hg]; exact Nat.ne_of_lt (blk_lt (pk BK4.out)) : gb4 ≠ gb5)); have nb_ := ak_ (bs_ (by repeat (first | (with_reducible first | exact FR.out | apply ba_ | apply bN_ | apply b1_) | exact FR.out)) hb); have nc_ := ak_ hbox; have nd_ := ak_ ((by rw [hg]; exact (bz_ (by repeat (first | (with_reducible first | exact FR.out | apply ba_ | apply bN_ | apply b1_) | exact FR.out))) : W.heap.size ≤ gb5)); clear FR hb hbox hg; clear BK3 BK4; have BK3 := n0_; have NE3_5 := m0_; have BK4 := n1_; have NE4_5 := m1_; have FR := nb_; have BK5 := nc_; have GE5 := nd_; clear nb_ nc_ nd_ n0_ m0_ n1_ m1_; have hz5_0 := (blk_cell BK5.out 0); have hf5_0 := (blk_frozen BK5.out 0); simp at hz5_0; skip) | ((with_reducible refine gate_dst (N := 6) rfl ?_); refine bx_ 6 #[.nilFunc] 156 ?_; intro gb6 hg w6 hbox hb; have n0_ := ak_ (blk_below (pk BK3.out) hb); have m0_ := ak_ ((by rw [hg]; exact Nat.ne_of_lt (blk_lt (pk BK3.out)) : gb3 ≠ gb6)); have n1_ := ak_ (blk_below (pk BK4.out) hb); have m1_ := ak_ ((by rw [hg]; exact Nat.ne_of_lt (blk_lt (pk BK4.out)) : gb4 ≠ gb6)); have n2_ := ak_ (blk_below (pk BK5.out) hb); have m2_ := ak_ ((by rw [hg]; exact Nat.ne_of_lt (blk_lt (pk BK5.out)) : gb5 ≠ gb6)); have nb_ := ak_ (bs_ (by repeat (first | (with_reducible first | exact FR.out | apply ba_ | apply bN_ | apply b1_) | exact FR.out)) hb); have nc_ := ak_ hbox; have nd_ := ak_ ((by rw [hg]; exact (bz_ (by repeat (first | (with_reducible first | exact FR.out | apply ba_ | apply bN_ | apply b1_) | exact FR.out))) : W.heap.size ≤ gb6)); clear FR hb hbox hg; clear BK3 BK4 BK5; have BK3 := n0_; have NE3_6 := m0_; have BK4 := n1_; have NE4_6 := m1_; have BK5 := n2_; have NE5_6 := m2_; have FR := nb_; have BK6 := nc_; have GE6 := nd_; clear nb_ nc_ nd_ n0_ m0_ n1_ m1_ n2_ m2_; have hz6_0 := (blk_cell BK6.out 0); have hf6_0 := (blk_frozen BK6.out 0); simp at hz6_0; skip))
 have N1 := ak_ (blk_far (p := ⟨gb6, 0, none⟩) BK3.out NE3_6.out (.func (.func 148) #[] #[.pointer (some ⟨gb3, 0, none⟩), .pointer (some ⟨gb4, 0, none⟩), .pointer (some ⟨gb5, 0, none⟩), .pointer (some ⟨gb6, 0, none⟩)]))
 have N2 := ak_ (blk_far (p := ⟨gb6, 0, none⟩) BK4.out NE4_6.out (.func (.func 148) #[] #[.pointer (some ⟨gb3, 0, none⟩), .pointer (some ⟨gb4, 0, none⟩), .pointer (some ⟨gb5, 0, none⟩), .pointer (some ⟨gb6, 0, none⟩)]))
 have N3 := ak_ (blk_far (p := ⟨gb6, 0, none⟩) BK5.out NE5_6.out (.func (.func 148) #[] #[.pointer (some ⟨gb3, 0, none⟩), .pointer (some ⟨gb4, 0, none⟩), .pointer (some ⟨gb5, 0, none⟩), .pointer (some ⟨gb6, 0, none⟩)]))
 have N4 := ak_ (blk_put (cs' := #[.func (.func 148) #[] #[.pointer (some ⟨gb3, 0, none⟩), .pointer (some ⟨gb4, 0, none⟩), .pointer (some ⟨gb5, 0, none⟩), .pointer (some ⟨gb6, 0, none⟩)]]) BK6.out 0 (.func (.func 148) #[] #[.pointer (some ⟨gb3, 0, none⟩), .pointer (some ⟨gb4, 0, none⟩), .pointer (some ⟨gb5, 0, none⟩), .pointer (some ⟨gb6, 0, none⟩)]) rfl)
 have N5 := ak_ (below_set (v := .func (.func 148) #[] #[.pointer (some ⟨gb3, 0, none⟩), .pointer (some ⟨gb4, 0, none⟩), .pointer (some ⟨gb5, 0, none⟩), .pointer (some ⟨gb6, 0, none⟩)]) (j := 0) FR.out GE6.out)
 generalize hW5 : w6.setCell ⟨gb6, 0, none⟩ _ = W5 at N1 N2 N3 N4 N5 ⊢
 have hc0 := (blk_cell N4.out 0)
 simp at hc0
 have hx := HO.out W5 N5.out gb3 gb4 gb5 gb6 ⟨N1.out, N2.out, N3.out, N4.out, by
  have hlt_ := blk_lt ST.out.out
  rintro k (rfl | rfl | rfl | rfl)
  ·exact ⟨by have := GE3.out; omega, fun e => by have := VB.out _ e.symm; have := GE3.out; omega⟩
  ·exact ⟨by have := GE4.out; omega, fun e => by have := VB.out _ e.symm; have := GE4.out; omega⟩
  ·exact ⟨by have := GE5.out; omega, fun e => by have := VB.out _ e.symm; have := GE5.out; omega⟩
  ·exact ⟨by have := GE6.out; omega, fun e => by have := VB.out _ e.symm; have := GE6.out; omega⟩⟩
 simp only [List.append_toArray, List.cons_append, List.nil_append] at hx
 have HX := ak_ hx
 clear hx hW5 HO BK3 BK4 BK5 BK6 N1 N2 N3 N4
 go_wp2_with (refine HX.out.mono ?_; rintro e w8 ⟨rfl, v', h1, h2⟩; have H1 := ak_ h1; have H2 := ak_ h2; clear h1 h2)
 go_end0
 exact ⟨rfl, v', H1.out, (GpFr.below N5.out).trans H2.out⟩
def impl_State_side.l0 : Nat → Bool → List Int → List Bool → Int → Int → Option (List Int)
 | 0, _, _, _, _, _ => none
 | k + 1, x1, x5, x10, x11, x12 => if x12 < x11 then (if 0 ≤ x12 then (if x12 < (x10.length : Int) then (if ((rdOf false x10 x12) == x1) = true then (if x5.length < 17592186044416 then (impl_State_side.l0 k x1 (x5 ++ [x12]) x10 x11 (wrap64 (x12 + 1))) else (none)) else (impl_State_side.l0 k x1 x5 x10 x11 (wrap64 (x12 + 1)))) else (none)) else (none)) else (some x5)
def impl_State_side.f (k : Nat) (l0_0 : List Bool) (a0_1 : Bool) (a1 : Bool) : Option (List Int) := impl_State_side.l0 k a1 (([] : List Int)) l0_0 (l0_0.length : Int) 0
theorem impl_State_side.mono_l : ∀ k, (∀ y0 y1 y2 y3 y4, LeO (impl_State_side.l0 k y0 y1 y2 y3 y4) (impl_State_side.l0 (k + 1) y0 y1 y2 y3 y4))
 | 0 => fun _ _ _ _ _ r h => by simp [impl_State_side.l0] at h
 | k + 1 => by
  have ih0 := impl_State_side.mono_l k
  ·intro y0 y1 y2 y3 y4
   unfold impl_State_side.l0
   repeat' first
   | (with_reducible first | exact ih0 _ _ _ _ _ | exact LeO.refl _ | exact LeO.none _ | refine LeO.ite ?_ ?_ | refine LeO.bind ?_ (fun _ => ?_))
   | exact ih0 _ _ _ _ _
   | exact LeO.none _
   | refine LeO.ite ?_ ?_
   | refine LeO.bind ?_ (fun _ => ?_)
theorem impl_State_side.mono : ∀ a0 a1 a2 k, LeO (impl_State_side.f k a0 a1 a2) (impl_State_side.f (k + 1) a0 a1 a2) := by
 intro a0 a1 a2 k
 have ih0 := impl_State_side.mono_l k
 unfold impl_State_side.f
 repeat' first
  | (with_reducible first | exact ih0 _ _ _ _ _ | exact LeO.refl _ | exact LeO.none _ | refine LeO.ite ?_ ?_ | refine LeO.bind ?_ (fun _ => ?_))
  | exact ih0 _ _ _ _ _
  | exact LeO.none _
  | refine LeO.ite ?_ ?_
  | refine LeO.bind ?_ (fun _ => ?_)
theorem impl_State_side.calls (k : Nat) (A0_0 : Option Addr) (c0_0 : Nat) (l0_0 : List Bool) (a0_1 : Bool) (a1 : Bool) (r : List Int) (w : World) (hr0_0 : Kd.C Kd.bool w A0_0 l0_0.length l0_0) (hc0_0 : l0_0.length ≤ c0_0) (h : impl_State_side.f k l0_0 a0_1 a1 = some r) :
  Calls Try.prog 115 #[.agg #[.slice A0_0 l0_0.length c0_0, .bool a0_1], .bool a1] w fun e w' => ∃ v0_ : Value, e = .returned (v0_) ∧ Kd.R (Kd.int .i64) 3 w' w.heap.size (fun _ => True) v0_ r ∧ Below w.heap.size w w' := by
 have hu115 := Try.underlying115
 have HR0_0 := ak_ hr0_0
 have HC0_0 := ak_ hc0_0
 clear hr0_0 hc0_0
 have HB := ak_ (Below.refl w.heap.size w)
 have H : (impl_State_side.l0 k a1 (([] : List Int)) l0_0 (l0_0.length : Int) 0) = some r := h
 clear h
 obtain ⟨y491, hy491⟩ : ∃ y_ : List Int, y_ = (([] : List Int)) := ⟨_, rfl⟩
 replace H : (impl_State_side.l0 k a1 y491 l0_0 (l0_0.length : Int) 0) = some r := by first | (rw [hy491]; exact H) | exact H
 have Ny491 := ak_ hy491
 clear hy491
 have H' := ak_ H
 clear H
 go_enter Try.func115, Try.ntmps115
 go_wp2_with (first | ((with_reducible refine gate_dst (N := 2) rfl ?_); refine bx_ 2 #[.slice A0_0 l0_0.length c0_0, .bool a0_1] 115 ?_; intro gb490 hg w3 hbox hb; have n0_ := ak_ (bs_ (bb_ HB.out) hb); have n1_ := ak_ (hbox); have n2_ := ak_ ((by rw [hg]; exact (bz_ (bb_ HB.out)) : w.heap.size ≤ gb490)); have n3_ := n2_; clear HB; have HB := n0_; have BK490 := n1_; have GW490 := n2_; have GE490 := n3_; clear n0_ n1_ n2_ n3_; clear hb hbox hg) | ((with_reducible refine gate_dst (N := 8) rfl ?_); refine Kd.R_lit (Kd.int .i64) _ 3 ?hg (N := 8) ?hd (xs := ([] : List Int)) (inner := []) (ok := fun _ => True) (okp := fun _ => True) ?hr ?hp (fun _ hk => hk) trivial (Below.refl _ _) (Nat.le_refl _) (by simp) ?_; (case hd => rfl); (case hg => rfl); (case hr => go_simp <;> rfl); (case hp => exact (Reps.none _ _)); intro v492 w4 ho5 hb hg_ hnew_; clear hg_ hnew_; (first | rw [← Ny491.out] at ho5 | (simp only [Int.reduceToNat] at ho5; rw [← Ny491.out] at ho5)); have n0_ := ak_ (Kd.R_lower ho5 (bz_ bl_)); have n1_ := ak_ (blk_below (pk BK490.out) hb); have n2_ := ak_ (bs_ bl_ hb); clear BK490; clear HB; have HO493 := n0_; have BK490 := n1_; have HB := n2_; clear n0_ n1_ n2_; clear hb ho5; have hcz6_0 : w4.cell? ⟨gb490, 0, none⟩ = some (.slice A0_0 l0_0.length c0_0) := (blk_cell BK490.out 0).trans rfl; have hcz6_1 : w4.cell? ⟨gb490, 1, none⟩ = some (.bool a0_1) := (blk_cell BK490.out 1).trans rfl; have hfz6_0 := blk_frozen BK490.out 0; have hfz6_1 := blk_frozen BK490.out 1))
 go_loopg [5, 12] k (fun kq v5 v12 w' => ∃ (x5_1 : List Int) (x12_1 : Int), v12 = .int .i64 x12_1 ∧ Aside0 (impl_State_side.l0 kq a1 x5_1 l0_0 (l0_0.length : Int) x12_1 = some r) ∧ Aside0 (kq ≤ k) ∧ Aside0 (Kd.R (Kd.int .i64) 3 w' w.heap.size (fun _ => True) v5 x5_1) ∧ Aside0 (w'.heap[gb490]? = some (.cells #[(.slice A0_0 l0_0.length c0_0), .bool a0_1] 115 (0, 0))) ∧ Aside0 (Below w.heap.size w w'))
 case atStart => exact ⟨(y491), (0), (ry_), H', ⟨Nat.le_refl _⟩, ⟨Kd.pR HO493.out⟩, ⟨pk BK490.out⟩, ⟨by repeat (first | exact HB.out | apply ba_ | apply bN_ | apply b1_ | refine below_set ?_ GE490.out)⟩⟩
 case round =>
  clear H'
  try clear c1
  try clear p2
  try clear hcz6_0
  try clear hcz6_1
  try clear hfz6_0
  try clear hfz6_1
  obtain ⟨x5_1, x12_1, rfl, HA, HK1, HO_5, BK490, HB⟩ := hrel
  cases gk with
  | zero => exact absurd HA.out (by simp [impl_State_side.l0])
  | succ k1 =>
   have H := HA.out
   clear HA
   simp only [impl_State_side.l0] at H
   by_cases c7 : x12_1 < (l0_0.length : Int)
   ·
    rw [if_pos c7] at H
    have c7b0 : decide (x12_1 < (l0_0.length : Int)) = true := decide_eq_true c7
    clear c7
    by_cases c8 : 0 ≤ x12_1
    ·
     rw [if_pos c8] at H
     have c8b0 : decide (0 ≤ x12_1) = true := decide_eq_true c8
     clear c8
     by_cases c9 : x12_1 < (l0_0.length : Int)
     ·
      rw [if_pos c9] at H
      have c9b0 : decide (x12_1 < (l0_0.length : Int)) = true := decide_eq_true c9
      clear c9
      by_cases c10 : ((rdOf false l0_0 x12_1) == a1) = true
      ·
       rw [if_pos c10] at H
       have c10b0 : ((rdOf false l0_0 x12_1) == a1) = true := c10
       (try (have c10b1 : decide ((rdOf false l0_0 x12_1) = a1) = true := by simpa using c10))
       (try (have c10b2 : ((rdOf false l0_0 x12_1) == a1) = true := by simpa using c10))
       clear c10
       by_cases c11 : x5_1.length < 17592186044416
       ·
        rw [if_pos c11] at H
        have LMc11 := ak_ c11
        clear c11
        obtain ⟨y495, hy495⟩ : ∃ y_ : List Int, y_ = (x5_1 ++ [x12_1]) := ⟨_, rfl⟩
        replace H : (impl_State_side.l0 k1 a1 y495 l0_0 (l0_0.length : Int) (wrap64 (x12_1 + 1))) = some r := by first | (rw [hy495]; exact H) | exact H
        have Ny495 := ak_ hy495
        clear hy495
        have H' := ak_ H
        clear H
        have p494 : 0 ≤ (x12_1 : Int) := odt_ (by assumption)
        have q494 : x12_1 < (l0_0.length : Int) := odt_ (by assumption)
        obtain ⟨ad494, e494, hx494_0⟩ := Kd.at_bool HR0_0.out x12_1 p494 q494
        cases e494
        try replace hx494_0 := (HB.out.cell (World.block_lt_of_cell? w _ hx494_0)).trans hx494_0
        replace p494 := eq_true p494
        replace q494 := eq_true q494
        go_wp2_with (first | ((with_reducible refine gate_builtin (b := .append) (xs := #[.tmp 20, .tmp 22]) rfl ?_); at_builtin; refine Kd.R_append (Kd.int .i64) (w0 := w) w.heap.size rfl (.tmp 20) (.tmp 22) 29 3 (.int .i64 0) 8 rfl Try.underlying29 info3 rfl (by decide) (by omega) u5 x5_1 x12_1 [.int .i64 x12_1] (fun _ => True) (fun _ => False) rfl rfl ?aP (fun _ hk => hk.elim) ?aF ?aO ?aB ?aS ?aL ?_; (case aP => exact rfl); (case aB => exact bl_); (case aF => exact (fun _ _ => trivial)); (case aO => exact (Kd.pR HO_5.out)); (case aS => exact (bz_ bl_)); (case aL => have := LMc11.out; omega); intro v496 w12 ho hb hg hat; rw [← Ny495.out] at ho; have n0_ := ak_ (blk_grown (pk BK490.out) hg (Kd.R_ne HO_5.out BK490.out (by decide))); have n1_ := ak_ (hb); have n2_ := ak_ (ho); clear BK490; clear HB; clear HO_5; have BK490 := n0_; have HB := n1_; have HO497 := n2_; clear n0_ n1_ n2_; clear ho hb hg hat))
        go_roundg k1
        case measure => have := HK1.out; omega
        case rel => exact ⟨(y495), (wrap64 (x12_1 + 1)), (ry_), H', ⟨by have := HK1.out; omega⟩, ⟨Kd.pR HO497.out⟩, ⟨pk BK490.out⟩, ⟨by repeat (first | exact HB.out | apply ba_ | apply bN_ | apply b1_ | refine below_set ?_ GE490.out)⟩⟩
       ·
        rw [if_neg c11] at H
        exact absurd H (by simp)
      ·
       rw [if_neg c10] at H
       have c10b0 : ((rdOf false l0_0 x12_1) == a1) = false := by simpa using c10
       (try (have c10b1 : decide ((rdOf false l0_0 x12_1) = a1) = false := by simpa using c10))
       (try (have c10b2 : ((rdOf false l0_0 x12_1) == a1) = false := by simpa using c10))
       (try (have c10b3 : ¬ ((rdOf false l0_0 x12_1) = a1) := by simpa using c10))
       clear c10
       have H' := ak_ H
       clear H
       have p494 : 0 ≤ (x12_1 : Int) := odt_ (by assumption)
       have q494 : x12_1 < (l0_0.length : Int) := odt_ (by assumption)
       obtain ⟨ad494, e494, hx494_0⟩ := Kd.at_bool HR0_0.out x12_1 p494 q494
       cases e494
       try replace hx494_0 := (HB.out.cell (World.block_lt_of_cell? w _ hx494_0)).trans hx494_0
       replace p494 := eq_true p494
       replace q494 := eq_true q494
       go_wp2
       go_roundg k1
       case measure => have := HK1.out; omega
       case rel => exact ⟨(x5_1), (wrap64 (x12_1 + 1)), (ry_), H', ⟨by have := HK1.out; omega⟩, ⟨Kd.pR HO_5.out⟩, ⟨pk BK490.out⟩, ⟨by repeat (first | exact HB.out | apply ba_ | apply bN_ | apply b1_ | refine below_set ?_ GE490.out)⟩⟩
     ·
      rw [if_neg c9] at H
      exact absurd H (by simp)
    ·
     rw [if_neg c8] at H
     exact absurd H (by simp)
   ·
    rw [if_neg c7] at H
    have c7b0 : decide (x12_1 < (l0_0.length : Int)) = false := decide_eq_false c7
    clear c7
    obtain rfl := Option.some.inj H
    go_wp2
    go_ret
    exact ⟨_, rx_, by (with_reducible repeat (first | apply Kd.R_alloc | apply Kd.R_drewN | apply Kd.R_drew)); exact HO_5.out, by repeat (first | exact HB.out | apply ba_ | apply bN_ | apply b1_ | refine below_set ?_ GE490.out)⟩
def impl_Crew_carries.f (k : Nat) (ws : List Int) (rs : List Bool) (most : Int) (l : List Int) : Option Bool :=
 (impl_Crew_load.f k ws rs most l).bind fun t => if t ≤ most then anyO (fun x => if 0 ≤ x then (if x < (rs.length : Int) then some (rdOf false rs x) else none) else none) l else some false
theorem impl_Crew_carries.mono : ∀ ws rs most l k, LeO (impl_Crew_carries.f k ws rs most l) (impl_Crew_carries.f (k + 1) ws rs most l) := fun ws rs most l k => LeO.bind (impl_Crew_load.mono _ _ _ _ _) (fun _ => LeO.refl _)
theorem impl_Crew_carries.calls_1 (B : Nat) (Ar : Option Addr) (cr : Nat) (rs : List Bool) (x : Int) (r : Bool) (W : World) (h1 : W.cell? ⟨B, 1, none⟩ = some (.slice Ar rs.length cr)) (hr : Kd.bool.C W Ar rs.length rs) (h : (if 0 ≤ x then (if x < (rs.length : Int) then some (rdOf false rs x) else none) else none) = some r) :
  Calls Try.prog 187 #[.int .i64 x, .pointer (some ⟨B, 0, none⟩)] W fun e w' => e = .returned (.bool r) ∧ Below W.heap.size W w' := by
 have hu := Try.underlying43
 by_cases h0 : 0 ≤ x
 rotate_left
 ·rw [if_neg h0] at h; exact absurd h (by simp)
 by_cases hl : x < (rs.length : Int)
 rotate_left
 ·rw [if_pos h0, if_neg hl] at h; exact absurd h (by simp)
 rw [if_pos h0, if_pos hl] at h
 obtain rfl := Option.some.inj h
 obtain ⟨ad, rfl, hx⟩ := Kd.at_bool hr x h0 hl
 have p0 := eq_true h0
 have p1 := eq_true hl
 clear h h0 hl hr
 go_enter Try.func187, Try.ntmps187
 go_wp2
 first | go_ret | go_ret2
 exact ⟨rfl, be_⟩
def impl_Crew_carries.T1 : Bool × List (List Nat × List Nat) := (true, [([], []), ([], []), ([0, 1], [0, 1]), ([], []), ([3], [3]), ([2, 4], [2, 4]), ([5, 2], [5]), ([6], [6]), ([6], [6]), ([7, 8, 6, 6], [6, 7, 8]), ([6, 9], [6, 9]), ([10, 9, 0, 1, 2, 3, 4, 5, 6, 7, 8, 9, 10], [10])])
def impl_Crew_carries.B1 : List Nat := [0, 0, 3, 0, 8, 31, 63, 127, 127, 511, 1023, 2047]
theorem impl_Crew_carries.T1_ : rtab .any (opsOf Try.f165 1) = impl_Crew_carries.T1 := by kernel_rfl
theorem impl_Crew_carries.B1_ : waitsOk impl_Crew_carries.T1.2 impl_Crew_carries.B1 = true := by kernel_rfl
theorem impl_Crew_carries.calls (k : Nat) (Aw : Option Addr) (cw : Nat) (ws : List Int) (Ar : Option Addr) (cr : Nat) (rs : List Bool) (most : Int) (A : Option Addr) (c : Nat) (l : List Int) (r : Bool) (w : World)
  (hw : Kd.C (Kd.int .i64) w Aw ws.length ws) (hcw : ws.length ≤ cw) (hr : Kd.C Kd.bool w Ar rs.length rs) (hcr : rs.length ≤ cr) (hl : Kd.C (Kd.int .i64) w A l.length l) (hcl : l.length ≤ c) (h : impl_Crew_carries.f k ws rs most l = some r) :
  Calls Try.prog 165 #[.agg #[.slice Aw ws.length cw, .slice Ar rs.length cr, .int .i64 most], .slice A l.length c] w fun e w' => e = .returned (.bool r) ∧ Below w.heap.size w w' := by
 have hu := Try.underlying43
 unfold impl_Crew_carries.f at h
 obtain ⟨t, h1, h⟩ := Option.bind_eq_some_iff.mp h
 have A1 := ak_ fun (W : World) (hb : Below w.heap.size w W) => impl_Crew_load.calls k Aw cw ws Ar cr rs most A c l t W (Kd.C_below hw hb) hcw (Kd.C_below hr hb) hcr (Kd.C_below hl hb) hcl h1
 have HB := ak_ (Below.refl w.heap.size w)
 by_cases ht : t ≤ most
 ·rw [if_pos ht] at h
  have A2 := ak_ fun (g : Nat) (W : World) (hb : Below w.heap.size w W) (hg : ∀ W', Below W.heap.size W W' → W'.cell? ⟨g, 1, none⟩ = some (.slice Ar rs.length cr)) =>
   slices_ContainsFunc_int_int.calls_fn 187 #[.pointer (some ⟨g, 0, none⟩)] (enters_of Try.func187 (by kernel_rfl) rfl) (fun x => if 0 ≤ x then (if x < (rs.length : Int) then some (rdOf false rs x) else none) else none) A c l W (Kd.C_below hl hb) (fun W' x r' hb' hx => impl_Crew_carries.calls_1 g Ar cr rs x r' W' (hg W' hb') (Kd.C_below hr (bs_ hb hb')) hx) r h
  have v1 : decide (t ≤ most) = true := decide_eq_true ht
  clear h h1 ht hw hcw hr hcr hl hcl
  go_enter Try.func165, Try.ntmps165
  go_upto_region 1 with (first | ((with_reducible refine gate_dst (N := 2) rfl ?_); refine bx_ 2 #[.slice Aw ws.length cw, .slice Ar rs.length cr, .int .i64 most] 43 ?_; intro gb2 hg w2 hbox hb; have nb_ := ak_ (bs_ (bb_ HB.out) hb); have nc_ := ak_ hbox; have nd_ := ak_ ((by rw [hg]; exact (bz_ (bb_ HB.out)) : w.heap.size ≤ gb2)); clear HB hb hbox hg; have HB := nb_; have BK2 := nc_; have GE2 := nd_; clear nb_ nc_ nd_; have hz2_0 := (blk_cell BK2.out 0); have hf2_0 := (blk_frozen BK2.out 0); simp at hz2_0; have hz2_1 := (blk_cell BK2.out 1); have hf2_1 := (blk_frozen BK2.out 1); simp at hz2_1; have hz2_2 := (blk_cell BK2.out 2); have hf2_2 := (blk_frozen BK2.out 2); simp at hz2_2; skip))
  have n0_ := ak_ (k1_ BK2.out); have n1_ := ak_ (b1_ HB.out); clear BK2 HB; have BK2 := n0_; have HB := n1_; clear n0_ n1_
  refine start_ (n := 12) (S := fun w' => w'.cell? ⟨gb2, 0, none⟩ = some (.slice Aw ws.length cw) ∧ w'.cell? ⟨gb2, 1, none⟩ = some (.slice Ar rs.length cr) ∧ w'.cell? ⟨gb2, 2, none⟩ = some (.int .i64 most)) (ds := []) (mb_ 12 0) (by kernel_rfl) rfl rfl ⟨(blk_cell BK2.out 0).trans rfl, (blk_cell BK2.out 1).trans rfl, (blk_cell BK2.out 2).trans rfl⟩ (fun hHeld => ?_); refine with_tabW impl_Crew_carries.T1_ impl_Crew_carries.B1_ (fun HT_ HW_ => ?_)
  generalize w2.drew = w9 at BK2 HB hHeld ⊢
  refine tk_ 0 5 12 1 ?_ (hy := by rintro w' ⟨s0, s1, s2⟩; go_simp; with_reducible rfl)
  refine pu_ 1 6 12 3 ?_
  refine pu_ 3 8 12 11 ?_
  refine tk_ 4 9 12 27 ?_ (hy := by rintro w' ⟨s0, s1, s2⟩; go_simp; with_reducible rfl)
  refine on_ 2 7 12 31 (fun K hK => ?_)
  refine goes_ Try.func117 (by kernel_rfl) rfl #[.agg #[.slice Aw ws.length cw, .slice Ar rs.length cr, .int .i64 most], .slice A l.length c] (by rfl) rfl rfl (by first | rfl | (simp only [map_toArray, map_cons, map_nil]; try rfl)) ?_
  refine (A1.out _ HB.out).mono ?_
  rintro e_ w10 ⟨rfl, hb⟩
  refine ⟨_, rfl, ?_⟩
  have n0_ := ak_ (blk_below BK2.out hb); have n1_ := ak_ (bs_ HB.out hb); clear BK2 HB hb; have BK2 := n0_; have HB := n1_; clear n0_ n1_
  refine hK.out _ _ ⟨(blk_cell BK2.out 0).trans rfl, (blk_cell BK2.out 1).trans rfl, (blk_cell BK2.out 2).trans rfl⟩ (fun hHeld => ?_)
  clear hK K
  refine nm_ ?_
  refine pu_ 5 10 12 63 ?_
  refine pu_ 6 11 12 127 ?_
  refine pu_ 7 12 12 255 ?_
  refine pu_ 8 13 12 511 ?_
  refine on_ 9 14 12 1023 (fun K hK => ?_)
  refine goes_ Try.func131 (by kernel_rfl) rfl #[.slice A l.length c, .func (.func 187) #[] #[.pointer (some ⟨gb2, 0, none⟩)]] (by rfl) rfl rfl (by first | rfl | (simp only [map_toArray, map_cons, map_nil]; try rfl)) ?_
  refine (A2.out gb2 _ HB.out (fun W' hb' => (blk_cell (blk_below BK2.out hb') 1).trans rfl)).mono ?_
  rintro e_ w11 ⟨rfl, hb⟩
  refine ⟨_, rfl, ?_⟩
  have n0_ := ak_ (blk_below BK2.out hb); have n1_ := ak_ (bs_ HB.out hb); clear BK2 HB hb; have BK2 := n0_; have HB := n1_; clear n0_ n1_
  refine hK.out _ _ ⟨(blk_cell BK2.out 0).trans rfl, (blk_cell BK2.out 1).trans rfl, (blk_cell BK2.out 2).trans rfl⟩ (fun hHeld => ?_)
  clear hK K
  refine nm_ ?_
  refine pu_ 10 15 12 2047 ?_
  refine pu_ 11 4 12 4095 ?_
  refine done_ (done_of HT_.out (by kernel_rfl)) ?_
  try go_wp2
  first | go_ret | go_ret2
  exact ⟨rfl, (bb_ HB.out)⟩
 ·rw [if_neg ht] at h
  obtain rfl := Option.some.inj h
  have v1 : decide (t ≤ most) = false := decide_eq_false ht
  clear h h1 ht hw hcw hr hcr hl hcl
  go_enter Try.func165, Try.ntmps165
  go_upto_region 1 with (first | ((with_reducible refine gate_dst (N := 2) rfl ?_); refine bx_ 2 #[.slice Aw ws.length cw, .slice Ar rs.length cr, .int .i64 most] 43 ?_; intro gb2 hg w2 hbox hb; have nb_ := ak_ (bs_ (bb_ HB.out) hb); have nc_ := ak_ hbox; have nd_ := ak_ ((by rw [hg]; exact (bz_ (bb_ HB.out)) : w.heap.size ≤ gb2)); clear HB hb hbox hg; have HB := nb_; have BK2 := nc_; have GE2 := nd_; clear nb_ nc_ nd_; have hz2_0 := (blk_cell BK2.out 0); have hf2_0 := (blk_frozen BK2.out 0); simp at hz2_0; have hz2_1 := (blk_cell BK2.out 1); have hf2_1 := (blk_frozen BK2.out 1); simp at hz2_1; have hz2_2 := (blk_cell BK2.out 2); have hf2_2 := (blk_frozen BK2.out 2); simp at hz2_2; skip))
  have n0_ := ak_ (k1_ BK2.out); have n1_ := ak_ (b1_ HB.out); clear BK2 HB; have BK2 := n0_; have HB := n1_; clear n0_ n1_
  refine start_ (n := 12) (S := fun w' => w'.cell? ⟨gb2, 0, none⟩ = some (.slice Aw ws.length cw) ∧ w'.cell? ⟨gb2, 1, none⟩ = some (.slice Ar rs.length cr) ∧ w'.cell? ⟨gb2, 2, none⟩ = some (.int .i64 most)) (ds := []) (mb_ 12 0) (by kernel_rfl) rfl rfl ⟨(blk_cell BK2.out 0).trans rfl, (blk_cell BK2.out 1).trans rfl, (blk_cell BK2.out 2).trans rfl⟩ (fun hHeld => ?_); refine with_tabW impl_Crew_carries.T1_ impl_Crew_carries.B1_ (fun HT_ HW_ => ?_)
  generalize w2.drew = w9 at BK2 HB hHeld ⊢
  refine tk_ 0 5 12 1 ?_ (hy := by rintro w' ⟨s0, s1, s2⟩; go_simp; with_reducible rfl)
  refine pu_ 1 6 12 3 ?_
  refine pu_ 3 8 12 11 ?_
  refine tk_ 4 9 12 27 ?_ (hy := by rintro w' ⟨s0, s1, s2⟩; go_simp; with_reducible rfl)
  refine on_ 2 7 12 31 (fun K hK => ?_)
  refine goes_ Try.func117 (by kernel_rfl) rfl #[.agg #[.slice Aw ws.length cw, .slice Ar rs.length cr, .int .i64 most], .slice A l.length c] (by rfl) rfl rfl (by first | rfl | (simp only [map_toArray, map_cons, map_nil]; try rfl)) ?_
  refine (A1.out _ HB.out).mono ?_
  rintro e_ w10 ⟨rfl, hb⟩
  refine ⟨_, rfl, ?_⟩
  have n0_ := ak_ (blk_below BK2.out hb); have n1_ := ak_ (bs_ HB.out hb); clear BK2 HB hb; have BK2 := n0_; have HB := n1_; clear n0_ n1_
  refine hK.out _ _ ⟨(blk_cell BK2.out 0).trans rfl, (blk_cell BK2.out 1).trans rfl, (blk_cell BK2.out 2).trans rfl⟩ (fun hHeld => ?_)
  clear hK K
  refine nm_ ?_
  refine pu_ 5 10 12 63 ?_
  refine pu_ 6 11 12 127 ?_
  refine pure_ (i := 7) (N := some 12) (v := undef) (a' := ?_) (mb_ 12 255) rfl rfl (any_of HT_.out (by kernel_rfl)) (fun _ _ _ h => h) (Or.inr ⟨by rfl, rfl⟩) ?_ ?_
  rotate_left
  ·simp only [Act.put, setIfInBounds_toArray, set_cons_zero, set_cons_succ, i64_w, i32_w]
   rfl
  refine pure_ (i := 8) (N := some 13) (v := undef) (a' := ?_) (mb_ 12 511) rfl rfl (any_of HT_.out (by kernel_rfl)) (fun _ _ _ h => h) (Or.inr ⟨by rfl, rfl⟩) ?_ ?_
  rotate_left
  ·simp only [Act.put, setIfInBounds_toArray, set_cons_zero, set_cons_succ, i64_w, i32_w]
   rfl
  refine pure_ (i := 9) (N := some 14) (v := undef) (a' := ?_) (mb_ 12 1023) rfl rfl (any_of HT_.out (by kernel_rfl)) (fun _ _ _ h => h) (Or.inr ⟨by rfl, rfl⟩) ?_ ?_
  rotate_left
  ·simp only [Act.put, setIfInBounds_toArray, set_cons_zero, set_cons_succ, i64_w, i32_w]
   rfl
  refine pu_ 10 15 12 2047 ?_
  refine pu_ 11 4 12 4095 ?_
  refine done_ (done_of HT_.out (by kernel_rfl)) ?_
  try go_wp2
  first | go_ret | go_ret2
  exact ⟨rfl, (bb_ HB.out)⟩
end Go.Proofs.Ythkchdfkeieabaa.QGr
