/- Contracts of functions of the given program, walked: each call returns what its Lean function says. Conditions: those that stand at each theorem. (Written by a program of this session.) -/
import Derived.Test.YtmdbhpbogbekmaaQNtx0
import Derived.Test.YtmdbhpbogbekmaaQNtx6
namespace Go.Proofs.Ytmdbhpbogbekmaa.QNt
open Go.RowKit Go.Proofs.YtmdbhpbogbekmaaW.PrintWords Go.Proofs.YtmdbhpbogbekmaaW.PrintLast Go.Proofs.YtmdbhpbogbekmaaW.PrintMore
open List (setIfInBounds_toArray set_cons_zero set_cons_succ map_toArray map_cons map_nil)
attribute [local go_sem] max2_int min2_int max_two min_two max_three min_three max_four min_four
set_option linter.unusedVariables false
set_option maxHeartbeats 8000000
set_option maxRecDepth 100000
set_option linter.unusedSimpArgs false
section
variable {P : Program} {ops : Array Oper} {Q : Exit → Act → World → Prop}
theorem run_store_fn_ (P : Program) (w : World) (a : Addr) (m : Mode) (fn : Fn) (f c : Array Value) : (store a (.func fn f c) m).run P w = stored P w a (.func fn f c) m := run_store P w a _ m rfl
end
attribute [local go_sem] run_store_fn_
def gOn {α : Type} (st : List Int → List α → Option (List α)) (most : Int) : List Int → List Int → List α → Option (List α)
 | [], _, acc => some acc
 | x :: P, l, acc => if (l.length : Int) < most then (st (l ++ [x]) acc).bind fun a1 => (gOn st most P (l ++ [x]) a1).bind fun a => gOn st most P l a else some acc
def GpFr (g : Nat) (v v' : Value) (W w' : World) : Prop := W.heap.size ≤ w'.heap.size ∧ (∀ k, k < W.heap.size → k ≠ g → some k ≠ v.ownBlock → w'.heap[k]? = W.heap[k]?) ∧ (v'.ownBlock = v.ownBlock ∨ ∀ b, v'.ownBlock = some b → W.heap.size ≤ b)
theorem GpFr.below {g : Nat} {v : Value} {W w' : World} (h : Below W.heap.size W w') : GpFr g v v W w' := ⟨h.size, fun k hk _ _ => h.block k hk, .inl rfl⟩
theorem GpFr.ne {g k : Nat} {v v' : Value} {W w' : World} (h : GpFr g v v' W w') (hk : k < W.heap.size) (hv : some k ≠ v.ownBlock) : some k ≠ v'.ownBlock := by
 rcases h.2.2 with e | e
 ·rw [e]; exact hv
 ·intro h2
  have := e k h2.symm
  omega
theorem GpFr.trans {g : Nat} {v v1 v2 : Value} {W w1 w2 : World} (h : GpFr g v v1 W w1) (h' : GpFr g v1 v2 w1 w2) : GpFr g v v2 W w2 := by
 refine ⟨Nat.le_trans h.1 h'.1, fun k hk hg hv => (h'.2.1 k (Nat.lt_of_lt_of_le hk h.1) hg (h.ne hk hv)).trans (h.2.1 k hk hg hv), ?_⟩
 rcases h'.2.2 with e | e
 ·rcases h.2.2 with e1 | e1
  ·exact .inl (e.trans e1)
  ·exact .inr (fun b hb => e1 b (by rw [← e]; exact hb))
 ·exact .inr (fun b hb => Nat.le_trans h.1 (e b hb))
theorem GpFr.at_ {g k : Nat} {v v' : Value} {W w' : World} (h : GpFr g v v' W w') (hk : k < W.heap.size) (hg : k ≠ g) (hv : some k ≠ v.ownBlock) : w'.heap[k]? = W.heap[k]? := h.2.1 k hk hg hv
theorem GpFr.row {g : Nat} {v v' : Value} {W w' : World} (h : GpFr g v v' W w') {base : Nat} {u : Value} {l : List Int} (hr : (Kd.int .i64).R 3 W base (fun k => k ≠ g ∧ some k ≠ v.ownBlock) u l) : (Kd.int .i64).R 3 w' base (fun k => k ≠ g ∧ some k ≠ v'.ownBlock) u l :=
 Kd.R_mono (Kd.R_move (Kd.R_bound hr) (fun k hk => h.2.1 k hk.2.2.1 hk.1.1 hk.1.2)) (fun k hk => ⟨hk.1.1, h.ne hk.2.2.1 hk.1.2⟩)
structure GpSt {α : Type} (d : Kd α) (e tv : Nat) (g : Nat) (w0 W : World) (v : Value) (ok : Nat → Prop) (acc : List α) : Prop where
 out : W.heap[g]? = some (.cells #[v] tv (0, 0))
 row : Kd.S d e W w0.heap.size ok v acc
 bel : Below w0.heap.size w0 W
 ge : w0.heap.size ≤ g
section
variable {α : Type} {d : Kd α} {e tv : Nat}
theorem GpSt.up {g : Nat} {w0 W w' : World} {v : Value} {ok : Nat → Prop} {acc : List α} (h : GpSt d e tv g w0 W v ok acc) (hb : Below W.heap.size W w') : GpSt d e tv g w0 w' v ok acc := ⟨blk_below h.out hb, Kd.S_below h.row hb, bs_ h.bel hb, h.ge⟩
theorem GpSt.any {g : Nat} {w0 W : World} {v : Value} {ok : Nat → Prop} {acc : List α} (h : GpSt d e tv g w0 W v ok acc) : GpSt d e tv g w0 W v (fun _ => True) acc := ⟨h.out, Kd.S_mono h.row (fun _ _ => trivial), h.bel, h.ge⟩
theorem GpSt.old {g : Nat} {w0 W : World} {v u : Value} {ok : Nat → Prop} {acc : List α} (h : GpSt d e tv g w0 W v ok acc) (hu : ∀ k, u.ownBlock = some k → W.heap.size ≤ k) : GpSt d e tv g w0 W v (fun k => some k ≠ u.ownBlock) acc :=
 ⟨h.out, Kd.S_mono (Kd.S_bound h.row) (fun k hk e => by have := hu k e.symm; have := hk.2.2.1; omega), h.bel, h.ge⟩
theorem GpSt.new {g : Nat} {w0 W w' : World} {v u : Value} {ok ok2 : Nat → Prop} {acc : List α} {l : List Int} {n : Nat} (h : GpSt d e tv g w0 W v ok acc) (hn : W.heap.size ≤ n) (hr : (Kd.int .i64).R 3 w' n ok2 u l) : (Kd.int .i64).R 3 w' n (fun k => k ≠ g ∧ some k ≠ v.ownBlock) u l :=
 Kd.R_mono (Kd.R_bound hr) (fun k hk => ⟨fun e_ => by have := blk_lt h.out; have := hk.2.1; omega, fun e_ => by have := Kd.S_lt h.row k e_.symm; have := hk.2.1; omega⟩)
end
theorem gp_row {W : World} {base : Nat} {ok : Nat → Prop} {v : Value} {l : List Int} (h : (Kd.int .i64).R 3 W base ok v l) : ∃ A c, v = .slice A l.length c ∧ l.length ≤ c ∧ (Kd.int .i64).C W A l.length l := by
 obtain ⟨A, c, rfl⟩ := Kd.R_slice h
 obtain ⟨_, h1, h2⟩ := Kd.R_reads' h
 exact ⟨A, c, rfl, h1, h2⟩
theorem gp_at {W : World} {base : Nat} {ok : Nat → Prop} {ad : Addr} {n c : Nat} {P : List Int} (h : (Kd.int .i64).R 3 W base ok (.slice (some ad) n c) P) (i : Int) (h0 : 0 ≤ i) (h1 : i < (P.length : Int)) : W.cell? (ad.add i.toNat) = some (.int .i64 (rd P i)) := by
 obtain ⟨ad', e, hc⟩ := Kd.at_int (Kd.R_reads' h).2.2 i h0 h1
 cases e
 exact hc
theorem gp_some {W : World} {base : Nat} {ok : Nat → Prop} {Ap : Option Addr} {n c : Nat} {P : List Int} (h : (Kd.int .i64).R 3 W base ok (.slice Ap n c) P) (h1 : 0 < P.length) : ∃ ad, Ap = some ad := by
 obtain ⟨ad', e, -⟩ := Kd.at_int (Kd.R_reads' h).2.2 0 (by omega) (by omega)
 exact ⟨ad', e⟩
def gpB (Bp Bm Be Bo : Nat) : Array Value := #[.pointer (some ⟨Bp, 0, none⟩), .pointer (some ⟨Bm, 0, none⟩), .pointer (some ⟨Be, 0, none⟩), .pointer (some ⟨Bo, 0, none⟩)]
structure GpX (g : Nat) (Bp Bm Be Bo : Nat) (vp : Value) (most : Int) (ne : Nat) (eb : Array Value) (W : World) (v : Value) : Prop where
 p : W.heap[Bp]? = some (.cells #[vp] 22 (0, 0))
 m : W.heap[Bm]? = some (.cells #[.int .i64 most] 3 (0, 0))
 e : W.heap[Be]? = some (.cells #[.func (.func ne) #[] eb] 101 (0, 0))
 o : W.heap[Bo]? = some (.cells #[.func (.func 104) #[] (gpB Bp Bm Be Bo)] 111 (0, 0))
 aw : ∀ k, (k = Bp ∨ k = Bm ∨ k = Be ∨ k = Bo) → k ≠ g ∧ some k ≠ v.ownBlock
theorem GpX.up {g Bp Bm Be Bo ne : Nat} {vp v : Value} {most : Int} {eb : Array Value} {W w' : World} (h : GpX g Bp Bm Be Bo vp most ne eb W v) (hb : Below W.heap.size W w') : GpX g Bp Bm Be Bo vp most ne eb w' v :=
 ⟨blk_below h.p hb, blk_below h.m hb, blk_below h.e hb, blk_below h.o hb, h.aw⟩
theorem GpX.fr {g Bp Bm Be Bo ne : Nat} {vp v v' : Value} {most : Int} {eb : Array Value} {W w' : World} (h : GpX g Bp Bm Be Bo vp most ne eb W v) (hf : GpFr g v v' W w') : GpX g Bp Bm Be Bo vp most ne eb w' v' := by
 have a1 := h.aw Bp (.inl rfl)
 have a2 := h.aw Bm (.inr (.inl rfl))
 have a3 := h.aw Be (.inr (.inr (.inl rfl)))
 have a4 := h.aw Bo (.inr (.inr (.inr rfl)))
 refine ⟨(hf.at_ (blk_lt h.p) a1.1 a1.2).trans h.p, (hf.at_ (blk_lt h.m) a2.1 a2.2).trans h.m, (hf.at_ (blk_lt h.e) a3.1 a3.2).trans h.e, (hf.at_ (blk_lt h.o) a4.1 a4.2).trans h.o, ?_⟩
 rintro k (rfl | rfl | rfl | rfl)
 ·exact ⟨a1.1, hf.ne (blk_lt h.p) a1.2⟩
 ·exact ⟨a2.1, hf.ne (blk_lt h.m) a2.2⟩
 ·exact ⟨a3.1, hf.ne (blk_lt h.e) a3.2⟩
 ·exact ⟨a4.1, hf.ne (blk_lt h.o) a4.2⟩
def GpEach {α : Type} (d : Kd α) (e tv : Nat) (st : List Int → List α → Option (List α)) (g ne : Nat) (eb : Array Value) (w0 : World) : Prop :=
 ∀ (W : World) (v vL : Value) (l : List Int) (acc a1 : List α), GpSt d e tv g w0 W v (fun k => some k ≠ vL.ownBlock) acc → (Kd.int .i64).R 3 W w0.heap.size (fun k => k ≠ g ∧ some k ≠ v.ownBlock) vL l → st l acc = some a1 →
  Calls Try.prog ne (#[vL] ++ eb) W fun e_ w' => e_ = .returned (.tuple #[]) ∧ ∃ v', GpSt d e tv g w0 w' v' (fun _ => True) a1 ∧ GpFr g v v' W w'
def impl_groups_1.T3 : Bool × List (List Nat × List Nat) := (true, [([], []), ([0], [0]), ([], []), ([], []), ([2, 3], [2, 3]), ([4], [4]), ([5], [5]), ([1, 6, 1], [1, 6]), ([7, 7, 0, 1, 2, 3, 4, 5, 6, 7], [7])])
def impl_groups_1.B3 : List Nat := [0, 1, 0, 0, 12, 28, 60, 127, 255]
theorem impl_groups_1.T3_ : rtab .any (opsOf Try.f104 3) = impl_groups_1.T3 := by kernel_rfl
theorem impl_groups_1.B3_ : waitsOk impl_groups_1.T3.2 impl_groups_1.B3 = true := by kernel_rfl
theorem gp_on {α : Type} (d0 : Kd α) (e0 tv : Nat) (st : List Int → List α → Option (List α)) (g ne : Nat) (eb : Array Value) (w0 : World) (Bp Bm Be Bo : Nat) (Ap : Option Addr) (cp : Nat) (P : List Int) (most : Int) (ee : ∀ args w, (callFunc ne args).run Try.prog w = .ok (.enter ne args) w) (hE : GpEach d0 e0 tv st g ne eb w0) (hP : P.length ≤ 100) (d : Nat)
  (hI : ∀ (d' : Nat) (i : Nat) (l : List Int) (vL v : Value) (acc acc' : List α) (W : World), d' < d → i + d' = P.length → l.length + d' ≤ 200 → GpSt d0 e0 tv g w0 W v (fun _ => True) acc → (Kd.int .i64).R 3 W w0.heap.size (fun k => k ≠ g ∧ some k ≠ v.ownBlock) vL l → (Kd.int .i64).R 3 W w0.heap.size (fun k => k ≠ g ∧ some k ≠ v.ownBlock) (.slice Ap P.length cp) P → GpX g Bp Bm Be Bo (.slice Ap P.length cp) most ne eb W v → gOn st most (P.drop i) l acc = some acc' →
   Calls Try.prog 104 (#[.int .i64 (i : Int), vL] ++ gpB Bp Bm Be Bo) W fun e w' => e = .returned (.tuple #[]) ∧ ∃ v', GpSt d0 e0 tv g w0 w' v' (fun _ => True) acc' ∧ GpFr g v v' W w')
  (i : Nat) (l : List Int) (vL v : Value) (acc acc' : List α) (W : World) (hi : i + d = P.length) (hl : l.length + d ≤ 200) (hst : GpSt d0 e0 tv g w0 W v (fun _ => True) acc) (hr : (Kd.int .i64).R 3 W w0.heap.size (fun k => k ≠ g ∧ some k ≠ v.ownBlock) vL l) (hp : (Kd.int .i64).R 3 W w0.heap.size (fun k => k ≠ g ∧ some k ≠ v.ownBlock) (.slice Ap P.length cp) P) (hx : GpX g Bp Bm Be Bo (.slice Ap P.length cp) most ne eb W v) (h : gOn st most (P.drop i) l acc = some acc') :
  Calls Try.prog 104 (#[.int .i64 (i : Int), vL] ++ gpB Bp Bm Be Bo) W fun e w' => e = .returned (.tuple #[]) ∧ ∃ v', GpSt d0 e0 tv g w0 w' v' (fun _ => True) acc' ∧ GpFr g v v' W w' := by
 obtain ⟨A0, c0, rfl, hle, -⟩ := gp_row hr
 have ST := ak_ hst
 have RL := ak_ hr
 have PL := ak_ hp
 have GX := ak_ hx
 have FR := ak_ (GpFr.below (g := g) (v := v) (Below.refl W.heap.size W))
 have HE := ak_ hE
 have HM := ak_ (And.intro hl (And.intro hP (And.intro hle hi)))
 have H := ak_ h
 have HCl2 := ak_ fun (W1 : World) (ok1 : Nat → Prop) (h1 : (Kd.int .i64).R 3 W1 w0.heap.size ok1 (.slice A0 l.length c0) l) => slices_Clone_int_int.calls A0 c0 l l W1 (Kd.R_reads' h1).2.2 hle (by unfold slices_Clone_int_int.f; rw [if_pos (by omega)])
 unfold gpB at hI ⊢
 simp only [List.append_toArray, List.cons_append, List.nil_append] at hI
 have HI := ak_ hI
 have HX := ak_ fun (W : World) (v : Value) (h : GpX g Bp Bm Be Bo (.slice Ap P.length cp) most ne eb W v) => (show W.heap[Bo]? = some (.cells #[.func (.func 104) #[] #[.pointer (some ⟨Bp, 0, none⟩), .pointer (some ⟨Bm, 0, none⟩), .pointer (some ⟨Be, 0, none⟩), .pointer (some ⟨Bo, 0, none⟩)]] 111 (0, 0)) from h.o)
 clear hi hl hst hr hp hx h hE hP hle hI
 go_enter Try.func104, Try.ntmps104
 go_wp2
 go_loopg [8] d (fun gg v8 wr => ∃ (j : Nat) (a1 : List α) (v1 : Value), v8 = .int .i64 (j : Int) ∧ i ≤ j ∧ j ≤ P.length ∧ P.length - j ≤ gg ∧ Aside0 (gOn st most (P.drop j) l a1 = some acc') ∧ Aside0 (GpSt d0 e0 tv g w0 wr v1 (fun _ => True) a1) ∧ Aside0 ((Kd.int .i64).R 3 wr w0.heap.size (fun k => k ≠ g ∧ some k ≠ v1.ownBlock) (.slice A0 l.length c0) l) ∧ Aside0 ((Kd.int .i64).R 3 wr w0.heap.size (fun k => k ≠ g ∧ some k ≠ v1.ownBlock) (.slice Ap P.length cp) P) ∧ Aside0 (GpX g Bp Bm Be Bo (.slice Ap P.length cp) most ne eb wr v1) ∧ Aside0 (GpFr g v v1 W wr))
 case atStart => exact ⟨i, acc, v, rfl, Nat.le_refl _, by have := HM.out; omega, by have := HM.out; omega, H, ⟨ST.out.up be_⟩, ⟨Kd.R_below RL.out be_⟩, ⟨Kd.R_below PL.out be_⟩, ⟨GX.out.up be_⟩, ⟨FR.out.trans (GpFr.below be_)⟩⟩
 case round =>
  clear H ST RL PL GX FR
  obtain ⟨j, a1, v1, rfl, hij, hjP, hg, H, ST, RL, PL, GX, FR⟩ := hrel
  have hp0 := (blk_cell GX.out.p 0)
  have hm0 := (blk_cell GX.out.m 0)
  simp at hp0
  simp at hm0
  by_cases hlt : j < P.length
  ·have q1 : decide ((j : Int) < (P.length : Int)) = true := decide_eq_true (by omega)
   have q1n : decide (j < P.length) = true := decide_eq_true hlt
   have q1p : (j < P.length) = True := eq_true hlt
   have h := H.out
   rw [drop_at_i64 hlt] at h
   simp only [gOn] at h
   by_cases hlm : (l.length : Int) < most
   ·have q2 : decide ((l.length : Int) < most) = true := decide_eq_true hlm
    rw [if_pos hlm] at h
    obtain ⟨ad, rfl⟩ := gp_some PL.out (by omega)
    obtain ⟨a0, h0, h⟩ := Option.bind_eq_some_iff.mp h
    obtain ⟨a2, h1, h2⟩ := Option.bind_eq_some_iff.mp h
    have HA := ak_ h0
    have H1 := ak_ h1
    have H2 := ak_ h2
    have hw : IntKind.i64.wrap ((j : Int) + 1) = ((j + 1 : Nat) : Int) := by rw [IntWalk.i64_in _ ⟨by omega, by have := HM.out; omega⟩]; omega
    have HN := ak_ (And.intro hlt (And.intro hg hij))
    have j0 : (0 : Int) ≤ (j : Int) := by omega
    have j1 : (j : Int) < (P.length : Int) := by omega
    have J0 := ak_ j0
    have J1 := ak_ j1
    have j0e := eq_true j0
    have j1e := eq_true j1
    obtain ⟨x, hxe⟩ : ∃ x, x = rd P (j : Int) := ⟨_, rfl⟩
    have HXE := ak_ hxe
    clear h h0 h1 h2 hlt hlm hg hij hjP j0 j1 hxe H
    go_upto_region 3 with (fail)
    clear hp0 hm0
    try go_wp2
    have n0_ := ak_ (ST.out.up (below_drew (Below.refl _ _)))
    have n1_ := ak_ (Kd.R_drew RL.out)
    have n2_ := ak_ (Kd.R_drew PL.out)
    have n3_ := ak_ (GX.out.up (below_drew (Below.refl _ _)))
    have n4_ := ak_ (FR.out.trans (GpFr.below (below_drew (Below.refl _ _))))
    clear ST RL PL GX FR
    have ST := n0_; have RL := n1_; have PL := n2_; have GX := n3_; have FR := n4_
    clear n0_ n1_ n2_ n3_ n4_
    refine start_ (n := 9) (S := fun w' => w'.cell? ⟨Bp, 0, none⟩ = some (.slice (some ad) P.length cp) ∧ w'.cell? (ad.add j) = some (.int .i64 x)) (ds := [8]) (mb_ 9 0) (by kernel_rfl) rfl rfl ⟨(blk_cell GX.out.p 0).trans rfl, by have h_ := gp_at PL.out (j : Int) J0.out J1.out; rw [Int.toNat_natCast, ← HXE.out] at h_; exact h_⟩ (fun hHeld => ?_); refine with_tabW impl_groups_1.T3_ impl_groups_1.B3_ (fun HT_ HW_ => ?_)
    generalize wr.drew = w9 at ST RL PL GX FR hHeld ⊢
    refine pu_ 0 23 9 1 ?_
    refine tk_ 2 25 9 5 ?_ (hy := by rintro w' ⟨s0, s1⟩; go_simp; with_reducible rfl)
    refine pu_ 3 26 9 13 ?_
    refine pu_ 4 27 9 29 ?_
    refine tk_ 5 28 9 61 ?_ (hy := by rintro w' ⟨s0, s1⟩; go_simp; with_reducible rfl)
    refine join_ (σ := Value × Value) 2 (mb_ 9 127) (fun s_ => [(24, s_.1), (29, s_.2)]) (fun s_ w' => (w'.cell? ⟨Bp, 0, none⟩ = some (.slice (some ad) P.length cp) ∧ w'.cell? (ad.add j) = some (.int .i64 x)) ∧ (Kd.int .i64).R 3 w' w9.heap.size (fun _ => True) s_.1 l ∧ (∃ A c, s_.2 = .slice A 1 c ∧ (Kd.int .i64).C w' A 1 [x]) ∧ Below w9.heap.size w9 w') ?_ ?_
    rotate_left
    ·intro hCont
     refine two_ (i := 1) (j := 6) (Ni := some 24) (Nj := some 29) (mb_ 9 63) (mb_ 9 125) rfl rfl rfl rfl (two_of HT_.out (by kernel_rfl)) (by decide) (by decide) (fun K hK => ?_) (fun K hK => ?_)
     ·refine goes_ Try.func70 (by kernel_rfl) rfl #[.slice A0 l.length c0] (by rfl) rfl rfl (by first | rfl | (simp only [map_toArray, map_cons, map_nil]; try rfl)) ?_
      refine (HCl2.out _ _ RL.out).mono ?_
      rintro e w5 ⟨s1, rfl, hR0, hb0⟩
      have hR := ak_ hR0
      have hb3 := ak_ hb0
      have hb1 := ak_ hb0
      clear hR0 hb0
      refine ⟨_, rfl, ?_⟩
      refine hK.out _ _ ⟨(blk_cell (GX.out.up hb1.out).p 0).trans rfl, by have h_ := gp_at (Kd.R_below PL.out hb1.out) (j : Int) J0.out J1.out; rw [Int.toNat_natCast, ← HXE.out] at h_; exact h_⟩ (fun hHeld => ?_)
      clear hK K
      refine nm_ ?_
      clear hb3
      refine on_ 6 29 9 127 (fun K hK => ?_)
      refine Kd.R_lit_step (Kd.int .i64) _ 3 ?hg (N := 29) ?hd (xs := [x]) (inner := [.int .i64 x]) (ok := fun _ => True) (okp := fun _ => True) ?hr ?hp (fun _ hk => hk) trivial (Below.refl _ _) (Nat.le_refl _) (by simp) ?_; (case hd => rfl); (case hg => rfl); (case hr => go_simp <;> rfl); (case hp => exact (Reps.one (show Kd.M (Kd.int .i64) _ _ _ x [.int .i64 x] from rfl) (Reps.none _ _)))
      intro s2 w6 ho0 hb0 hg_ hnew_
      clear hg_ hnew_
      have hO := ak_ ho0
      have hb3 := ak_ hb0
      have hb2 := ak_ (bs_ hb1.out hb0)
      clear ho0 hb0
      refine hK.out _ _ ⟨(blk_cell (GX.out.up hb2.out).p 0).trans rfl, by have h_ := gp_at (Kd.R_below PL.out hb2.out) (j : Int) J0.out J1.out; rw [Int.toNat_natCast, ← HXE.out] at h_; exact h_⟩ (fun hHeld => ?_)
      clear hK K
      refine nm_ ?_
      exact norm_ (by simp only [putAll, Act.put, setIfInBounds_toArray, set_cons_zero, set_cons_succ]) (hCont (s1, s2) _ ⟨hHeld, Kd.R_below hR.out hb3.out, (by obtain ⟨A2, c2, rfl⟩ := Kd.R_slice hO.out; exact ⟨A2, c2, rfl, (Kd.R_reads' hO.out).2.2⟩), hb2.out⟩)
     ·refine Kd.R_lit_step (Kd.int .i64) _ 3 ?hg (N := 29) ?hd (xs := [x]) (inner := [.int .i64 x]) (ok := fun _ => True) (okp := fun _ => True) ?hr ?hp (fun _ hk => hk) trivial (Below.refl _ _) (Nat.le_refl _) (by simp) ?_; (case hd => rfl); (case hg => rfl); (case hr => go_simp <;> rfl); (case hp => exact (Reps.one (show Kd.M (Kd.int .i64) _ _ _ x [.int .i64 x] from rfl) (Reps.none _ _)))
      intro s2 w5 ho0 hb0 hg_ hnew_
      clear hg_ hnew_
      have hO := ak_ ho0
      have hb3 := ak_ hb0
      have hb1 := ak_ hb0
      clear ho0 hb0
      refine hK.out _ _ ⟨(blk_cell (GX.out.up hb1.out).p 0).trans rfl, by have h_ := gp_at (Kd.R_below PL.out hb1.out) (j : Int) J0.out J1.out; rw [Int.toNat_natCast, ← HXE.out] at h_; exact h_⟩ (fun hHeld => ?_)
      clear hK K
      refine nm_ ?_
      clear hb3
      refine on_ 1 24 9 127 (fun K hK => ?_)
      refine goes_ Try.func70 (by kernel_rfl) rfl #[.slice A0 l.length c0] (by rfl) rfl rfl (by first | rfl | (simp only [map_toArray, map_cons, map_nil]; try rfl)) ?_
      refine (HCl2.out _ _ (Kd.R_below RL.out hb1.out)).mono ?_
      rintro e w6 ⟨s1, rfl, hR0, hb0⟩
      have hR := ak_ hR0
      have hb3 := ak_ hb0
      have hb2 := ak_ (bs_ hb1.out hb0)
      clear hR0 hb0
      refine ⟨_, rfl, ?_⟩
      refine hK.out _ _ ⟨(blk_cell (GX.out.up hb2.out).p 0).trans rfl, by have h_ := gp_at (Kd.R_below PL.out hb2.out) (j : Int) J0.out J1.out; rw [Int.toNat_natCast, ← HXE.out] at h_; exact h_⟩ (fun hHeld => ?_)
      clear hK K
      refine nm_ ?_
      exact norm_ (by simp only [putAll, Act.put, setIfInBounds_toArray, set_cons_zero, set_cons_succ]) (hCont (s1, s2) _ ⟨hHeld, Kd.R_lower hR.out hb1.out.size, (by obtain ⟨A2, c2, rfl⟩ := Kd.R_slice (Kd.R_below hO.out hb3.out); exact ⟨A2, c2, rfl, (Kd.R_reads' (Kd.R_below hO.out hb3.out)).2.2⟩), hb2.out⟩)
    rintro ⟨s1, s2⟩ w2 ⟨hHeld, h1_, ⟨A2, c2, h2_, h3_⟩, h4_⟩
    dsimp only at h1_ h2_
    subst h2_
    have hR := ak_ h1_
    have hL := ak_ h3_
    have hB := ak_ h4_
    clear h1_ h3_ h4_
    refine norm_ (a' := ?_) ?_ ?_
    rotate_left
    ·simp only [putAll, Act.put, setIfInBounds_toArray, set_cons_zero, set_cons_succ]
     rfl
    refine on_ 7 30 9 255 (fun K hK => ?_)
    refine Kd.R_append_rows_step (Kd.int .i64) (w0 := w9) w9.heap.size (by rfl) (.tmp 24) (.tmp 29) 22 3 (.int .i64 0) 8 rfl Try.underlying22 info3 rfl (by decide) (by omega) s1 l [x] A2 1 c2 (fun _ => True) (fun _ => False) rfl rfl ?aO ?aR (fun _ _ h => h) (fun _ h => h.elim) ?aF ?aB ?aS ?aL ?_
    (case aO => exact hR.out)
    (case aR => exact hL.out)
    (case aB => exact hB.out)
    (case aF => exact (fun _ _ => trivial))
    (case aS => exact hB.out.size)
    (case aL => have := HM.out; omega)
    intro v3 w3 ho hb hg_ hat_
    clear hg_ hat_ hR hL hB
    have n0_ := ak_ ((ST.out.old (u := v3) (Kd.R_base ho)).up hb)
    have n1_ := ak_ (Kd.R_below RL.out hb)
    have n2_ := ak_ (Kd.R_below PL.out hb)
    have n3_ := ak_ (GX.out.up hb)
    have n4_ := ak_ (FR.out.trans (GpFr.below hb))
    have HO := ak_ (Kd.R_lower (ST.out.new (Nat.le_refl _) ho) (bz_ ST.out.bel))
    clear ST RL PL GX FR ho hb
    have ST := n0_; have RL := n1_; have PL := n2_; have GX := n3_; have FR := n4_
    clear n0_ n1_ n2_ n3_ n4_
    refine hK.out _ _ ⟨(blk_cell GX.out.p 0).trans rfl, by have h_ := gp_at PL.out (j : Int) J0.out J1.out; rw [Int.toNat_natCast, ← HXE.out] at h_; exact h_⟩ (fun hHeld => ?_)
    clear hK K
    refine nm_ ?_
    refine pu_ 8 9 9 511 ?_
    refine done_ (done_of HT_.out (by kernel_rfl)) ?_
    have he0 := (blk_cell GX.out.e 0)
    simp at he0
    go_upto_region 5 with (go_at_fn ne; refine (HE.out _ v1 v3 (l ++ [x]) a1 a0 ST.out HO.out (by rw [HXE.out]; exact HA.out)).mono ?_; rintro e w8 ⟨rfl, v5, hst5, hfr5⟩; have n0_ := ak_ hst5; have n1_ := ak_ (hfr5.row RL.out); have n2_ := ak_ (hfr5.row PL.out); have n3_ := ak_ (GX.out.fr hfr5); have n4_ := ak_ (FR.out.trans hfr5); have n5_ := ak_ (hfr5.row HO.out); clear ST RL PL GX FR HO hst5 hfr5; have ST := n0_; have RL := n1_; have PL := n2_; have GX := n3_; have FR := n4_; have HO := n5_; clear n0_ n1_ n2_ n3_ n4_ n5_)
    clear he0
    have ho0 := (blk_cell (HX.out _ _ GX.out) 0)
    simp at ho0
    go_wp2_with (refine (HI.out (P.length - (j + 1)) (j + 1) (l ++ [x]) v3 v5 a0 a2 _ (by have := HN.out; have := HM.out; omega) (by have := HN.out; omega) (by have := HM.out; have := HN.out; rw [List.length_append, List.length_singleton]; omega) (ST.out.up be_) (Kd.R_below HO.out be_) (Kd.R_below PL.out be_) (GX.out.up be_) (by rw [HXE.out]; exact H1.out)).mono ?_; rintro e w9 ⟨rfl, v6, hst6, hfr6⟩; have n0_ := ak_ hst6; have n1_ := ak_ (hfr6.row (Kd.R_below RL.out be_)); have n2_ := ak_ (hfr6.row (Kd.R_below PL.out be_)); have n3_ := ak_ ((GX.out.up be_).fr hfr6); have n4_ := ak_ (FR.out.trans ((GpFr.below be_).trans hfr6)); clear ST RL PL GX FR HO hst6 hfr6; have ST := n0_; have RL := n1_; have PL := n2_; have GX := n3_; have FR := n4_; clear n0_ n1_ n2_ n3_ n4_)
    go_roundg (P.length - (j + 1))
    case measure => have := HN.out; omega
    case rel => exact ⟨j + 1, a2, v6, (ry_), by have := HN.out; omega, by have := HN.out; omega, Nat.le_refl _, H2, ⟨ST.out.up be_⟩, ⟨Kd.R_below RL.out be_⟩, ⟨Kd.R_below PL.out be_⟩, ⟨GX.out.up be_⟩, ⟨FR.out.trans (GpFr.below be_)⟩⟩
   ·have q2 : decide ((l.length : Int) < most) = false := decide_eq_false hlm
    rw [if_neg hlm] at h
    obtain rfl := Option.some.inj h
    clear h H hg hlm hlt hij hjP
    go_wp2
    go_end0
    first | exact ⟨rfl, ⟨v1, ST.out.up be_, FR.out.trans (GpFr.below be_)⟩⟩ | exact ⟨rfl, v1, ST.out.up be_, FR.out.trans (GpFr.below be_)⟩
  ·have q1 : decide ((j : Int) < (P.length : Int)) = false := decide_eq_false (by omega)
   have q1n : decide (j < P.length) = false := decide_eq_false hlt
   have q1p : (j < P.length) = False := eq_false hlt
   have h := H.out
   rw [List.drop_of_length_le (by omega)] at h
   obtain rfl := Option.some.inj (show some a1 = some acc' from h)
   clear h H hg hlt hij hjP
   go_wp2
   go_end0
   first | exact ⟨rfl, ⟨v1, ST.out.up be_, FR.out.trans (GpFr.below be_)⟩⟩ | exact ⟨rfl, v1, ST.out.up be_, FR.out.trans (GpFr.below be_)⟩
theorem gp_calls {α : Type} (d0 : Kd α) (e0 tv : Nat) (st : List Int → List α → Option (List α)) (g ne : Nat) (eb : Array Value) (w0 : World) (Bp Bm Be Bo : Nat) (Ap : Option Addr) (cp : Nat) (P : List Int) (most : Int) (ee : ∀ args w, (callFunc ne args).run Try.prog w = .ok (.enter ne args) w) (hE : GpEach d0 e0 tv st g ne eb w0) (hP : P.length ≤ 100) :
  ∀ (d : Nat) (i : Nat) (l : List Int) (vL v : Value) (acc acc' : List α) (W : World), i + d = P.length → l.length + d ≤ 200 → GpSt d0 e0 tv g w0 W v (fun _ => True) acc → (Kd.int .i64).R 3 W w0.heap.size (fun k => k ≠ g ∧ some k ≠ v.ownBlock) vL l → (Kd.int .i64).R 3 W w0.heap.size (fun k => k ≠ g ∧ some k ≠ v.ownBlock) (.slice Ap P.length cp) P → GpX g Bp Bm Be Bo (.slice Ap P.length cp) most ne eb W v → gOn st most (P.drop i) l acc = some acc' →
   Calls Try.prog 104 (#[.int .i64 (i : Int), vL] ++ gpB Bp Bm Be Bo) W fun e w' => e = .returned (.tuple #[]) ∧ ∃ v', GpSt d0 e0 tv g w0 w' v' (fun _ => True) acc' ∧ GpFr g v v' W w' := by
 intro d
 induction d using Nat.strongRecOn with
 | _ d ih => exact fun i l vL v acc acc' W h1 h2 h3 h4 h5 h6 h7 => gp_on d0 e0 tv st g ne eb w0 Bp Bm Be Bo Ap cp P most ee hE hP d (fun d' i l vL v acc acc' W hd k1 k2 k3 k4 k5 k6 k7 => ih d' hd i l vL v acc acc' W k1 k2 k3 k4 k5 k6 k7) i l vL v acc acc' W h1 h2 h3 h4 h5 h6 h7
theorem groups_calls {α : Type} (d0 : Kd α) (e0 tv : Nat) (st : List Int → List α → Option (List α)) (g ne : Nat) (eb : Array Value) (w0 : World) (Ap : Option Addr) (cp : Nat) (P : List Int) (most : Int) (ee : ∀ args w, (callFunc ne args).run Try.prog w = .ok (.enter ne args) w) (hE : GpEach d0 e0 tv st g ne eb w0) (hP : P.length ≤ 100)
  (v : Value) {acc0 : List α} (acc' : List α) (W : World) (hst : GpSt d0 e0 tv g w0 W v (fun _ => True) acc0) (hp : (Kd.int .i64).R 3 W w0.heap.size (fun k => k ≠ g ∧ some k ≠ v.ownBlock) (.slice Ap P.length cp) P) (h : gOn st most P [] acc0 = some acc') :
  Calls Try.prog 88 #[.slice Ap P.length cp, .int .i64 most, .func (.func ne) #[] eb] W fun e w' => e = .returned (.tuple #[]) ∧ ∃ v', GpSt d0 e0 tv g w0 w' v' (fun _ => True) acc' ∧ GpFr g v v' W w' := by
 have ST := ak_ hst
 have FR := ak_ (Below.refl W.heap.size W)
 have VB := ak_ fun k (hk : v.ownBlock = some k) => (show k < W.heap.size by obtain ⟨cells, hc⟩ := Kd.S_typed hst.row k hk; exact blk_lt hc)
 have HO := ak_ fun (W1 : World) (hb : Below W.heap.size W W1) (Bp Bm Be Bo : Nat) (hx : GpX g Bp Bm Be Bo (.slice Ap P.length cp) most ne eb W1 v) =>
  gp_calls d0 e0 tv st g ne eb w0 Bp Bm Be Bo Ap cp P most ee hE hP P.length 0 [] (.slice none 0 0) v acc0 acc' W1 (by omega) (by simp; omega) (hst.up hb) (Kd.R_nil _ _ _ _ _) (Kd.R_below hp hb) hx (by rw [List.drop_zero]; exact h)
 clear hst hp hE h hP
 unfold gpB at HO
 go_enter Try.func88, Try.ntmps88
 go_upto_region 3 with (first | ((with_reducible refine gate_dst (N := 3) rfl ?_); refine bx_ 3 #[.slice Ap P.length cp] 22 ?_; intro gb3 hg w3 hbox hb; have nb_ := ak_ (bs_ (by repeat (first | (with_reducible first | exact FR.out | apply ba_ | apply bN_ | apply b1_) | exact FR.out)) hb); have nc_ := ak_ hbox; have nd_ := ak_ ((by rw [hg]; exact (bz_ (by repeat (first | (with_reducible first | exact FR.out | apply ba_ | apply bN_ | apply b1_) | exact FR.out))) : W.heap.size ≤ gb3)); clear FR hb hbox hg; have FR := nb_; have BK3 := nc_; have GE3 := nd_; clear nb_ nc_ nd_; have hz3_0 := (blk_cell BK3.out 0); have hf3_0 := (blk_frozen BK3.out 0); simp at hz3_0; skip) | ((with_reducible refine gate_dst (N := 4) rfl ?_); refine bx_ 4 #[.int .i64 most] 3 ?_; intro gb4 hg w4 hbox hb; have n0_ := ak_ (blk_below (pk BK3.out) hb); have m0_ := ak_ ((by rw [hg]; exact Nat.ne_of_lt (blk_lt (pk BK3.out)) : gb3 ≠ gb4)); have nb_ := ak_ (bs_ (by repeat (first | (with_reducible first | exact FR.out | apply ba_ | apply bN_ | apply b1_) | exact FR.out)) hb); have nc_ := ak_ hbox; have nd_ := ak_ ((by rw [hg]; exact (bz_ (by repeat (first | (with_reducible first | exact FR.out | apply ba_ | apply bN_ | apply b1_) | exact FR.out))) : W.heap.size ≤ gb4)); clear FR hb hbox hg; clear BK3; have BK3 := n0_; have NE3_4 := m0_; have FR := nb_; have BK4 := nc_; have GE4 := nd_; clear nb_ nc_ nd_ n0_ m0_; have hz4_0 := (blk_cell BK4.out 0); have hf4_0 := (blk_frozen BK4.out 0); simp at hz4_0; skip) | ((with_reducible refine gate_dst (N := 5) rfl ?_); refine box_event ?hg (N := 5) ?hd (cs := #[.func (.func ne) #[] eb]) (t := 101) ?hr ?_; (case hd => rfl); (case hg => rfl); (case hr => go_simp <;> rfl); intro gb5 hg w5 hbox hb; have n0_ := ak_ (blk_below (pk BK3.out) hb); have m0_ := ak_ ((by rw [hg]; exact Nat.ne_of_lt (blk_lt (pk BK3.out)) : gb3 ≠ gb5)); have n1_ := ak_ (blk_below (pk BK4.out) hb); have m1_ := ak_ ((by rw [hg]; exact Nat.ne_of_lt (blk_lt (pk BK4.out)) : gb4 ≠ gb5)); have nb_ := ak_ (bs_ (by repeat (first | (with_reducible first | exact FR.out | apply ba_ | apply bN_ | apply b1_) | exact FR.out)) hb); have nc_ := ak_ hbox; have nd_ := ak_ ((by rw [hg]; exact (bz_ (by repeat (first | (with_reducible first | exact FR.out | apply ba_ | apply bN_ | apply b1_) | exact FR.out))) : W.heap.size ≤ gb5)); clear FR hb hbox hg; clear BK3 BK4; have BK3 := n0_; have NE3_5 := m0_; have BK4 := n1_; have NE4_5 := m1_; have FR := nb_; have BK5 := nc_; have GE5 := nd_; clear nb_ nc_ nd_ n0_ m0_ n1_ m1_; have hz5_0 := (blk_cell BK5.out 0); have hf5_0 := (blk_frozen BK5.out 0); simp at hz5_0; skip) | ((with_reducible refine gate_dst (N := 6) rfl ?_); refine bx_ 6 #[.nilFunc] 111 ?_; intro gb6 hg w6 hbox hb; have n0_ := ak_ (blk_below (pk BK3.out) hb); have m0_ := ak_ ((by rw [hg]; exact Nat.ne_of_lt (blk_lt (pk BK3.out)) : gb3 ≠ gb6)); have n1_ := ak_ (blk_below (pk BK4.out) hb); have m1_ := ak_ ((by rw [hg]; exact Nat.ne_of_lt (blk_lt (pk BK4.out)) : gb4 ≠ gb6)); have n2_ := ak_ (blk_below (pk BK5.out) hb); have m2_ := ak_ ((by rw [hg]; exact Nat.ne_of_lt (blk_lt (pk BK5.out)) : gb5 ≠ gb6)); have nb_ := ak_ (bs_ (by repeat (first | (with_reducible first | exact FR.out | apply ba_ | apply bN_ | apply b1_) | exact FR.out)) hb); have nc_ := ak_ hbox; have nd_ := ak_ ((by rw [hg]; exact (bz_ (by repeat (first | (with_reducible first | exact FR.out | apply ba_ | apply bN_ | apply b1_) | exact FR.out))) : W.heap.size ≤ gb6)); clear FR hb hbox hg; clear BK3 BK4 BK5; have BK3 := n0_; have NE3_6 := m0_; have BK4 := n1_; have NE4_6 := m1_; have BK5 := n2_; have NE5_6 := m2_; have FR := nb_; have BK6 := nc_; have GE6 := nd_; clear nb_ nc_ nd_ n0_ m0_ n1_ m1_ n2_ m2_; have hz6_0 := (blk_cell BK6.out 0); have hf6_0 := (blk_frozen BK6.out 0); simp at hz6_0; skip))
 have N1 := ak_ (blk_far (p := ⟨gb6, 0, none⟩) BK3.out NE3_6.out (.func (.func 104) #[] #[.pointer (some ⟨gb3, 0, none⟩), .pointer (some ⟨gb4, 0, none⟩), .pointer (some ⟨gb5, 0, none⟩), .pointer (some ⟨gb6, 0, none⟩)]))
 have N2 := ak_ (blk_far (p := ⟨gb6, 0, none⟩) BK4.out NE4_6.out (.func (.func 104) #[] #[.pointer (some ⟨gb3, 0, none⟩), .pointer (some ⟨gb4, 0, none⟩), .pointer (some ⟨gb5, 0, none⟩), .pointer (some ⟨gb6, 0, none⟩)]))
 have N3 := ak_ (blk_far (p := ⟨gb6, 0, none⟩) BK5.out NE5_6.out (.func (.func 104) #[] #[.pointer (some ⟨gb3, 0, none⟩), .pointer (some ⟨gb4, 0, none⟩), .pointer (some ⟨gb5, 0, none⟩), .pointer (some ⟨gb6, 0, none⟩)]))
 have N4 := ak_ (blk_put (cs' := #[.func (.func 104) #[] #[.pointer (some ⟨gb3, 0, none⟩), .pointer (some ⟨gb4, 0, none⟩), .pointer (some ⟨gb5, 0, none⟩), .pointer (some ⟨gb6, 0, none⟩)]]) BK6.out 0 (.func (.func 104) #[] #[.pointer (some ⟨gb3, 0, none⟩), .pointer (some ⟨gb4, 0, none⟩), .pointer (some ⟨gb5, 0, none⟩), .pointer (some ⟨gb6, 0, none⟩)]) rfl)
 have N5 := ak_ (below_set (v := .func (.func 104) #[] #[.pointer (some ⟨gb3, 0, none⟩), .pointer (some ⟨gb4, 0, none⟩), .pointer (some ⟨gb5, 0, none⟩), .pointer (some ⟨gb6, 0, none⟩)]) (j := 0) FR.out GE6.out)
 generalize hW5 : w6.setCell ⟨gb6, 0, none⟩ _ = W5 at N1 N2 N3 N4 N5 ⊢
 have hc0 := (blk_cell N4.out 0)
 simp at hc0
 have hx := HO.out W5 N5.out gb3 gb4 gb5 gb6 ⟨N1.out, N2.out, N3.out, N4.out, by
  have hlt_ := blk_lt ST.out.out
  rintro k (rfl | rfl | rfl | rfl)
  ·exact ⟨by have := GE3.out; omega, fun e => by have := VB.out _ e.symm; have := GE3.out; omega⟩
  ·exact ⟨by have := GE4.out; omega, fun e => by have := VB.out _ e.symm; have := GE4.out; omega⟩
  ·exact ⟨by have := GE5.out; omega, fun e => by have := VB.out _ e.symm; have := GE5.out; omega⟩
  ·exact ⟨by have := GE6.out; omega, fun e => by have := VB.out _ e.symm; have := GE6.out; omega⟩⟩
 simp only [List.append_toArray, List.cons_append, List.nil_append] at hx
 have HX := ak_ hx
 clear hx hW5 HO BK3 BK4 BK5 BK6 N1 N2 N3 N4
 go_wp2_with (refine HX.out.mono ?_; rintro e w8 ⟨rfl, v', h1, h2⟩; have H1 := ak_ h1; have H2 := ak_ h2; clear h1 h2)
 go_end0
 exact ⟨rfl, v', H1.out, (GpFr.below N5.out).trans H2.out⟩
def impl_State_side.l0 : Nat → Bool → List Int → List Bool → Int → Int → Option (List Int)
 | 0, _, _, _, _, _ => none
 | k + 1, x1, x5, x10, x11, x12 => if x12 < x11 then (if 0 ≤ x12 then (if x12 < (x10.length : Int) then (if ((rdOf false x10 x12) == x1) = true then (if x5.length < 17592186044416 then (impl_State_side.l0 k x1 (x5 ++ [x12]) x10 x11 (wrap64 (x12 + 1))) else (none)) else (impl_State_side.l0 k x1 x5 x10 x11 (wrap64 (x12 + 1)))) else (none)) else (none)) else (some x5)
def impl_State_side.f (k : Nat) (l0_0 : List Bool) (a0_1 : Bool) (a1 : Bool) : Option (List Int) := impl_State_side.l0 k a1 (([] : List Int)) l0_0 (l0_0.length : Int) 0
theorem impl_State_side.calls (k : Nat) (A0_0 : Option Addr) (c0_0 : Nat) (l0_0 : List Bool) (a0_1 : Bool) (a1 : Bool) (r : List Int) (w : World) (hr0_0 : Kd.C Kd.bool w A0_0 l0_0.length l0_0) (hc0_0 : l0_0.length ≤ c0_0) (h : impl_State_side.f k l0_0 a0_1 a1 = some r) :
  Calls Try.prog 89 #[.agg #[.slice A0_0 l0_0.length c0_0, .bool a0_1], .bool a1] w fun e w' => ∃ v0_ : Value, e = .returned (v0_) ∧ Kd.R (Kd.int .i64) 3 w' w.heap.size (fun _ => True) v0_ r ∧ Below w.heap.size w w' := by
 have hu94 := Try.underlying94
 have HR0_0 := ak_ hr0_0
 have HC0_0 := ak_ hc0_0
 clear hr0_0 hc0_0
 have HB := ak_ (Below.refl w.heap.size w)
 have H : (impl_State_side.l0 k a1 (([] : List Int)) l0_0 (l0_0.length : Int) 0) = some r := h
 clear h
 obtain ⟨y320, hy320⟩ : ∃ y_ : List Int, y_ = (([] : List Int)) := ⟨_, rfl⟩
 replace H : (impl_State_side.l0 k a1 y320 l0_0 (l0_0.length : Int) 0) = some r := by first | (rw [hy320]; exact H) | exact H
 have Ny320 := ak_ hy320
 clear hy320
 have H' := ak_ H
 clear H
 go_enter Try.func89, Try.ntmps89
 go_wp2_with (first | ((with_reducible refine gate_dst (N := 2) rfl ?_); refine bx_ 2 #[.slice A0_0 l0_0.length c0_0, .bool a0_1] 94 ?_; intro gb319 hg w3 hbox hb; have n0_ := ak_ (bs_ (bb_ HB.out) hb); have n1_ := ak_ (hbox); have n2_ := ak_ ((by rw [hg]; exact (bz_ (bb_ HB.out)) : w.heap.size ≤ gb319)); have n3_ := n2_; clear HB; have HB := n0_; have BK319 := n1_; have GW319 := n2_; have GE319 := n3_; clear n0_ n1_ n2_ n3_; clear hb hbox hg) | ((with_reducible refine gate_dst (N := 8) rfl ?_); refine Kd.R_lit (Kd.int .i64) _ 3 ?hg (N := 8) ?hd (xs := ([] : List Int)) (inner := []) (ok := fun _ => True) (okp := fun _ => True) ?hr ?hp (fun _ hk => hk) trivial (Below.refl _ _) (Nat.le_refl _) (by simp) ?_; (case hd => rfl); (case hg => rfl); (case hr => go_simp <;> rfl); (case hp => exact (Reps.none _ _)); intro v321 w4 ho5 hb hg_ hnew_; clear hg_ hnew_; (first | rw [← Ny320.out] at ho5 | (simp only [Int.reduceToNat] at ho5; rw [← Ny320.out] at ho5)); have n0_ := ak_ (Kd.R_lower ho5 (bz_ bl_)); have n1_ := ak_ (blk_below (pk BK319.out) hb); have n2_ := ak_ (bs_ bl_ hb); clear BK319; clear HB; have HO322 := n0_; have BK319 := n1_; have HB := n2_; clear n0_ n1_ n2_; clear hb ho5; have hcz6_0 : w4.cell? ⟨gb319, 0, none⟩ = some (.slice A0_0 l0_0.length c0_0) := (blk_cell BK319.out 0).trans rfl; have hcz6_1 : w4.cell? ⟨gb319, 1, none⟩ = some (.bool a0_1) := (blk_cell BK319.out 1).trans rfl; have hfz6_0 := blk_frozen BK319.out 0; have hfz6_1 := blk_frozen BK319.out 1))
 go_loopg [5, 12] k (fun kq v5 v12 w' => ∃ (x5_1 : List Int) (x12_1 : Int), v12 = .int .i64 x12_1 ∧ Aside0 (impl_State_side.l0 kq a1 x5_1 l0_0 (l0_0.length : Int) x12_1 = some r) ∧ Aside0 (kq ≤ k) ∧ Aside0 (Kd.R (Kd.int .i64) 3 w' w.heap.size (fun _ => True) v5 x5_1) ∧ Aside0 (w'.heap[gb319]? = some (.cells #[(.slice A0_0 l0_0.length c0_0), .bool a0_1] 94 (0, 0))) ∧ Aside0 (Below w.heap.size w w'))
 case atStart => exact ⟨(y320), (0), (ry_), H', ⟨Nat.le_refl _⟩, ⟨Kd.pR HO322.out⟩, ⟨pk BK319.out⟩, ⟨by repeat (with_reducible first | exact HB.out | apply ba_ | apply bN_ | apply b1_ | refine below_set ?_ GE319.out)⟩⟩
 case round =>
  clear H'
  try clear p2
  try clear hcz6_0
  try clear hcz6_1
  try clear hfz6_0
  try clear hfz6_1
  obtain ⟨x5_1, x12_1, rfl, HA, HK1, HO_5, BK319, HB⟩ := hrel
  cases gk with
  | zero => exact absurd HA.out (by simp [impl_State_side.l0])
  | succ k1 =>
   have H := HA.out
   clear HA
   simp only [impl_State_side.l0] at H
   by_cases c7 : x12_1 < (l0_0.length : Int)
   ·
    rw [if_pos c7] at H
    have c7b0 : decide (x12_1 < (l0_0.length : Int)) = true := decide_eq_true c7
    clear c7
    by_cases c8 : 0 ≤ x12_1
    ·
     rw [if_pos c8] at H
     have c8b0 : decide (0 ≤ x12_1) = true := decide_eq_true c8
     clear c8
     by_cases c9 : x12_1 < (l0_0.length : Int)
     ·
      rw [if_pos c9] at H
      have c9b0 : decide (x12_1 < (l0_0.length : Int)) = true := decide_eq_true c9
      clear c9
      by_cases c10 : ((rdOf false l0_0 x12_1) == a1) = true
      ·
       rw [if_pos c10] at H
       have c10b0 : ((rdOf false l0_0 x12_1) == a1) = true := c10
       (try (have c10b1 : decide ((rdOf false l0_0 x12_1) = a1) = true := by simpa using c10))
       (try (have c10b2 : ((rdOf false l0_0 x12_1) == a1) = true := by simpa using c10))
       clear c10
       by_cases c11 : x5_1.length < 17592186044416
       ·
        rw [if_pos c11] at H
        have LMc11 := ak_ c11
        clear c11
        obtain ⟨y324, hy324⟩ : ∃ y_ : List Int, y_ = (x5_1 ++ [x12_1]) := ⟨_, rfl⟩
        replace H : (impl_State_side.l0 k1 a1 y324 l0_0 (l0_0.length : Int) (wrap64 (x12_1 + 1))) = some r := by first | (rw [hy324]; exact H) | exact H
        have Ny324 := ak_ hy324
        clear hy324
        have H' := ak_ H
        clear H
        have p323 : 0 ≤ (x12_1 : Int) := odt_ (by assumption)
        have q323 : x12_1 < (l0_0.length : Int) := odt_ (by assumption)
        obtain ⟨ad323, e323, hx323_0⟩ := Kd.at_bool HR0_0.out x12_1 p323 q323
        cases e323
        try replace hx323_0 := (HB.out.cell (World.block_lt_of_cell? w _ hx323_0)).trans hx323_0
        replace p323 := eq_true p323
        replace q323 := eq_true q323
        go_wp2_with (first | ((with_reducible refine gate_builtin (b := .append) (xs := #[.tmp 20, .tmp 22]) rfl ?_); at_builtin; refine Kd.R_append (Kd.int .i64) (w0 := w) w.heap.size rfl (.tmp 20) (.tmp 22) 22 3 (.int .i64 0) 8 rfl Try.underlying22 info3 rfl (by decide) (by omega) u5 x5_1 x12_1 [.int .i64 x12_1] (fun _ => True) (fun _ => False) rfl rfl ?aP (fun _ hk => hk.elim) ?aF ?aO ?aB ?aS ?aL ?_; (case aP => exact rfl); (case aB => exact bl_); (case aF => exact (fun _ _ => trivial)); (case aO => exact (Kd.pR HO_5.out)); (case aS => exact (bz_ bl_)); (case aL => have := LMc11.out; omega); intro v325 w12 ho hb hg hat; rw [← Ny324.out] at ho; have n0_ := ak_ (blk_grown (pk BK319.out) hg (Kd.R_ne HO_5.out BK319.out (by decide))); have n1_ := ak_ (hb); have n2_ := ak_ (ho); clear BK319; clear HB; clear HO_5; have BK319 := n0_; have HB := n1_; have HO326 := n2_; clear n0_ n1_ n2_; clear ho hb hg hat))
        go_roundg k1
        case measure => have := HK1.out; omega
        case rel => exact ⟨(y324), (wrap64 (x12_1 + 1)), (ry_), H', ⟨by have := HK1.out; omega⟩, ⟨Kd.pR HO326.out⟩, ⟨pk BK319.out⟩, ⟨by repeat (with_reducible first | exact HB.out | apply ba_ | apply bN_ | apply b1_ | refine below_set ?_ GE319.out)⟩⟩
       ·
        rw [if_neg c11] at H
        exact absurd H (by simp)
      ·
       rw [if_neg c10] at H
       have c10b0 : ((rdOf false l0_0 x12_1) == a1) = false := by simpa using c10
       (try (have c10b1 : decide ((rdOf false l0_0 x12_1) = a1) = false := by simpa using c10))
       (try (have c10b2 : ((rdOf false l0_0 x12_1) == a1) = false := by simpa using c10))
       (try (have c10b3 : ¬ ((rdOf false l0_0 x12_1) = a1) := by simpa using c10))
       clear c10
       have H' := ak_ H
       clear H
       have p323 : 0 ≤ (x12_1 : Int) := odt_ (by assumption)
       have q323 : x12_1 < (l0_0.length : Int) := odt_ (by assumption)
       obtain ⟨ad323, e323, hx323_0⟩ := Kd.at_bool HR0_0.out x12_1 p323 q323
       cases e323
       try replace hx323_0 := (HB.out.cell (World.block_lt_of_cell? w _ hx323_0)).trans hx323_0
       replace p323 := eq_true p323
       replace q323 := eq_true q323
       go_wp2
       go_roundg k1
       case measure => have := HK1.out; omega
       case rel => exact ⟨(x5_1), (wrap64 (x12_1 + 1)), (ry_), H', ⟨by have := HK1.out; omega⟩, ⟨Kd.pR HO_5.out⟩, ⟨pk BK319.out⟩, ⟨by repeat (with_reducible first | exact HB.out | apply ba_ | apply bN_ | apply b1_ | refine below_set ?_ GE319.out)⟩⟩
     ·
      rw [if_neg c9] at H
      exact absurd H (by simp)
    ·
     rw [if_neg c8] at H
     exact absurd H (by simp)
   ·
    rw [if_neg c7] at H
    have c7b0 : decide (x12_1 < (l0_0.length : Int)) = false := decide_eq_false c7
    clear c7
    obtain rfl := Option.some.inj H
    go_wp2
    go_ret
    exact ⟨_, rx_, by (with_reducible repeat (first | apply Kd.R_alloc | apply Kd.R_drewN | apply Kd.R_drew)); exact HO_5.out, by repeat (with_reducible first | exact HB.out | apply ba_ | apply bN_ | apply b1_ | refine below_set ?_ GE319.out)⟩
def cmp_isNaN_int.f (a0 : Int) : Option (Bool) := some (a0 != a0)
theorem cmp_isNaN_int.calls (a0 : Int) (r : Bool) (w : World) (h : cmp_isNaN_int.f a0 = some r) :
  Calls Try.prog 123 #[.int .i64 a0] w fun e w' => e = .returned (.bool r) ∧ Drawn0 w w' := by
 have H : (some (a0 != a0)) = some r := h
 clear h
 obtain rfl := Option.some.inj H
 go_enter Try.func123, Try.ntmps123
 go_wp2
 go_ret
 exact ⟨ry_, by repeat (first | exact Drawn0.refl _ | apply Drawn0.step)⟩
def cmp_Compare_int.f (a0 : Int) (a1 : Int) : Option (Int) := (cmp_isNaN_int.f a0).bind fun t327 => ((cmp_isNaN_int.f a1).bind fun t328 => (if t327 = true then (if t328 = true then (some 0) else (some (-1))) else (if t328 = true then (some 1) else (if a0 < a1 then (some (-1)) else (if a0 > a1 then (some 1) else (some 0))))))
theorem cmp_Compare_int.calls (a0 : Int) (a1 : Int) (r : Int) (w : World) (h : cmp_Compare_int.f a0 a1 = some r) :
  Calls Try.prog 107 #[.int .i64 a0, .int .i64 a1] w fun e w' => e = .returned (.int .i64 r) ∧ Drawn0 w w' := by
 have H : ((cmp_isNaN_int.f a0).bind fun t327 => ((cmp_isNaN_int.f a1).bind fun t328 => (if t327 = true then (if t328 = true then (some 0) else (some (-1))) else (if t328 = true then (some 1) else (if a0 < a1 then (some (-1)) else (if a0 > a1 then (some 1) else (some 0))))))) = some r := h
 clear h
 replace H := Option.bind_eq_some_iff.mp H
 obtain ⟨t327, A30, H⟩ := H
 replace H : ((cmp_isNaN_int.f a1).bind fun t328 => (if t327 = true then (if t328 = true then (some 0) else (some (-1))) else (if t328 = true then (some 1) else (if a0 < a1 then (some (-1)) else (if a0 > a1 then (some 1) else (some 0)))))) = some r := H
 have A3 := ak_ A30
 clear A30
 replace H := Option.bind_eq_some_iff.mp H
 obtain ⟨t328, A40, H⟩ := H
 replace H : (if t327 = true then (if t328 = true then (some 0) else (some (-1))) else (if t328 = true then (some 1) else (if a0 < a1 then (some (-1)) else (if a0 > a1 then (some 1) else (some 0))))) = some r := H
 have A4 := ak_ A40
 clear A40
 by_cases c5 : t327 = true
 ·
  subst c5
  have H1 : (if t328 = true then (some 0) else (some (-1))) = some r := by rw [if_pos rfl] at H; exact H
  clear H
  have H := H1
  clear H1
  by_cases c6 : t328 = true
  ·
   subst c6
   have H1 : (some 0) = some r := by rw [if_pos rfl] at H; exact H
   clear H
   have H := H1
   clear H1
   obtain rfl := Option.some.inj H
   go_enter Try.func107, Try.ntmps107
   go_wp2_with (first | ((with_reducible refine gate_callee (f := 123) rfl ?_); refine goesL_ (some 8) rfl rfl Try.func123 (by kernel_rfl) rfl #[.int .i64 a0] rfl (by first | rfl | (simp only [map_toArray, map_cons, map_nil]; try rfl)) ?_; (with_reducible refine (cmp_isNaN_int.calls a0 true _ A3.out).mono ?_); rintro e w' ⟨rfl, ⟨nd, rfl⟩⟩; refine ⟨_, rfl, ?_⟩) | ((with_reducible refine gate_callee (f := 123) rfl ?_); refine goesL_ (some 10) rfl rfl Try.func123 (by kernel_rfl) rfl #[.int .i64 a1] rfl (by first | rfl | (simp only [map_toArray, map_cons, map_nil]; try rfl)) ?_; (with_reducible refine (cmp_isNaN_int.calls a1 true _ A4.out).mono ?_); rintro e w' ⟨rfl, ⟨nd, rfl⟩⟩; refine ⟨_, rfl, ?_⟩))
   go_ret
   exact ⟨ry_, by repeat (first | exact Drawn0.refl _ | apply Drawn0.step)⟩
  ·
   replace c6 := Bool.eq_false_iff.mpr c6
   subst c6
   have H1 : (some (-1)) = some r := by rw [if_neg (show ¬ (false = true) by decide)] at H; exact H
   clear H
   have H := H1
   clear H1
   obtain rfl := Option.some.inj H
   go_enter Try.func107, Try.ntmps107
   go_wp2_with (first | ((with_reducible refine gate_callee (f := 123) rfl ?_); refine goesL_ (some 8) rfl rfl Try.func123 (by kernel_rfl) rfl #[.int .i64 a0] rfl (by first | rfl | (simp only [map_toArray, map_cons, map_nil]; try rfl)) ?_; (with_reducible refine (cmp_isNaN_int.calls a0 true _ A3.out).mono ?_); rintro e w' ⟨rfl, ⟨nd, rfl⟩⟩; refine ⟨_, rfl, ?_⟩) | ((with_reducible refine gate_callee (f := 123) rfl ?_); refine goesL_ (some 10) rfl rfl Try.func123 (by kernel_rfl) rfl #[.int .i64 a1] rfl (by first | rfl | (simp only [map_toArray, map_cons, map_nil]; try rfl)) ?_; (with_reducible refine (cmp_isNaN_int.calls a1 false _ A4.out).mono ?_); rintro e w' ⟨rfl, ⟨nd, rfl⟩⟩; refine ⟨_, rfl, ?_⟩))
   go_ret
   exact ⟨ry_, by repeat (first | exact Drawn0.refl _ | apply Drawn0.step)⟩
 ·
  replace c5 := Bool.eq_false_iff.mpr c5
  subst c5
  have H1 : (if t328 = true then (some 1) else (if a0 < a1 then (some (-1)) else (if a0 > a1 then (some 1) else (some 0)))) = some r := by rw [if_neg (show ¬ (false = true) by decide)] at H; exact H
  clear H
  have H := H1
  clear H1
  by_cases c7 : t328 = true
  ·
   subst c7
   have H1 : (some 1) = some r := by rw [if_pos rfl] at H; exact H
   clear H
   have H := H1
   clear H1
   obtain rfl := Option.some.inj H
   go_enter Try.func107, Try.ntmps107
   go_wp2_with (first | ((with_reducible refine gate_callee (f := 123) rfl ?_); refine goesL_ (some 8) rfl rfl Try.func123 (by kernel_rfl) rfl #[.int .i64 a0] rfl (by first | rfl | (simp only [map_toArray, map_cons, map_nil]; try rfl)) ?_; (with_reducible refine (cmp_isNaN_int.calls a0 false _ A3.out).mono ?_); rintro e w' ⟨rfl, ⟨nd, rfl⟩⟩; refine ⟨_, rfl, ?_⟩) | ((with_reducible refine gate_callee (f := 123) rfl ?_); refine goesL_ (some 10) rfl rfl Try.func123 (by kernel_rfl) rfl #[.int .i64 a1] rfl (by first | rfl | (simp only [map_toArray, map_cons, map_nil]; try rfl)) ?_; (with_reducible refine (cmp_isNaN_int.calls a1 true _ A4.out).mono ?_); rintro e w' ⟨rfl, ⟨nd, rfl⟩⟩; refine ⟨_, rfl, ?_⟩))
   go_ret
   exact ⟨ry_, by repeat (first | exact Drawn0.refl _ | apply Drawn0.step)⟩
  ·
   replace c7 := Bool.eq_false_iff.mpr c7
   subst c7
   have H1 : (if a0 < a1 then (some (-1)) else (if a0 > a1 then (some 1) else (some 0))) = some r := by rw [if_neg (show ¬ (false = true) by decide)] at H; exact H
   clear H
   have H := H1
   clear H1
   by_cases c8 : a0 < a1
   ·
    rw [if_pos c8] at H
    have c8b0 : decide (a0 < a1) = true := decide_eq_true c8
    clear c8
    obtain rfl := Option.some.inj H
    go_enter Try.func107, Try.ntmps107
    go_wp2_with (first | ((with_reducible refine gate_callee (f := 123) rfl ?_); refine goesL_ (some 8) rfl rfl Try.func123 (by kernel_rfl) rfl #[.int .i64 a0] rfl (by first | rfl | (simp only [map_toArray, map_cons, map_nil]; try rfl)) ?_; (with_reducible refine (cmp_isNaN_int.calls a0 false _ A3.out).mono ?_); rintro e w' ⟨rfl, ⟨nd, rfl⟩⟩; refine ⟨_, rfl, ?_⟩) | ((with_reducible refine gate_callee (f := 123) rfl ?_); refine goesL_ (some 10) rfl rfl Try.func123 (by kernel_rfl) rfl #[.int .i64 a1] rfl (by first | rfl | (simp only [map_toArray, map_cons, map_nil]; try rfl)) ?_; (with_reducible refine (cmp_isNaN_int.calls a1 false _ A4.out).mono ?_); rintro e w' ⟨rfl, ⟨nd, rfl⟩⟩; refine ⟨_, rfl, ?_⟩))
    go_ret
    exact ⟨ry_, by repeat (first | exact Drawn0.refl _ | apply Drawn0.step)⟩
   ·
    rw [if_neg c8] at H
    have c8b0 : decide (a0 < a1) = false := decide_eq_false c8
    clear c8
    by_cases c9 : a0 > a1
    ·
     rw [if_pos c9] at H
     have c9b0 : decide (a1 < a0) = true := decide_eq_true c9
     clear c9
     obtain rfl := Option.some.inj H
     go_enter Try.func107, Try.ntmps107
     go_wp2_with (first | ((with_reducible refine gate_callee (f := 123) rfl ?_); refine goesL_ (some 8) rfl rfl Try.func123 (by kernel_rfl) rfl #[.int .i64 a0] rfl (by first | rfl | (simp only [map_toArray, map_cons, map_nil]; try rfl)) ?_; (with_reducible refine (cmp_isNaN_int.calls a0 false _ A3.out).mono ?_); rintro e w' ⟨rfl, ⟨nd, rfl⟩⟩; refine ⟨_, rfl, ?_⟩) | ((with_reducible refine gate_callee (f := 123) rfl ?_); refine goesL_ (some 10) rfl rfl Try.func123 (by kernel_rfl) rfl #[.int .i64 a1] rfl (by first | rfl | (simp only [map_toArray, map_cons, map_nil]; try rfl)) ?_; (with_reducible refine (cmp_isNaN_int.calls a1 false _ A4.out).mono ?_); rintro e w' ⟨rfl, ⟨nd, rfl⟩⟩; refine ⟨_, rfl, ?_⟩))
     go_ret
     exact ⟨ry_, by repeat (first | exact Drawn0.refl _ | apply Drawn0.step)⟩
    ·
     rw [if_neg c9] at H
     have c9b0 : decide (a1 < a0) = false := decide_eq_false c9
     clear c9
     obtain rfl := Option.some.inj H
     go_enter Try.func107, Try.ntmps107
     go_wp2_with (first | ((with_reducible refine gate_callee (f := 123) rfl ?_); refine goesL_ (some 8) rfl rfl Try.func123 (by kernel_rfl) rfl #[.int .i64 a0] rfl (by first | rfl | (simp only [map_toArray, map_cons, map_nil]; try rfl)) ?_; (with_reducible refine (cmp_isNaN_int.calls a0 false _ A3.out).mono ?_); rintro e w' ⟨rfl, ⟨nd, rfl⟩⟩; refine ⟨_, rfl, ?_⟩) | ((with_reducible refine gate_callee (f := 123) rfl ?_); refine goesL_ (some 10) rfl rfl Try.func123 (by kernel_rfl) rfl #[.int .i64 a1] rfl (by first | rfl | (simp only [map_toArray, map_cons, map_nil]; try rfl)) ?_; (with_reducible refine (cmp_isNaN_int.calls a1 false _ A4.out).mono ?_); rintro e w' ⟨rfl, ⟨nd, rfl⟩⟩; refine ⟨_, rfl, ?_⟩))
     go_ret
     exact ⟨ry_, by repeat (first | exact Drawn0.refl _ | apply Drawn0.step)⟩
def slices_Compare_int_int.l0 : Nat → List Int → List Int → List Int → Int → Int → Option (Int)
 | 0, _, _, _, _, _ => none
 | k + 1, x0, x1, x9, x10, x11 => if x11 < x10 then (if 0 ≤ x11 then (if x11 < (x9.length : Int) then (if x11 ≥ (x1.length : Int) then (some 1) else (if x11 < (x1.length : Int) then ((cmp_Compare_int.f (rd x9 x11) (rd x1 x11)).bind fun t331 => (if t331 = 0 then (slices_Compare_int_int.l0 k x0 x1 x9 x10 (wrap64 (x11 + 1))) else (some t331))) else (none))) else (none)) else (none)) else (if (x0.length : Int) < (x1.length : Int) then (some (-1)) else (some 0))
def slices_Compare_int_int.f (k : Nat) (l0 : List Int) (l1 : List Int) : Option (Int) := slices_Compare_int_int.l0 k l0 l1 l0 (l0.length : Int) 0
theorem slices_Compare_int_int.calls (k : Nat) (A0 : Option Addr) (c0 : Nat) (l0 : List Int) (A1 : Option Addr) (c1 : Nat) (l1 : List Int) (r : Int) (w : World) (hr0 : Kd.C (Kd.int .i64) w A0 l0.length l0) (hc0 : l0.length ≤ c0) (hr1 : Kd.C (Kd.int .i64) w A1 l1.length l1) (hc1 : l1.length ≤ c1) (h : slices_Compare_int_int.f k l0 l1 = some r) :
  Calls Try.prog 92 #[.slice A0 l0.length c0, .slice A1 l1.length c1] w fun e w' => e = .returned (.int .i64 r) ∧ Drawn0 w w' := by
 have HR0 := ak_ hr0
 have HC0 := ak_ hc0
 clear hr0 hc0
 have HR1 := ak_ hr1
 have HC1 := ak_ hc1
 clear hr1 hc1
 have H : (slices_Compare_int_int.l0 k l0 l1 l0 (l0.length : Int) 0) = some r := h
 clear h
 have H' := ak_ H
 clear H
 go_enter Try.func92, Try.ntmps92
 go_wp2
 go_loopg [11] k (fun kq v11 w' => ∃ (x11_1 : Int), v11 = .int .i64 x11_1 ∧ Aside0 (slices_Compare_int_int.l0 kq l0 l1 l0 (l0.length : Int) x11_1 = some r) ∧ Aside0 (kq ≤ k) ∧ Drawn0 w w')
 case atStart => exact ⟨(0), (ry_), H', ⟨Nat.le_refl _⟩, by repeat (first | exact Drawn0.refl _ | apply Drawn0.step)⟩
 case round =>
  clear H'
  try clear c1
  try clear p2
  obtain ⟨x11_1, rfl, HA, HK1, ⟨m1, rfl⟩⟩ := hrel
  cases gk with
  | zero => exact absurd HA.out (by simp [slices_Compare_int_int.l0])
  | succ k1 =>
   have H := HA.out
   clear HA
   simp only [slices_Compare_int_int.l0] at H
   by_cases c3 : x11_1 < (l0.length : Int)
   ·
    rw [if_pos c3] at H
    have c3b0 : decide (x11_1 < (l0.length : Int)) = true := decide_eq_true c3
    clear c3
    by_cases c4 : 0 ≤ x11_1
    ·
     rw [if_pos c4] at H
     have c4b0 : decide (0 ≤ x11_1) = true := decide_eq_true c4
     clear c4
     by_cases c5 : x11_1 < (l0.length : Int)
     ·
      rw [if_pos c5] at H
      have c5b0 : decide (x11_1 < (l0.length : Int)) = true := decide_eq_true c5
      clear c5
      by_cases c6 : x11_1 ≥ (l1.length : Int)
      ·
       rw [if_pos c6] at H
       have c6b0 : decide ((l1.length : Int) ≤ x11_1) = true := decide_eq_true c6
       clear c6
       obtain rfl := Option.some.inj H
       have p329 : 0 ≤ (x11_1 : Int) := odt_ (by assumption)
       have q329 : x11_1 < (l0.length : Int) := odt_ (by assumption)
       obtain ⟨ad329, e329, hx329_0⟩ := Kd.at_int HR0.out x11_1 p329 q329
       cases e329
       replace p329 := eq_true p329
       replace q329 := eq_true q329
       go_wp2
       go_ret
       exact ⟨ry_, by repeat (first | exact Drawn0.refl _ | apply Drawn0.step)⟩
      ·
       rw [if_neg c6] at H
       have c6b0 : decide ((l1.length : Int) ≤ x11_1) = false := decide_eq_false c6
       clear c6
       by_cases c7 : x11_1 < (l1.length : Int)
       ·
        rw [if_pos c7] at H
        have c7b0 : decide (x11_1 < (l1.length : Int)) = true := decide_eq_true c7
        clear c7
        replace H := Option.bind_eq_some_iff.mp H
        obtain ⟨t331, A80, H⟩ := H
        replace H : (if t331 = 0 then (slices_Compare_int_int.l0 k1 l0 l1 l0 (l0.length : Int) (wrap64 (x11_1 + 1))) else (some t331)) = some r := H
        have A8 := ak_ A80
        clear A80
        by_cases c9 : t331 = 0
        ·
         rw [if_pos c9] at H
         have c9b0 : (t331 == 0) = true := beq_iff_eq.mpr c9
         have c9b1 : (t331 != 0) = false := bne_eq_false_iff_eq.mpr c9
         clear c9
         have H' := ak_ H
         clear H
         have p329 : 0 ≤ (x11_1 : Int) := odt_ (by assumption)
         have q329 : x11_1 < (l0.length : Int) := odt_ (by assumption)
         obtain ⟨ad329, e329, hx329_0⟩ := Kd.at_int HR0.out x11_1 p329 q329
         cases e329
         replace p329 := eq_true p329
         replace q329 := eq_true q329
         have p330 : 0 ≤ (x11_1 : Int) := odt_ (by assumption)
         have q330 : x11_1 < (l1.length : Int) := odt_ (by assumption)
         obtain ⟨ad330, e330, hx330_0⟩ := Kd.at_int HR1.out x11_1 p330 q330
         cases e330
         replace p330 := eq_true p330
         replace q330 := eq_true q330
         go_wp2_with (first | ((with_reducible refine gate_callee (f := 107) rfl ?_); refine goesL_ (some 26) rfl rfl Try.func107 (by kernel_rfl) rfl #[.int .i64 (rd l0 x11_1), .int .i64 (rd l1 x11_1)] rfl (by first | rfl | (simp only [map_toArray, map_cons, map_nil]; try rfl)) ?_; (with_reducible refine (cmp_Compare_int.calls (rd l0 x11_1) (rd l1 x11_1) t331 _ A8.out).mono ?_); rintro e w' ⟨rfl, ⟨nd, rfl⟩⟩; refine ⟨_, rfl, ?_⟩))
         go_roundg k1
         case measure => have := HK1.out; omega
         case rel => exact ⟨(wrap64 (x11_1 + 1)), (ry_), H', ⟨by have := HK1.out; omega⟩, by repeat (first | exact Drawn0.refl _ | apply Drawn0.step)⟩
        ·
         rw [if_neg c9] at H
         have c9b0 : (t331 == 0) = false := beq_eq_false_iff_ne.mpr c9
         have c9b1 : (t331 != 0) = true := bne_iff_ne.mpr c9
         obtain rfl := Option.some.inj H
         have p329 : 0 ≤ (x11_1 : Int) := odt_ (by assumption)
         have q329 : x11_1 < (l0.length : Int) := odt_ (by assumption)
         obtain ⟨ad329, e329, hx329_0⟩ := Kd.at_int HR0.out x11_1 p329 q329
         cases e329
         replace p329 := eq_true p329
         replace q329 := eq_true q329
         have p330 : 0 ≤ (x11_1 : Int) := odt_ (by assumption)
         have q330 : x11_1 < (l1.length : Int) := odt_ (by assumption)
         obtain ⟨ad330, e330, hx330_0⟩ := Kd.at_int HR1.out x11_1 p330 q330
         cases e330
         replace p330 := eq_true p330
         replace q330 := eq_true q330
         go_wp2_with (first | ((with_reducible refine gate_callee (f := 107) rfl ?_); refine goesL_ (some 26) rfl rfl Try.func107 (by kernel_rfl) rfl #[.int .i64 (rd l0 x11_1), .int .i64 (rd l1 x11_1)] rfl (by first | rfl | (simp only [map_toArray, map_cons, map_nil]; try rfl)) ?_; (with_reducible refine (cmp_Compare_int.calls (rd l0 x11_1) (rd l1 x11_1) t331 _ A8.out).mono ?_); rintro e w' ⟨rfl, ⟨nd, rfl⟩⟩; refine ⟨_, rfl, ?_⟩))
         go_ret
         exact ⟨ry_, by repeat (first | exact Drawn0.refl _ | apply Drawn0.step)⟩
       ·
        rw [if_neg c7] at H
        exact absurd H (by simp)
     ·
      rw [if_neg c5] at H
      exact absurd H (by simp)
    ·
     rw [if_neg c4] at H
     exact absurd H (by simp)
   ·
    rw [if_neg c3] at H
    have c3b0 : decide (x11_1 < (l0.length : Int)) = false := decide_eq_false c3
    clear c3
    by_cases c10 : (l0.length : Int) < (l1.length : Int)
    ·
     rw [if_pos c10] at H
     have c10b0 : decide ((l0.length : Int) < (l1.length : Int)) = true := decide_eq_true c10
     have c10b1 : decide (l0.length < l1.length) = true := decide_eq_true (Int.ofNat_lt.mp c10)
     clear c10
     obtain rfl := Option.some.inj H
     go_wp2
     go_ret
     exact ⟨ry_, by repeat (first | exact Drawn0.refl _ | apply Drawn0.step)⟩
    ·
     rw [if_neg c10] at H
     have c10b0 : decide ((l0.length : Int) < (l1.length : Int)) = false := decide_eq_false c10
     have c10b1 : decide (l0.length < l1.length) = false := decide_eq_false (fun h => c10 (Int.ofNat_lt.mpr h))
     clear c10
     obtain rfl := Option.some.inj H
     go_wp2
     go_ret
     exact ⟨ry_, by repeat (first | exact Drawn0.refl _ | apply Drawn0.step)⟩
end Go.Proofs.Ytmdbhpbogbekmaa.QNt
