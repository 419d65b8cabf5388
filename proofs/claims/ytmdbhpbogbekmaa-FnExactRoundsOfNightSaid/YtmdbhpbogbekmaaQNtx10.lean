/- Contracts of functions of the given program, walked: each call returns what its Lean function says. Conditions: those that stand at each theorem. (Written by a program of this session.) -/
import Derived.Test.YtmdbhpbogbekmaaQNtx0
import Derived.Test.YtmdbhpbogbekmaaQNtx6
import Derived.Test.YtmdbhpbogbekmaaQNtx8
import Derived.Test.YtmdbhpbogbekmaaQNtx9
namespace Go.Proofs.Ytmdbhpbogbekmaa.QNt
open Go.RowKit Go.Proofs.YtmdbhpbogbekmaaW.PrintWords Go.Proofs.YtmdbhpbogbekmaaW.PrintLast Go.Proofs.YtmdbhpbogbekmaaW.PrintMore
open List (setIfInBounds_toArray set_cons_zero set_cons_succ map_toArray map_cons map_nil)
attribute [local go_sem] max2_int min2_int max_two min_two max_three min_three max_four min_four
set_option linter.unusedVariables false
set_option maxHeartbeats 8000000
set_option maxRecDepth 100000
set_option linter.unusedSimpArgs false
def sepK {α : Type} (e : Nat) (d : Kd α) : Kd (List α) where
 sz := 1
 E := e :: d.E
 K := (Kd.slice e d).K
 M := fun w base ok xs cs => ∃ v, cs = [v] ∧ Kd.S d e w base ok v xs
 K_len := (Kd.slice e d).K_len
 K_one := (Kd.slice e d).K_one
 K_below := (Kd.slice e d).K_below
 K_of_M := by
  rintro w base ok x cs ⟨v, rfl, h⟩
  exact (Kd.slice e d).K_of_M (base := base) (ok := ok) ⟨v, rfl, Kd.S_R h⟩
 M_mono := by
  rintro w base ok ok' x cs hok ⟨v, rfl, h⟩
  exact ⟨v, rfl, Kd.S_mono h hok⟩
 M_bound := by
  rintro w base ok x cs ⟨v, rfl, h⟩
  exact ⟨v, rfl, Kd.S_bound h⟩
 M_move := by
  rintro w w1 base ok x cs hm ⟨v, rfl, h⟩
  exact ⟨v, rfl, Kd.S_move h hm⟩
 M_lower := by
  rintro w base base' ok x cs hb ⟨v, rfl, h⟩
  exact ⟨v, rfl, Kd.S_lower h hb⟩
theorem sep_S {α : Type} {d : Kd α} {e e' base : Nat} {W : World} {ok : Nat → Prop} {v : Value} {xs : List (List α)} (h : Kd.S (sepK e d) e' W base ok v xs) : Kd.S (Kd.slice e d) e' W base ok v xs := by
 obtain ⟨f, h0, inner, ho, hr⟩ := h
 refine ⟨f, h0, inner, ho, hr.imp_ (fun p c hp => ?_)⟩
 obtain ⟨v, e_, hS⟩ := hp
 exact ⟨v, e_, Kd.S_R hS⟩
theorem row_lits {α : Type} (d : Kd α) {e base : Nat} {ok : Nat → Prop} {W : World} {xs : List α} {inner : List Value} (okj : Nat → Nat → Prop) (hl : inner.length = xs.length * d.sz) (hrep : ∀ j x, xs[j]? = some x → d.M W base (okj j) x ((inner.drop (j * d.sz)).take d.sz)) (hap : ∀ i j k, okj i k → okj j k → i = j) (hok : ∀ j k, okj j k → ok k) (hf : ok W.heap.size) (hb : base ≤ W.heap.size) (hm : xs.length ≤ 1000000) :
  Kd.S d e (W.alloc (.cells inner.toArray e)) base ok (.slice (some ⟨W.heap.size, 0, none⟩) xs.length xs.length) xs := by
 obtain ⟨f, hr⟩ := Kd.reps_tag (d := d) (w := W) (base := base) (ok := fun k => ok k ∧ k < W.heap.size) (fun j k => okj j k ∧ k < W.heap.size) (fun i j k h1 h2 => hap i j k h1.1 h2.1) (fun j k h => ⟨hok j k h.1, h.2⟩) hl (fun j x hx => d.M_mono (fun k hk => ⟨hk.1, hk.2.2.1⟩) (d.M_bound (hrep j x hx)))
 refine ⟨f, fun k hk => ?_, inner, ?_, hr.imp_ (fun p c hp => ?_)⟩
 ·have : W.heap.size = k := by simpa [Value.ownBlock] using hk
  rw [← this]; exact hf
 ·have h2 := World.ownsRow_lit (base := base) (e := e) (size := d.sz) W inner.toArray xs.length hb (by simp [maxLen]; omega) (by simpa using hl)
  rw [List.length_zipIdx]
  have h3 : (W.alloc (.cells inner.toArray e)).ownsRow base e d.sz (.slice (some ⟨W.heap.size, 0, none⟩) xs.length xs.length) xs.length inner := by simpa using h2
  exact h3
 ·refine (Kd.tag f d).M_mono (fun k hk => ⟨hk.1, fun e_ => ?_⟩) ((Kd.tag f d).M_move (fun k hk => (ba_ (Below.refl W.heap.size W) (.cells inner.toArray e)).block k hk.2) hp)
  have h3 : k = W.heap.size := by simpa [Value.ownBlock] using e_
  have := hk.2
  omega
theorem row_lit1 {α : Type} {d : Kd α} {e e' base z n c : Nat} {A : Option Addr} {W : World} {a : List α} (h : d.R e W base (fun k => z ≤ k) (.slice A n c) a) (hz : z ≤ W.heap.size) (hb : base ≤ W.heap.size) :
  Kd.S (Kd.slice e d) e' (W.alloc (.cells #[.slice A n c] e')) base (fun k => z ≤ k) (.slice (some ⟨W.heap.size, 0, none⟩) 1 1) [a] := by
 refine row_lits (Kd.slice e d) (xs := [a]) (inner := [.slice A n c]) (fun j k => j = 0 ∧ z ≤ k) rfl (fun j x hx => ?_) (fun i j k h1 h2 => h1.1.trans h2.1.symm) (fun j k h => h.2) hz hb (by simp)
 cases j with
 | zero =>
  obtain rfl : a = x := by simpa using hx
  exact ⟨_, rfl, Kd.R_mono h (fun k hk => ⟨rfl, hk⟩)⟩
 | succ j => simp at hx
theorem row_lit2 {α : Type} {d : Kd α} {e e' base z z2 n1 c1 n2 c2 : Nat} {A1 A2 : Option Addr} {W : World} {a b : List α} (h1 : d.R e W base (fun k => z ≤ k ∧ k < z2) (.slice A1 n1 c1) a) (h2 : d.R e W base (fun k => z2 ≤ k) (.slice A2 n2 c2) b) (hz : z ≤ z2) (hz2 : z2 ≤ W.heap.size) (hb : base ≤ W.heap.size) :
  Kd.S (Kd.slice e d) e' (W.alloc (.cells #[.slice A1 n1 c1, .slice A2 n2 c2] e')) base (fun k => z ≤ k) (.slice (some ⟨W.heap.size, 0, none⟩) 2 2) [a, b] := by
 refine row_lits (Kd.slice e d) (xs := [a, b]) (inner := [.slice A1 n1 c1, .slice A2 n2 c2]) (fun j k => (j = 0 ∧ z ≤ k ∧ k < z2) ∨ (j = 1 ∧ z2 ≤ k)) rfl (fun j x hx => ?_) (fun i j k h1 h2 => by omega) (fun j k h => by omega) (by omega) hb (by simp)
 match j with
 | 0 =>
  obtain rfl : a = x := by simpa using hx
  exact ⟨_, rfl, Kd.R_mono h1 (fun k hk => .inl ⟨rfl, hk⟩)⟩
 | 1 =>
  obtain rfl : b = x := by simpa using hx
  exact ⟨_, rfl, Kd.R_mono h2 (fun k hk => .inr ⟨rfl, hk⟩)⟩
 | j + 2 => simp at hx
structure AgW (s1 : Nat) (ws W : World) : Prop where
 sz : ws.heap.size ≤ W.heap.size
 at_ : ∀ k, s1 ≤ k → k < ws.heap.size → W.heap[k]? = ws.heap[k]?
theorem AgW.below {s1 : Nat} {ws W W1 : World} (h : AgW s1 ws W) (hb : Below W.heap.size W W1) : AgW s1 ws W1 := ⟨Nat.le_trans h.sz hb.size, fun k h1 h2 => (hb.block k (Nat.lt_of_lt_of_le h2 h.sz)).trans (h.at_ k h1 h2)⟩
theorem AgW.alloc {s1 : Nat} {ws W : World} (h : AgW s1 ws W) (o : Obj) : AgW s1 ws (W.alloc o) := h.below (ba_ (Below.refl _ _) o)
theorem AgW.grown {s1 : Nat} {ws W W1 : World} (h : AgW s1 ws W) {row : Option Nat} (hg : W.grownBy W1 row) (hr : ∀ k, row = some k → k < s1 ∨ ws.heap.size ≤ k) : AgW s1 ws W1 := by
 refine ⟨Nat.le_trans h.sz hg.size, fun k h1 h2 => (hg.block k (Nat.lt_of_lt_of_le h2 h.sz) (fun e => ?_)).trans (h.at_ k h1 h2)⟩
 have := hr k e.symm
 omega
theorem ro_get {ti ts s1 base gl cL : Nat} {ws : World} {ls : List (List Int)} (h : Kd.N (Kd.slice ti (Kd.int .i64)) ts ws base (fun k => s1 ≤ k) (.slice (some ⟨gl, 0, none⟩) ls.length cL) ls) (j : Nat) (hj : j < ls.length) :
  ∃ (Aj : Option Addr) (cj : Nat), (∀ W : World, AgW s1 ws W → W.cell? ⟨gl, j, none⟩ = some (.slice Aj (ls.getD j []).length cj) ∧ Kd.C (Kd.int .i64) W Aj (ls.getD j []).length (ls.getD j [])) ∧ (ls.getD j []).length ≤ cj := by
 obtain ⟨c, -, hFK, hcc, -⟩ := Kd.N_elem h [] (j : Int) (by omega) (by omega)
 rw [Int.toNat_natCast] at hFK hcc
 obtain ⟨Aj, cj, rfl, hle, hF⟩ := Kd.FK_slice_open hFK
 have h0 := hcc 0 _ rfl
 rw [show (Kd.slice ti (Kd.int .i64)).sz = 1 from rfl, Nat.mul_one, Nat.add_zero] at h0
 have hg1 : s1 ≤ gl := h.1 gl (by simp [Value.ownBlock])
 have hg2 : gl < ws.heap.size := Kd.N_lt h gl (by simp [Value.ownBlock])
 refine ⟨Aj, cj, fun W hW => ⟨?_, hF W (fun k hk hlt => hW.at_ k hk.1 hlt)⟩, hle⟩
 rw [← h0]
 simp [World.cell?, hW.at_ gl hg1 hg2]
def nrIn (k : Nat) (ts : List Int) (se tq : Int) (ov : List Bool) (t : Int) (a : List Int) : List (List Int) → List (List (List Int)) → Option (List (List (List Int)))
 | [], acc => some acc
 | b :: bs, acc => if 1 < tq then (impl_Night_together.f k ts se tq ov t a b).bind fun q => if q = true then (if acc.length < 1000000 ∧ b.length < 1000000 then nrIn k ts se tq ov t a bs (acc ++ [[a, b]]) else none) else nrIn k ts se tq ov t a bs acc else nrIn k ts se tq ov t a bs acc
def nrOut (k : Nat) (ts : List Int) (se tq : Int) (ov : List Bool) (t : Int) : List (List Int) → List (List (List Int)) → Option (List (List (List Int)))
 | [], acc => some acc
 | a :: ls, acc => if acc.length < 1000000 ∧ a.length < 1000000 then (nrIn k ts se tq ov t a ls (acc ++ [[a]])).bind (nrOut k ts se tq ov t ls) else none
def impl_Night_rounds.f (k : Nat) (ts : List Int) (se tq : Int) (ov : List Bool) (t : Int) : Option (List (List (List Int))) := (impl_Night_groups.f k ts se tq ov t).bind fun ls => if ls.length < 1000000 then nrOut k ts se tq ov t ls [] else none
theorem impl_Night_rounds.calls (k : Nat) (At : Option Addr) (ct : Nat) (ts : List Int) (se tq : Int) (Ao : Option Addr) (co : Nat) (ov : List Bool) (t : Int) (r : List (List (List Int))) (w : World)
  (ht : Kd.C (Kd.int .i64) w At ts.length ts) (hct : ts.length ≤ ct) (ho : Kd.C Kd.bool w Ao ov.length ov) (hco : ov.length ≤ co) (h : impl_Night_rounds.f k ts se tq ov t = some r) :
  Calls Try.prog 42 #[.agg #[.slice At ts.length ct, .int .i64 se, .int .i64 tq], .agg #[.slice Ao ov.length co, .int .i64 t]] w fun e w' => ∃ v0_ : Value, e = .returned v0_ ∧ Kd.S (sepK 22 (Kd.slice 3 (Kd.int .i64))) 57 w' w.heap.size (fun _ => True) v0_ r ∧ Below w.heap.size w w' := by
 have hu := Try.underlying33
 have hu2 := Try.underlying35
 unfold impl_Night_rounds.f at h
 obtain ⟨ls, h1, h⟩ := Option.bind_eq_some_iff.mp h
 by_cases hls : ls.length < 1000000
 rotate_left
 ·rw [if_neg hls] at h; exact absurd h (by simp)
 rw [if_pos hls] at h
 have AG1 := ak_ fun (W : World) (hb : Below w.heap.size w W) => impl_Night_groups.calls k At ct ts se tq Ao co ov t ls W (Kd.C_below ht hb) hct (Kd.C_below ho hb) hco h1
 have ATO := ak_ fun (a b : List Int) (q : Bool) (hq : impl_Night_together.f k ts se tq ov t a b = some q) (W : World) (hb : Below w.heap.size w W) (Aa : Option Addr) (ca : Nat) (Ab : Option Addr) (cb : Nat) (hA : Kd.C (Kd.int .i64) W Aa a.length a) (hca : a.length ≤ ca) (hB : Kd.C (Kd.int .i64) W Ab b.length b) (hcb : b.length ≤ cb) => impl_Night_together.calls k At ct ts se tq Ao co ov t Aa ca a Ab cb b q W (Kd.C_below ht hb) hct (Kd.C_below ho hb) hco hA hca hB hcb hq
 have HLS := ak_ hls
 have H := ak_ h
 have HB := ak_ (Below.refl w.heap.size w)
 clear h h1 hls ht hct ho hco
 go_enter Try.func42, Try.ntmps42
 go_wp2_with (first | ((with_reducible refine gate_dst (N := 2) rfl ?_); refine bx_ 2 #[.slice At ts.length ct, .int .i64 se, .int .i64 tq] 33 ?_; intro gb2 hg w2 hbox hb; have nb_ := ak_ (bs_ (bb_ HB.out) hb); have nc_ := ak_ hbox; have nd_ := ak_ ((by rw [hg]; exact (bz_ (bb_ HB.out)) : w.heap.size ≤ gb2)); clear HB hb hbox hg; have HB := nb_; have BK2 := nc_; have GE2 := nd_; clear nb_ nc_ nd_; have hz2_0 := (blk_cell BK2.out 0); have hf2_0 := (blk_frozen BK2.out 0); simp at hz2_0; have hz2_1 := (blk_cell BK2.out 1); have hf2_1 := (blk_frozen BK2.out 1); simp at hz2_1; have hz2_2 := (blk_cell BK2.out 2); have hf2_2 := (blk_frozen BK2.out 2); simp at hz2_2; skip) | ((with_reducible refine gate_dst (N := 3) rfl ?_); refine bx_ 3 #[.slice Ao ov.length co, .int .i64 t] 35 ?_; intro gb3 hg w3 hbox hb; have n0_ := ak_ (blk_below (pk BK2.out) hb); have m0_ := ak_ ((by rw [hg]; exact Nat.ne_of_lt (blk_lt (pk BK2.out)) : gb2 ≠ gb3)); have nb_ := ak_ (bs_ (bb_ HB.out) hb); have nc_ := ak_ hbox; have nd_ := ak_ ((by rw [hg]; exact (bz_ (bb_ HB.out)) : w.heap.size ≤ gb3)); clear HB hb hbox hg; clear BK2; have BK2 := n0_; have NE2_3 := m0_; have HB := nb_; have BK3 := nc_; have GE3 := nd_; clear nb_ nc_ nd_ n0_ m0_; have hz3_0 := (blk_cell BK3.out 0); have hf3_0 := (blk_frozen BK3.out 0); simp at hz3_0; have hz3_1 := (blk_cell BK3.out 1); have hf3_1 := (blk_frozen BK3.out 1); simp at hz3_1; have hq2_0 := blk_cell (ka_ BK2.out (.cells #[] 57)) 0; simp at hq2_0; have hq2_1 := blk_cell (ka_ BK2.out (.cells #[] 57)) 1; simp at hq2_1; have hq2_2 := blk_cell (ka_ BK2.out (.cells #[] 57)) 2; simp at hq2_2; have hq3_0 := blk_cell (ka_ BK3.out (.cells #[] 57)) 0; simp at hq3_0; have hq3_1 := blk_cell (ka_ BK3.out (.cells #[] 57)) 1; simp at hq3_1; skip) | (go_at_call 69; refine (AG1.out _ (bb_ HB.out)).mono ?_; rintro e ws ⟨v14, rfl, hn, hb⟩; obtain ⟨Al, cL, rfl⟩ := Kd.N_slice hn; obtain ⟨s1, hs1⟩ : ∃ s, s = (w3.alloc (.cells #[] 57)).heap.size := ⟨_, rfl⟩; rw [← hs1] at hn; have HL := ak_ hn; have AG := ak_ (AgW.mk (s1 := s1) (ws := ws) (W := ws) (Nat.le_refl _) (fun _ _ _ => rfl)); have n0_ := ak_ (blk_below (pk BK2.out) hb); have n1_ := ak_ (blk_below (pk BK3.out) hb); have n2_ := ak_ (Kd.S_mono (ok' := fun k_ => k_ < s1 ∨ ws.heap.size ≤ k_) (Kd.S_below (Kd.S_bound (gp_lit0 (sepK 22 (Kd.slice 3 (Kd.int .i64))) 57 w3 (bz_ HB.out))) hb) (fun k_ hk_ => .inl (by rw [hs1]; exact hk_.2.2.1))); have n3_ := ak_ (bs_ (bb_ HB.out) hb); clear BK2 BK3 HB hb hn hs1; have BK2 := n0_; have BK3 := n1_; have OUT := n2_; have HB := n3_; clear n0_ n1_ n2_ n3_; clear AG1 hq2_0 hq2_1 hq2_2 hq3_0 hq3_1 hz2_0 hz2_1 hz2_2 hf2_0 hf2_1 hf2_2 hz3_0 hz3_1 hf3_0 hf3_1; generalize Value.slice (some ⟨w3.heap.size, 0, none⟩) 0 0 = v5 at OUT ⊢))
 go_loopg [5, 17] ls.length (fun gg v5 v17 wr => ∃ (j : Nat) (acc : List (List (List Int))), v17 = .int .i64 (j : Int) ∧ Aside0 (j ≤ ls.length ∧ ls.length - j ≤ gg) ∧ Aside0 (nrOut k ts se tq ov t (ls.drop j) acc = some r) ∧ Aside0 (Kd.S (sepK 22 (Kd.slice 3 (Kd.int .i64))) 57 wr w.heap.size (fun k_ => k_ < s1 ∨ ws.heap.size ≤ k_) v5 acc) ∧ Aside0 (AgW s1 ws wr) ∧ Aside0 (wr.heap[gb2]? = some (.cells #[.slice At ts.length ct, .int .i64 se, .int .i64 tq] 33 (0, 0))) ∧ Aside0 (wr.heap[gb3]? = some (.cells #[.slice Ao ov.length co, .int .i64 t] 35 (0, 0))) ∧ Aside0 (Below w.heap.size w wr))
 case atStart => exact ⟨0, [], rfl, ⟨⟨Nat.zero_le _, Nat.le_refl _⟩⟩, H, ⟨Kd.pS OUT.out⟩, ⟨(by repeat (first | exact AG.out | refine AgW.alloc ?_ _))⟩, ⟨pk BK2.out⟩, ⟨pk BK3.out⟩, ⟨(bb_ HB.out)⟩⟩
 case round =>
  clear H OUT AG BK2 BK3 HB
  obtain ⟨j, acc, rfl, HJ, H, OUT, AG, BK2, BK3, HB⟩ := hrel
  by_cases hj : j < ls.length
  ·have j1 : decide ((j : Int) < (ls.length : Int)) = true := decide_eq_true (by omega)
   have j1n : decide (j < ls.length) = true := decide_eq_true hj
   have j0p : ((0 : Int) ≤ (j : Int)) = True := eq_true (by omega)
   have j1p : ((j : Int) < (ls.length : Int)) = True := eq_true (by omega)
   obtain ⟨jn, hjn⟩ : ∃ x : Int, x = ((j + 1 : Nat) : Int) := ⟨_, rfl⟩
   have c19 : ((0 : Int) ≤ jn) = True := eq_true (by omega)
   have c20 : (jn ≤ (ls.length : Int)) = True := eq_true (by omega)
   have c19b : decide ((0 : Int) ≤ jn) = true := decide_eq_true (by omega)
   have c20b : decide (jn ≤ (ls.length : Int)) = true := decide_eq_true (by omega)
   obtain ⟨gl, cl2, eAl, -⟩ := Kd.N_form HL.out (by omega)
   injection eAl with eAl _ ecl
   subst eAl
   subst ecl
   obtain ⟨Aa, ca, hcA, hla⟩ := ro_get HL.out j hj
   obtain ⟨a, ha⟩ : ∃ a, a = ls.getD j [] := ⟨_, rfl⟩
   rw [← ha] at hcA hla
   have hlj : ls[j] = a := by rw [ha, List.getD_eq_getElem?_getD, List.getElem?_eq_getElem hj]; rfl
   have h := H.out
   rw [List.drop_eq_getElem_cons hj, hlj] at h
   simp only [nrOut] at h
   by_cases hac : acc.length < 1000000 ∧ a.length < 1000000
   rotate_left
   ·rw [if_neg hac] at h; exact absurd h (by simp)
   rw [if_pos hac] at h
   have hcell := (hcA wr AG.out).1
   have ACA := ak_ fun (W : World) (hw : AgW s1 ws W) => slices_Clone_int_int.calls Aa ca a a W (hcA W hw).2 hla (by unfold slices_Clone_int_int.f; rw [if_pos (by omega)])
   have HCA := ak_ hcA
   have HLA := ak_ hla
   have HH := ak_ h
   have HACC := ak_ hac
   have HJJ := ak_ hj
   have hw19 : IntKind.i64.wrap ((j : Int) + 1) = jn := by have := HLS.out; rw [IntWalk.i64_in _ ⟨by omega, by omega⟩]; omega
   obtain ⟨i27, hi27, _, hsz27, _⟩ := info_parts info22
   have hcut0 := cut_from (P := Try.prog) 57 22 .i64 Try.underlying57 hi27 1 hsz27 (some ⟨gl, 0, none⟩) ls.length cL jn (by omega) (by omega)
   obtain ⟨A31, hA31⟩ : ∃ A1, A1 = (if cL = jn.toNat then (some ⟨gl, 0, none⟩ : Option Addr) else (some (⟨gl, 0, none⟩ : Addr)).map (·.add (jn.toNat * 1))) := ⟨_, rfl⟩
   obtain ⟨c31, hc31⟩ : ∃ c1, c1 = cL - jn.toNat := ⟨_, rfl⟩
   obtain ⟨m31, hm31⟩ : ∃ m1, m1 = ls.length - (j + 1) := ⟨_, rfl⟩
   have hcut : ∀ W : World, (Instr.slice 57 (.slice (some ⟨gl, 0, none⟩) ls.length cL) (some (.int .i64 jn)) none none).run Try.prog W = .ok (.slice A31 m31 c31) W := by
    intro W
    rw [hcut0 W, ← hA31, ← hc31, hm31, show jn.toNat = j + 1 from by omega]
   have HA31 := ak_ (show m31 = 0 ∨ A31 = some ⟨gl, j + 1, none⟩ from by
    rcases Nat.eq_zero_or_pos m31 with h0 | h0
    ·exact .inl h0
    ·right
     have h2 := (Kd.N_reads' HL.out).2.1
     rw [hA31, if_neg (by omega), show jn.toNat = j + 1 from by omega]
     simp [Addr.add])
   have HM31 := ak_ hm31
   have HJN := ak_ hjn
   have HAS := ak_ (Kd.S_mono (Kd.S_bound OUT.out) (fun k_ hk_ => (⟨hk_.1, hk_.2.2.1⟩ : (k_ < s1 ∨ ws.heap.size ≤ k_) ∧ k_ < wr.heap.size)))
   obtain ⟨z, hz⟩ : ∃ z, z = wr.heap.size := ⟨_, rfl⟩
   have HZ := ak_ (show ws.heap.size ≤ z ∧ w.heap.size ≤ z from by rw [hz]; exact ⟨AG.out.sz, bz_ HB.out⟩)
   rw [← hz] at HAS
   have HZE := ak_ hz
   clear h H hac hj hlj ha hcA hla OUT hcut0 hA31 hc31 hm31 hsz27 hi27 hz hjn
   have OUT := HAS
   clear HAS
   go_wp2_with (first | (go_at_call 70; refine (ACA.out _ (by repeat (first | exact AG.out | refine AgW.alloc ?_ _))).mono ?_; rintro e w24 ⟨v24, rfl, ho, hb⟩; obtain ⟨Aw24, cw24, rfl⟩ := Kd.R_slice ho; have CL1 := ak_ (Kd.R_mono (ok' := fun k_ => z ≤ k_) (Kd.R_lower (Kd.R_bound ho) (bz_ (bb_ HB.out))) (fun k_ hk_ => by rw [HZE.out]; exact hk_.2.1)); have HZ24 := ak_ (show z ≤ w24.heap.size from by rw [HZE.out]; exact hb.size); clear hcell; have n0_ := ak_ (blk_below (pk BK2.out) hb); have n1_ := ak_ (blk_below (pk BK3.out) hb); have n2_ := ak_ (AgW.below (by repeat (first | exact AG.out | refine AgW.alloc ?_ _)) hb); have n3_ := ak_ (Kd.S_below (Kd.pS OUT.out) hb); have n4_ := ak_ (bs_ (bb_ HB.out) hb); clear BK2 BK3 AG OUT HB hb ho; have BK2 := n0_; have BK3 := n1_; have AG := n2_; have OUT := n3_; have HB := n4_; clear n0_ n1_ n2_ n3_ n4_) | ((with_reducible refine gate_builtin (b := .append) (xs := #[.tmp 22, .tmp 26]) rfl ?_); at_builtin; refine Kd.S_append (sepK 22 (Kd.slice 3 (Kd.int .i64))) (w0 := w) w.heap.size rfl (.tmp 22) (.tmp 26) 30 57 (.slice none 0 0) 24 rfl Try.underlying30 info57 rfl (by decide) (by omega) u5 acc [a] [.slice (some ⟨w24.heap.size, 0, none⟩) 1 1] (fun k_ => k_ < s1 ∨ ws.heap.size ≤ k_) (fun k_ => z ≤ k_) rfl (congrArg (fun z_ => Value.slice (some ⟨z_, 0, none⟩) 1 1) (Array.size_push ..).symm) ?aP ?aK ?aF ?aO ?aB ?aS ?aL ?_; (case aP => exact ⟨_, rfl, row_lit1 CL1.out HZ24.out (Nat.le_trans HZ.out.2 HZ24.out)⟩); (case aK => (intro k_ hk_; exact ⟨.inr (Nat.le_trans HZ.out.1 hk_), fun e_ => Nat.not_le.2 ((Kd.S_R OUT.out).1 k_ e_.symm).2 hk_⟩)); (case aF => (intro k_ hk_; exact .inr (Nat.le_trans (AgW.sz (AgW.alloc AG.out _)) hk_))); (case aO => exact Kd.S_mono (Kd.pS OUT.out) (fun k_ hk_ => ⟨hk_.1, Nat.not_le.2 hk_.2⟩)); (case aB => exact (bb_ HB.out)); (case aS => exact bz_ (bb_ HB.out)); (case aL => have := HACC.out; omega); intro v36 w36 ho hb hg hat; have n0_ := ak_ (blk_grown (pk BK2.out) hg (Kd.S_ne OUT.out BK2.out (by decide))); have n1_ := ak_ (blk_grown (pk BK3.out) hg (Kd.S_ne OUT.out BK3.out (by decide))); have n2_ := ak_ (AgW.grown (AgW.alloc AG.out _) hg (fun k_ hk_ => ((Kd.S_R OUT.out).1 k_ hk_).1)); have n3_ := ak_ (hb); have n4_ := ak_ (ho); clear BK2 BK3 AG HB OUT hg hat hb ho CL1 HZ24; have BK2 := n0_; have BK3 := n1_; have AG := n2_; have HB := n3_; have OUT := n4_; clear n0_ n1_ n2_ n3_ n4_))
   go_loopg [5, 33] m31 (fun gg v5 v33 wr => ∃ (i : Nat) (acc : List (List (List Int))), v33 = .int .i64 (i : Int) ∧ Aside0 (i ≤ m31 ∧ m31 - i ≤ gg) ∧ Aside0 ((nrIn k ts se tq ov t a (ls.drop (j + 1 + i)) acc).bind (nrOut k ts se tq ov t (ls.drop (j + 1))) = some r) ∧ Aside0 (Kd.S (sepK 22 (Kd.slice 3 (Kd.int .i64))) 57 wr w.heap.size (fun k_ => k_ < s1 ∨ ws.heap.size ≤ k_) v5 acc) ∧ Aside0 (AgW s1 ws wr) ∧ Aside0 (wr.heap[gb2]? = some (.cells #[.slice At ts.length ct, .int .i64 se, .int .i64 tq] 33 (0, 0))) ∧ Aside0 (wr.heap[gb3]? = some (.cells #[.slice Ao ov.length co, .int .i64 t] 35 (0, 0))) ∧ Aside0 (Below w.heap.size w wr))
   case atStart => exact ⟨0, acc ++ [[a]], rfl, ⟨⟨Nat.zero_le _, Nat.le_refl _⟩⟩, HH, ⟨Kd.pS OUT.out⟩, ⟨(by repeat (first | exact AG.out | refine AgW.alloc ?_ _))⟩, ⟨pk BK2.out⟩, ⟨pk BK3.out⟩, ⟨(bb_ HB.out)⟩⟩
   case round =>
    clear HH OUT AG BK2 BK3 HB HZ HZE HACC hcut
    clear j1 j1n j0p j1p c19 c20 c19b c20b
    obtain ⟨i, acc, rfl, HI, H, OUT, AG, BK2, BK3, HB⟩ := hrel
    by_cases hi : i < m31
    ·have i1 : decide ((i : Int) < (m31 : Int)) = true := decide_eq_true (by omega)
     have i1n : decide (i < m31) = true := decide_eq_true hi
     have i0p : ((0 : Int) ≤ (i : Int)) = True := eq_true (by omega)
     have i1p : ((i : Int) < (m31 : Int)) = True := eq_true (by omega)
     obtain rfl : A31 = some ⟨gl, j + 1, none⟩ := HA31.out.resolve_left (by omega)
     have hjl : j + 1 + i < ls.length := by have := HM31.out; omega
     obtain ⟨Ab, cb, hcB, hlb⟩ := ro_get HL.out (j + 1 + i) hjl
     obtain ⟨b, hb⟩ : ∃ b, b = ls.getD (j + 1 + i) [] := ⟨_, rfl⟩
     rw [← hb] at hcB hlb
     have hlj : ls[j + 1 + i] = b := by rw [hb, List.getD_eq_getElem?_getD, List.getElem?_eq_getElem hjl]; rfl
     have h := H.out
     rw [List.drop_eq_getElem_cons hjl, hlj] at h
     simp only [nrIn] at h
     have hcell := (hcB wr AG.out).1
     have hw33 : IntKind.i64.wrap ((i : Int) + 1) = ((i + 1 : Nat) : Int) := by have := HLS.out; rw [IntWalk.i64_in _ ⟨by omega, by omega⟩]; omega
     have HCB := ak_ hcB
     have HLB := ak_ hlb
     have HII := ak_ hi
     have hq2_2 := blk_cell BK2.out 2
     simp at hq2_2
     by_cases ht1 : 1 < tq
     ·rw [if_pos ht1] at h
      have c31b0 : decide (1 < tq) = true := decide_eq_true ht1
      obtain ⟨b1, h, h2⟩ := Option.bind_eq_some_iff.mp h
      obtain ⟨q, hq, h⟩ := Option.bind_eq_some_iff.mp h
      have AT2 := ak_ (ATO.out a b q hq)
      have hq2_0 := blk_cell BK2.out 0
      have hq2_1 := blk_cell BK2.out 1
      have hq3_0 := blk_cell BK3.out 0
      have hq3_1 := blk_cell BK3.out 1
      simp at hq2_0
      simp at hq2_1
      simp at hq3_0
      simp at hq3_1
      cases q with
      | false =>
       have HH := ak_ (show (nrIn k ts se tq ov t a (ls.drop (j + 1 + (i + 1))) acc).bind (nrOut k ts se tq ov t (ls.drop (j + 1))) = some r from Option.bind_eq_some_iff.mpr ⟨b1, h, h2⟩)
       clear h h2 hq H hcB hlb hi hjl hlj hb ht1
       go_wp2_with (first | (go_at_call 71; refine (AT2.out _ (bb_ HB.out) Aa ca Ab cb (HCA.out _ (by repeat (first | exact AG.out | refine AgW.alloc ?_ _))).2 HLA.out (HCB.out _ (by repeat (first | exact AG.out | refine AgW.alloc ?_ _))).2 HLB.out).mono ?_; rintro e w45 ⟨rfl, hb⟩; clear hq2_0 hq2_1 hq2_2 hq3_0 hq3_1 hcell AT2; have n0_ := ak_ (blk_below (pk BK2.out) hb); have n1_ := ak_ (blk_below (pk BK3.out) hb); have n2_ := ak_ (AgW.below (by repeat (first | exact AG.out | refine AgW.alloc ?_ _)) hb); have n3_ := ak_ (Kd.S_below (Kd.pS OUT.out) hb); have n4_ := ak_ (bs_ (bb_ HB.out) hb); clear BK2 BK3 AG OUT HB hb; have BK2 := n0_; have BK3 := n1_; have AG := n2_; have OUT := n3_; have HB := n4_; clear n0_ n1_ n2_ n3_ n4_))
       go_roundg (m31 - (i + 1))
       case measure => have := HI.out; have := HII.out; omega
       case rel => exact ⟨i + 1, acc, (by first | rfl | (simp; done)), ⟨⟨by have := HII.out; omega, Nat.le_refl _⟩⟩, HH, ⟨Kd.pS OUT.out⟩, ⟨(by repeat (first | exact AG.out | refine AgW.alloc ?_ _))⟩, ⟨pk BK2.out⟩, ⟨pk BK3.out⟩, ⟨(bb_ HB.out)⟩⟩
      | true =>
       rw [if_pos rfl] at h
       by_cases hac : acc.length < 1000000 ∧ b.length < 1000000
       rotate_left
       ·rw [if_neg hac] at h; exact absurd h (by simp)
       rw [if_pos hac] at h
       have HH := ak_ (show (nrIn k ts se tq ov t a (ls.drop (j + 1 + (i + 1))) (acc ++ [[a, b]])).bind (nrOut k ts se tq ov t (ls.drop (j + 1))) = some r from Option.bind_eq_some_iff.mpr ⟨b1, h, h2⟩)
       have ACB := ak_ fun (W : World) (hw : AgW s1 ws W) => slices_Clone_int_int.calls Ab cb b b W (hcB W hw).2 hlb (by unfold slices_Clone_int_int.f; rw [if_pos (by omega)])
       have HACC := ak_ hac
       clear h h2 hq H hcB hlb hi hjl hlj hb ht1 hac
       go_upto_region 10 with (first | (go_at_call 71; refine (AT2.out _ (bb_ HB.out) Aa ca Ab cb (HCA.out _ (by repeat (first | exact AG.out | refine AgW.alloc ?_ _))).2 HLA.out (HCB.out _ (by repeat (first | exact AG.out | refine AgW.alloc ?_ _))).2 HLB.out).mono ?_; rintro e w45 ⟨rfl, hb⟩; clear hq2_0 hq2_1 hq2_2 hq3_0 hq3_1 hcell AT2; have n0_ := ak_ (blk_below (pk BK2.out) hb); have n1_ := ak_ (blk_below (pk BK3.out) hb); have n2_ := ak_ (AgW.below (by repeat (first | exact AG.out | refine AgW.alloc ?_ _)) hb); have n3_ := ak_ (Kd.S_below (Kd.pS OUT.out) hb); have n4_ := ak_ (bs_ (bb_ HB.out) hb); clear BK2 BK3 AG OUT HB hb; have BK2 := n0_; have BK3 := n1_; have AG := n2_; have OUT := n3_; have HB := n4_; clear n0_ n1_ n2_ n3_ n4_))
       have HAS := ak_ (Kd.S_mono (Kd.S_bound OUT.out) (fun k_ hk_ => (⟨hk_.1, hk_.2.2.1⟩ : (k_ < s1 ∨ ws.heap.size ≤ k_) ∧ k_ < w45.heap.size)))
       obtain ⟨z, hz⟩ : ∃ z, z = w45.heap.size := ⟨_, rfl⟩
       have HZ := ak_ (show ws.heap.size ≤ z ∧ w.heap.size ≤ z from by rw [hz]; exact ⟨AG.out.sz, bz_ HB.out⟩)
       rw [← hz] at HAS
       have HZE := ak_ hz
       clear OUT hz
       have OUT := HAS
       clear HAS
       go_wp2_with (first | (go_at_call 70; refine (ACA.out _ (by repeat (first | exact AG.out | refine AgW.alloc ?_ _))).mono ?_; rintro e w49 ⟨v49, rfl, ho, hb⟩; obtain ⟨Aw49, cw49, rfl⟩ := Kd.R_slice ho; have CL1 := ak_ (Kd.R_mono (ok' := fun k_ => z ≤ k_ ∧ k_ < w49.heap.size) (Kd.R_lower (Kd.R_bound ho) (bz_ (bb_ HB.out))) (fun k_ hk_ => ⟨by rw [HZE.out]; exact hk_.2.1, hk_.2.2.1⟩)); have HZ49 := ak_ (show z ≤ w49.heap.size from by rw [HZE.out]; exact hb.size); have n0_ := ak_ (blk_below (pk BK2.out) hb); have n1_ := ak_ (blk_below (pk BK3.out) hb); have n2_ := ak_ (AgW.below (by repeat (first | exact AG.out | refine AgW.alloc ?_ _)) hb); have n3_ := ak_ (Kd.S_below (Kd.pS OUT.out) hb); have n4_ := ak_ (bs_ (bb_ HB.out) hb); clear BK2 BK3 AG OUT HB hb ho ACA; have BK2 := n0_; have BK3 := n1_; have AG := n2_; have OUT := n3_; have HB := n4_; clear n0_ n1_ n2_ n3_ n4_) | (go_at_call 70; refine (ACB.out _ (by repeat (first | exact AG.out | refine AgW.alloc ?_ _))).mono ?_; rintro e w51 ⟨v51, rfl, ho, hb⟩; obtain ⟨Aw51, cw51, rfl⟩ := Kd.R_slice ho; have CL2 := ak_ (Kd.R_mono (ok' := fun k_ => w49.heap.size ≤ k_) (Kd.R_lower (Kd.R_bound ho) (bz_ (bb_ HB.out))) (fun k_ hk_ => hk_.2.1)); have HZ51 := ak_ (show w49.heap.size ≤ w51.heap.size from hb.size); have n0_ := ak_ (blk_below (pk BK2.out) hb); have n1_ := ak_ (blk_below (pk BK3.out) hb); have n2_ := ak_ (AgW.below (by repeat (first | exact AG.out | refine AgW.alloc ?_ _)) hb); have n3_ := ak_ (Kd.S_below (Kd.pS OUT.out) hb); have n4_ := ak_ (bs_ (bb_ HB.out) hb); have n5_ := ak_ (Kd.R_below CL1.out hb); clear BK2 BK3 AG OUT HB CL1 hb ho ACB; have BK2 := n0_; have BK3 := n1_; have AG := n2_; have OUT := n3_; have HB := n4_; have CL1 := n5_; clear n0_ n1_ n2_ n3_ n4_ n5_) | ((with_reducible refine gate_builtin (b := .append) (xs := #[.tmp 47, .tmp 53]) rfl ?_); at_builtin; refine Kd.S_append (sepK 22 (Kd.slice 3 (Kd.int .i64))) (w0 := w) w.heap.size rfl (.tmp 47) (.tmp 53) 30 57 (.slice none 0 0) 24 rfl Try.underlying30 info57 rfl (by decide) (by omega) u5 acc [a, b] [.slice (some ⟨w51.heap.size, 0, none⟩) 2 2] (fun k_ => k_ < s1 ∨ ws.heap.size ≤ k_) (fun k_ => z ≤ k_) rfl (congrArg (fun z_ => Value.slice (some ⟨z_, 0, none⟩) 1 1) (Array.size_push ..).symm) ?aP ?aK ?aF ?aO ?aB ?aS ?aL ?_; (case aP => exact ⟨_, rfl, row_lit2 CL1.out CL2.out HZ49.out HZ51.out (Nat.le_trans HZ.out.2 (Nat.le_trans HZ49.out HZ51.out))⟩); (case aK => (intro k_ hk_; exact ⟨.inr (Nat.le_trans HZ.out.1 hk_), fun e_ => Nat.not_le.2 ((Kd.S_R OUT.out).1 k_ e_.symm).2 hk_⟩)); (case aF => (intro k_ hk_; exact .inr (Nat.le_trans (AgW.sz (AgW.alloc AG.out _)) hk_))); (case aO => exact Kd.S_mono (Kd.pS OUT.out) (fun k_ hk_ => ⟨hk_.1, Nat.not_le.2 hk_.2⟩)); (case aB => exact (bb_ HB.out)); (case aS => exact bz_ (bb_ HB.out)); (case aL => have := HACC.out; omega); intro v36 w36 ho hb hg hat; have n0_ := ak_ (blk_grown (pk BK2.out) hg (Kd.S_ne OUT.out BK2.out (by decide))); have n1_ := ak_ (blk_grown (pk BK3.out) hg (Kd.S_ne OUT.out BK3.out (by decide))); have n2_ := ak_ (AgW.grown (AgW.alloc AG.out _) hg (fun k_ hk_ => ((Kd.S_R OUT.out).1 k_ hk_).1)); have n3_ := ak_ (hb); have n4_ := ak_ (ho); clear BK2 BK3 AG HB OUT hg hat hb ho CL1 CL2 HZ49 HZ51; have BK2 := n0_; have BK3 := n1_; have AG := n2_; have HB := n3_; have OUT := n4_; clear n0_ n1_ n2_ n3_ n4_))
       go_roundg (m31 - (i + 1))
       case measure => have := HI.out; have := HII.out; omega
       case rel => exact ⟨i + 1, acc ++ [[a, b]], (by first | rfl | (simp; done)), ⟨⟨by have := HII.out; omega, Nat.le_refl _⟩⟩, HH, ⟨Kd.pS OUT.out⟩, ⟨(by repeat (first | exact AG.out | refine AgW.alloc ?_ _))⟩, ⟨pk BK2.out⟩, ⟨pk BK3.out⟩, ⟨(bb_ HB.out)⟩⟩
     ·rw [if_neg ht1] at h
      have c31b0 : decide (1 < tq) = false := decide_eq_false ht1
      have HH := ak_ (show (nrIn k ts se tq ov t a (ls.drop (j + 1 + (i + 1))) acc).bind (nrOut k ts se tq ov t (ls.drop (j + 1))) = some r from h)
      clear h H hcB hlb hi hjl hlj hb ht1
      go_wp2
      go_roundg (m31 - (i + 1))
      case measure => have := HI.out; have := HII.out; omega
      case rel => exact ⟨i + 1, acc, (by first | rfl | (simp; done)), ⟨⟨by have := HII.out; omega, Nat.le_refl _⟩⟩, HH, ⟨Kd.pS OUT.out⟩, ⟨(by repeat (first | exact AG.out | refine AgW.alloc ?_ _))⟩, ⟨pk BK2.out⟩, ⟨pk BK3.out⟩, ⟨(bb_ HB.out)⟩⟩
    ·have i1 : decide ((i : Int) < (m31 : Int)) = false := decide_eq_false (by omega)
     have i1n : decide (i < m31) = false := decide_eq_false hi
     have h := H.out
     rw [List.drop_of_length_le (by have := HM31.out; omega)] at h
     have HH := ak_ (show nrOut k ts se tq ov t (ls.drop (j + 1)) acc = some r from h)
     clear h H hi
     go_wp2
     go_roundg (ls.length - (j + 1))
     case measure => have := HJ.out; have := HJJ.out; omega
     case rel => exact ⟨j + 1, acc, (by rw [HJN.out]), ⟨⟨by have := HJJ.out; omega, Nat.le_refl _⟩⟩, HH, ⟨Kd.pS OUT.out⟩, ⟨(by repeat (first | exact AG.out | refine AgW.alloc ?_ _))⟩, ⟨pk BK2.out⟩, ⟨pk BK3.out⟩, ⟨(bb_ HB.out)⟩⟩
  ·have j1 : decide ((j : Int) < (ls.length : Int)) = false := decide_eq_false (by omega)
   have j1n : decide (j < ls.length) = false := decide_eq_false hj
   have h := H.out
   rw [List.drop_of_length_le (by omega)] at h
   obtain rfl : acc = r := Option.some.inj h
   clear h H hj
   go_wp2
   first | go_ret | go_ret2
   exact ⟨_, rfl, Kd.S_mono (Kd.pS OUT.out) (fun _ _ => trivial), (bb_ HB.out)⟩
def impl_RoundsOfNight.f (k : Nat) (ts : List Int) (se tq : Int) (ov : List Bool) (t : Int) : Option (List (List (List Int)) × Bool) := (impl_IsCamp.f ts se tq ov t).bind fun b => if b = true then (impl_Night_rounds.f k ts se tq ov t).bind fun r => some (r, true) else some ([], false)
theorem impl_RoundsOfNight.calls (k : Nat) (At : Option Addr) (ct : Nat) (ts : List Int) (se tq : Int) (Ao : Option Addr) (co : Nat) (ov : List Bool) (t : Int) (r1 : List (List (List Int))) (r2 : Bool) (w : World) (ht : Kd.C (Kd.int .i64) w At ts.length ts) (hct : ts.length ≤ ct) (ho : Kd.C Kd.bool w Ao ov.length ov) (hco : ov.length ≤ co) (h : impl_RoundsOfNight.f k ts se tq ov t = some (r1, r2)) :
  Calls Try.prog 15 #[.agg #[.slice At ts.length ct, .int .i64 se, .int .i64 tq], .agg #[.slice Ao ov.length co, .int .i64 t]] w fun e w' => ∃ v0_ : Value, e = .returned (.tuple #[v0_, .bool r2]) ∧ Kd.S (sepK 22 (Kd.slice 3 (Kd.int .i64))) 57 w' w.heap.size (fun _ => True) v0_ r1 ∧ Below w.heap.size w w' := by
 have hu := Try.underlying33
 have hu3 := Try.underlying35
 unfold impl_RoundsOfNight.f at h
 obtain ⟨b1, h1, h⟩ := Option.bind_eq_some_iff.mp h
 have A1 := ak_ fun (W : World) (hb : Below w.heap.size w W) => impl_IsCamp.calls At ct ts se tq Ao co ov t b1 W (Kd.C_below ht hb) hct (Kd.C_below ho hb) hco h1
 have HB := ak_ (Below.refl w.heap.size w)
 cases b1
 ·rw [if_neg (by simp)] at h
  obtain ⟨rfl, rfl⟩ : ([] : List (List (List Int))) = r1 ∧ false = r2 := by simpa using h
  clear h h1 ht hct ho hco
  go_enter Try.func15, Try.ntmps15
  go_upto_region 1 with (first | ((with_reducible refine gate_dst (N := 2) rfl ?_); refine bx_ 2 #[.slice At ts.length ct, .int .i64 se, .int .i64 tq] 33 ?_; intro gb2 hg w2 hbox hb; have nb_ := ak_ (bs_ (bb_ HB.out) hb); have nc_ := ak_ hbox; have nd_ := ak_ ((by rw [hg]; exact (bz_ (bb_ HB.out)) : w.heap.size ≤ gb2)); clear HB hb hbox hg; have HB := nb_; have BK2 := nc_; have GE2 := nd_; clear nb_ nc_ nd_; have hz2_0 := (blk_cell BK2.out 0); have hf2_0 := (blk_frozen BK2.out 0); simp at hz2_0; have hz2_1 := (blk_cell BK2.out 1); have hf2_1 := (blk_frozen BK2.out 1); simp at hz2_1; have hz2_2 := (blk_cell BK2.out 2); have hf2_2 := (blk_frozen BK2.out 2); simp at hz2_2; skip) | ((with_reducible refine gate_dst (N := 3) rfl ?_); refine bx_ 3 #[.slice Ao ov.length co, .int .i64 t] 35 ?_; intro gb3 hg w3 hbox hb; have n0_ := ak_ (blk_below (pk BK2.out) hb); have m0_ := ak_ ((by rw [hg]; exact Nat.ne_of_lt (blk_lt (pk BK2.out)) : gb2 ≠ gb3)); have nb_ := ak_ (bs_ (bb_ HB.out) hb); have nc_ := ak_ hbox; have nd_ := ak_ ((by rw [hg]; exact (bz_ (bb_ HB.out)) : w.heap.size ≤ gb3)); clear HB hb hbox hg; clear BK2; have BK2 := n0_; have NE2_3 := m0_; have HB := nb_; have BK3 := nc_; have GE3 := nd_; clear nb_ nc_ nd_ n0_ m0_; have hz3_0 := (blk_cell BK3.out 0); have hf3_0 := (blk_frozen BK3.out 0); simp at hz3_0; have hz3_1 := (blk_cell BK3.out 1); have hf3_1 := (blk_frozen BK3.out 1); simp at hz3_1; skip))
  have hq2_0 := blk_cell BK2.out 0
  simp at hq2_0
  have hq2_1 := blk_cell BK2.out 1
  simp at hq2_1
  have hq2_2 := blk_cell BK2.out 2
  simp at hq2_2
  have hq3_0 := blk_cell BK3.out 0
  simp at hq3_0
  have hq3_1 := blk_cell BK3.out 1
  simp at hq3_1
  go_wp2_with (go_at_call 41; refine (A1.out _ (bb_ HB.out)).mono ?_; rintro e w7 ⟨rfl, hb⟩; clear hq2_0 hq2_1 hq2_2 hq3_0 hq3_1 A1; have n0_ := ak_ (blk_below (pk BK2.out) hb); have n1_ := ak_ (blk_below (pk BK3.out) hb); have n2_ := ak_ (bs_ (bb_ HB.out) hb); clear BK2 BK3 HB hb; have BK2 := n0_; have BK3 := n1_; have HB := n2_; clear n0_ n1_ n2_)
  first | go_ret2 | go_ret
  exact ⟨_, rfl, Kd.S_nil _ _ _ _ _, (bb_ HB.out)⟩
 ·rw [if_pos rfl] at h
  obtain ⟨r, h2, h⟩ := Option.bind_eq_some_iff.mp h
  obtain ⟨rfl, rfl⟩ : r = r1 ∧ true = r2 := by simpa using h
  have A2 := ak_ fun (W : World) (hb : Below w.heap.size w W) => impl_Night_rounds.calls k At ct ts se tq Ao co ov t r W (Kd.C_below ht hb) hct (Kd.C_below ho hb) hco h2
  clear h h1 h2 ht hct ho hco
  go_enter Try.func15, Try.ntmps15
  go_upto_region 1 with (first | ((with_reducible refine gate_dst (N := 2) rfl ?_); refine bx_ 2 #[.slice At ts.length ct, .int .i64 se, .int .i64 tq] 33 ?_; intro gb2 hg w2 hbox hb; have nb_ := ak_ (bs_ (bb_ HB.out) hb); have nc_ := ak_ hbox; have nd_ := ak_ ((by rw [hg]; exact (bz_ (bb_ HB.out)) : w.heap.size ≤ gb2)); clear HB hb hbox hg; have HB := nb_; have BK2 := nc_; have GE2 := nd_; clear nb_ nc_ nd_; have hz2_0 := (blk_cell BK2.out 0); have hf2_0 := (blk_frozen BK2.out 0); simp at hz2_0; have hz2_1 := (blk_cell BK2.out 1); have hf2_1 := (blk_frozen BK2.out 1); simp at hz2_1; have hz2_2 := (blk_cell BK2.out 2); have hf2_2 := (blk_frozen BK2.out 2); simp at hz2_2; skip) | ((with_reducible refine gate_dst (N := 3) rfl ?_); refine bx_ 3 #[.slice Ao ov.length co, .int .i64 t] 35 ?_; intro gb3 hg w3 hbox hb; have n0_ := ak_ (blk_below (pk BK2.out) hb); have m0_ := ak_ ((by rw [hg]; exact Nat.ne_of_lt (blk_lt (pk BK2.out)) : gb2 ≠ gb3)); have nb_ := ak_ (bs_ (bb_ HB.out) hb); have nc_ := ak_ hbox; have nd_ := ak_ ((by rw [hg]; exact (bz_ (bb_ HB.out)) : w.heap.size ≤ gb3)); clear HB hb hbox hg; clear BK2; have BK2 := n0_; have NE2_3 := m0_; have HB := nb_; have BK3 := nc_; have GE3 := nd_; clear nb_ nc_ nd_ n0_ m0_; have hz3_0 := (blk_cell BK3.out 0); have hf3_0 := (blk_frozen BK3.out 0); simp at hz3_0; have hz3_1 := (blk_cell BK3.out 1); have hf3_1 := (blk_frozen BK3.out 1); simp at hz3_1; skip))
  have hq2_0 := blk_cell BK2.out 0
  simp at hq2_0
  have hq2_1 := blk_cell BK2.out 1
  simp at hq2_1
  have hq2_2 := blk_cell BK2.out 2
  simp at hq2_2
  have hq3_0 := blk_cell BK3.out 0
  simp at hq3_0
  have hq3_1 := blk_cell BK3.out 1
  simp at hq3_1
  go_upto_region 3 with (go_at_call 41; refine (A1.out _ (bb_ HB.out)).mono ?_; rintro e w7 ⟨rfl, hb⟩; clear hq2_0 hq2_1 hq2_2 hq3_0 hq3_1 A1; have n0_ := ak_ (blk_below (pk BK2.out) hb); have n1_ := ak_ (blk_below (pk BK3.out) hb); have n2_ := ak_ (bs_ (bb_ HB.out) hb); clear BK2 BK3 HB hb; have BK2 := n0_; have BK3 := n1_; have HB := n2_; clear n0_ n1_ n2_)
  have hq2_0 := blk_cell BK2.out 0
  simp at hq2_0
  have hq2_1 := blk_cell BK2.out 1
  simp at hq2_1
  have hq2_2 := blk_cell BK2.out 2
  simp at hq2_2
  have hq3_0 := blk_cell BK3.out 0
  simp at hq3_0
  have hq3_1 := blk_cell BK3.out 1
  simp at hq3_1
  go_wp2_with (go_at_call 42; refine (A2.out _ (bb_ HB.out)).mono ?_; rintro e w8 ⟨v8, rfl, ho, hb⟩; have HO := ak_ (Kd.S_lower ho (bz_ (bb_ HB.out))); have n0_ := ak_ (bs_ (bb_ HB.out) hb); clear HB hb ho A2; have HB := n0_; clear n0_)
  first | go_ret2 | go_ret
  exact ⟨_, rfl, Kd.S_below HO.out be_, (bb_ HB.out)⟩
def laws_eqIntS.l0 : Nat → List Int → List Int → Int → Option (Bool)
 | 0, _, _, _ => none
 | k + 1, x0, x1, x5 => if x5 < (x0.length : Int) then (if 0 ≤ x5 then (if x5 < (x1.length : Int) then (if (rd x0 x5) = (rd x1 x5) then (laws_eqIntS.l0 k x0 x1 (wrap64 (x5 + 1))) else (some false)) else (none)) else (none)) else (some true)
def laws_eqIntS.f (k : Nat) (l0 : List Int) (l1 : List Int) : Option (Bool) := if (l0.length : Int) = (l1.length : Int) then (laws_eqIntS.l0 k l0 l1 0) else (some false)
theorem laws_eqIntS.calls (k : Nat) (A0 : Option Addr) (c0 : Nat) (l0 : List Int) (A1 : Option Addr) (c1 : Nat) (l1 : List Int) (r : Bool) (w : World) (hr0 : Kd.C (Kd.int .i64) w A0 l0.length l0) (hc0 : l0.length ≤ c0) (hr1 : Kd.C (Kd.int .i64) w A1 l1.length l1) (hc1 : l1.length ≤ c1) (h : laws_eqIntS.f k l0 l1 = some r) :
  Calls Try.prog 44 #[.slice A0 l0.length c0, .slice A1 l1.length c1] w fun e w' => e = .returned (.bool r) ∧ Drawn0 w w' := by
 have HR0 := ak_ hr0
 have HC0 := ak_ hc0
 clear hr0 hc0
 have HR1 := ak_ hr1
 have HC1 := ak_ hc1
 clear hr1 hc1
 have H : (if (l0.length : Int) = (l1.length : Int) then (laws_eqIntS.l0 k l0 l1 0) else (some false)) = some r := h
 clear h
 by_cases c3 : (l0.length : Int) = (l1.length : Int)
 ·
  rw [if_pos c3] at H
  have c3b0 : ((l0.length : Int) == (l1.length : Int)) = true := beq_iff_eq.mpr c3
  have c3b1 : ((l0.length : Int) != (l1.length : Int)) = false := bne_eq_false_iff_eq.mpr c3
  have c3b2 : (l0.length == l1.length) = true := by first | simpa using c3 | (simp at c3 ⊢; omega)
  clear c3
  have H' := ak_ H
  clear H
  go_enter Try.func44, Try.ntmps44
  go_wp2
  repeat (go_quiet (fail); try go_wp2)
  go_loopg [5] k (fun kq v5 w' => ∃ (x5_1 : Int), v5 = .int .i64 x5_1 ∧ Aside0 (laws_eqIntS.l0 kq l0 l1 x5_1 = some r) ∧ Aside0 (kq ≤ k) ∧ Drawn0 w w')
  case atStart => exact ⟨(0), (ry_), H', ⟨Nat.le_refl _⟩, by repeat (first | exact Drawn0.refl _ | apply Drawn0.step)⟩
  case round =>
   clear H'
   try clear c1
   try clear p2
   try clear c3
   try clear c3b0
   try clear c3b1
   try clear c3b2
   obtain ⟨x5_1, rfl, HA, HK1, ⟨m1, rfl⟩⟩ := hrel
   cases gk with
   | zero => exact absurd HA.out (by simp [laws_eqIntS.l0])
   | succ k1 =>
    have H := HA.out
    clear HA
    simp only [laws_eqIntS.l0] at H
    by_cases c4 : x5_1 < (l0.length : Int)
    ·
     rw [if_pos c4] at H
     have c4b0 : decide (x5_1 < (l0.length : Int)) = true := decide_eq_true c4
     clear c4
     by_cases c5 : 0 ≤ x5_1
     ·
      rw [if_pos c5] at H
      have c5b0 : decide (0 ≤ x5_1) = true := decide_eq_true c5
      clear c5
      by_cases c6 : x5_1 < (l1.length : Int)
      ·
       rw [if_pos c6] at H
       have c6b0 : decide (x5_1 < (l1.length : Int)) = true := decide_eq_true c6
       clear c6
       by_cases c7 : (rd l0 x5_1) = (rd l1 x5_1)
       ·
        rw [if_pos c7] at H
        have c7b0 : ((rd l0 x5_1) == (rd l1 x5_1)) = true := beq_iff_eq.mpr c7
        have c7b1 : ((rd l0 x5_1) != (rd l1 x5_1)) = false := bne_eq_false_iff_eq.mpr c7
        clear c7
        have H' := ak_ H
        clear H
        have p350 : 0 ≤ (x5_1 : Int) := odt_ (by assumption)
        have q350 : x5_1 < (l0.length : Int) := odt_ (by assumption)
        obtain ⟨ad350, e350, hx350_0⟩ := Kd.at_int HR0.out x5_1 p350 q350
        cases e350
        replace p350 := eq_true p350
        replace q350 := eq_true q350
        have p351 : 0 ≤ (x5_1 : Int) := odt_ (by assumption)
        have q351 : x5_1 < (l1.length : Int) := odt_ (by assumption)
        obtain ⟨ad351, e351, hx351_0⟩ := Kd.at_int HR1.out x5_1 p351 q351
        cases e351
        replace p351 := eq_true p351
        replace q351 := eq_true q351
        go_wp2
        repeat (go_quiet (fail); try go_wp2)
        go_roundg k1
        case measure => have := HK1.out; omega
        case rel => exact ⟨(wrap64 (x5_1 + 1)), (ry_), H', ⟨by have := HK1.out; omega⟩, by repeat (first | exact Drawn0.refl _ | apply Drawn0.step)⟩
       ·
        rw [if_neg c7] at H
        have c7b0 : ((rd l0 x5_1) == (rd l1 x5_1)) = false := beq_eq_false_iff_ne.mpr c7
        have c7b1 : ((rd l0 x5_1) != (rd l1 x5_1)) = true := bne_iff_ne.mpr c7
        obtain rfl := Option.some.inj H
        have p350 : 0 ≤ (x5_1 : Int) := odt_ (by assumption)
        have q350 : x5_1 < (l0.length : Int) := odt_ (by assumption)
        obtain ⟨ad350, e350, hx350_0⟩ := Kd.at_int HR0.out x5_1 p350 q350
        cases e350
        replace p350 := eq_true p350
        replace q350 := eq_true q350
        have p351 : 0 ≤ (x5_1 : Int) := odt_ (by assumption)
        have q351 : x5_1 < (l1.length : Int) := odt_ (by assumption)
        obtain ⟨ad351, e351, hx351_0⟩ := Kd.at_int HR1.out x5_1 p351 q351
        cases e351
        replace p351 := eq_true p351
        replace q351 := eq_true q351
        go_wp2
        repeat (go_quiet (fail); try go_wp2)
        go_ret
        exact ⟨ry_, by repeat (first | exact Drawn0.refl _ | apply Drawn0.step)⟩
      ·
       rw [if_neg c6] at H
       exact absurd H (by simp)
     ·
      rw [if_neg c5] at H
      exact absurd H (by simp)
    ·
     rw [if_neg c4] at H
     have c4b0 : decide (x5_1 < (l0.length : Int)) = false := decide_eq_false c4
     clear c4
     obtain rfl := Option.some.inj H
     go_wp2
     repeat (go_quiet (fail); try go_wp2)
     go_ret
     exact ⟨ry_, by repeat (first | exact Drawn0.refl _ | apply Drawn0.step)⟩
 ·
  rw [if_neg c3] at H
  have c3b0 : ((l0.length : Int) == (l1.length : Int)) = false := beq_eq_false_iff_ne.mpr c3
  have c3b1 : ((l0.length : Int) != (l1.length : Int)) = true := bne_iff_ne.mpr c3
  have c3b2 : (l0.length == l1.length) = false := by first | simpa using c3 | (simp at c3 ⊢; omega)
  obtain rfl := Option.some.inj H
  go_enter Try.func44, Try.ntmps44
  go_wp2
  repeat (go_quiet (fail); try go_wp2)
  go_ret
  exact ⟨ry_, by repeat (first | exact Drawn0.refl _ | apply Drawn0.step)⟩
def laws_eqIntSS.l0 : Nat → List (List Int) → List (List Int) → Int → Option (Bool)
 | 0, _, _, _ => none
 | k + 1, x0, x1, x5 => if x5 < (x0.length : Int) then (if 0 ≤ x5 then (if x5 < (x1.length : Int) then ((laws_eqIntS.f k (rd_L2 x0 x5) (rd_L2 x1 x5)).bind fun t354 => (if t354 = true then (laws_eqIntSS.l0 k x0 x1 (wrap64 (x5 + 1))) else (some false))) else (none)) else (none)) else (some true)
def laws_eqIntSS.f (k : Nat) (l0 : List (List Int)) (l1 : List (List Int)) : Option (Bool) := if (l0.length : Int) = (l1.length : Int) then (laws_eqIntSS.l0 k l0 l1 0) else (some false)
theorem laws_eqIntSS.calls (k : Nat) (A0 : Option Addr) (c0 : Nat) (l0 : List (List Int)) (A1 : Option Addr) (c1 : Nat) (l1 : List (List Int)) (r : Bool) (w : World) (hr0 : Kd.C (Kd.slice 3 (Kd.int .i64)) w A0 l0.length l0) (hc0 : l0.length ≤ c0) (hr1 : Kd.C (Kd.slice 3 (Kd.int .i64)) w A1 l1.length l1) (hc1 : l1.length ≤ c1) (h : laws_eqIntSS.f k l0 l1 = some r) :
  Calls Try.prog 43 #[.slice A0 l0.length c0, .slice A1 l1.length c1] w fun e w' => e = .returned (.bool r) ∧ Drawn0 w w' := by
 have HR0 := ak_ hr0
 have HC0 := ak_ hc0
 clear hr0 hc0
 have HR1 := ak_ hr1
 have HC1 := ak_ hc1
 clear hr1 hc1
 have H : (if (l0.length : Int) = (l1.length : Int) then (laws_eqIntSS.l0 k l0 l1 0) else (some false)) = some r := h
 clear h
 by_cases c3 : (l0.length : Int) = (l1.length : Int)
 ·
  rw [if_pos c3] at H
  have c3b0 : ((l0.length : Int) == (l1.length : Int)) = true := beq_iff_eq.mpr c3
  have c3b1 : ((l0.length : Int) != (l1.length : Int)) = false := bne_eq_false_iff_eq.mpr c3
  have c3b2 : (l0.length == l1.length) = true := by first | simpa using c3 | (simp at c3 ⊢; omega)
  clear c3
  have H' := ak_ H
  clear H
  go_enter Try.func43, Try.ntmps43
  go_wp2
  repeat (go_quiet (fail); try go_wp2)
  go_loopg [5] k (fun kq v5 w' => ∃ (x5_1 : Int), v5 = .int .i64 x5_1 ∧ Aside0 (laws_eqIntSS.l0 kq l0 l1 x5_1 = some r) ∧ Aside0 (kq ≤ k) ∧ Drawn0 w w')
  case atStart => exact ⟨(0), (ry_), H', ⟨Nat.le_refl _⟩, by repeat (first | exact Drawn0.refl _ | apply Drawn0.step)⟩
  case round =>
   clear H'
   try clear c1
   try clear p2
   try clear c3
   try clear c3b0
   try clear c3b1
   try clear c3b2
   obtain ⟨x5_1, rfl, HA, HK1, ⟨m1, rfl⟩⟩ := hrel
   cases gk with
   | zero => exact absurd HA.out (by simp [laws_eqIntSS.l0])
   | succ k1 =>
    have H := HA.out
    clear HA
    simp only [laws_eqIntSS.l0] at H
    by_cases c4 : x5_1 < (l0.length : Int)
    ·
     rw [if_pos c4] at H
     have c4b0 : decide (x5_1 < (l0.length : Int)) = true := decide_eq_true c4
     clear c4
     by_cases c5 : 0 ≤ x5_1
     ·
      rw [if_pos c5] at H
      have c5b0 : decide (0 ≤ x5_1) = true := decide_eq_true c5
      clear c5
      by_cases c6 : x5_1 < (l1.length : Int)
      ·
       rw [if_pos c6] at H
       have c6b0 : decide (x5_1 < (l1.length : Int)) = true := decide_eq_true c6
       clear c6
       replace H := Option.bind_eq_some_iff.mp H
       obtain ⟨t354, A70, H⟩ := H
       replace H : (if t354 = true then (laws_eqIntSS.l0 k1 l0 l1 (wrap64 (x5_1 + 1))) else (some false)) = some r := H
       have A7 := ak_ A70
       clear A70
       by_cases c8 : t354 = true
       ·
        subst c8
        have H1 : (laws_eqIntSS.l0 k1 l0 l1 (wrap64 (x5_1 + 1))) = some r := by rw [if_pos rfl] at H; exact H
        clear H
        have H := H1
        clear H1
        have H' := ak_ H
        clear H
        have p352 : 0 ≤ (x5_1 : Int) := odt_ (by assumption)
        have q352 : x5_1 < (l0.length : Int) := odt_ (by assumption)
        obtain ⟨ad352, A352_0, c352_0, e352, hx352_0, hl352_0, hi352_0⟩ := at_L2 HR0.out x5_1 p352 q352
        cases e352
        have HR352_0 := ak_ hi352_0
        have HC352_0 := ak_ hl352_0
        clear hi352_0 hl352_0
        replace p352 := eq_true p352
        replace q352 := eq_true q352
        have p353 : 0 ≤ (x5_1 : Int) := odt_ (by assumption)
        have q353 : x5_1 < (l1.length : Int) := odt_ (by assumption)
        obtain ⟨ad353, A353_0, c353_0, e353, hx353_0, hl353_0, hi353_0⟩ := at_L2 HR1.out x5_1 p353 q353
        cases e353
        have HR353_0 := ak_ hi353_0
        have HC353_0 := ak_ hl353_0
        clear hi353_0 hl353_0
        replace p353 := eq_true p353
        replace q353 := eq_true q353
        go_wp2_with (first | (go_at_call 44; (with_reducible refine (laws_eqIntS.calls k1 _ _ (rd_L2 l0 x5_1) _ _ (rd_L2 l1 x5_1) true _ ?side1 ?side2 ?side3 ?side4 A7.out).mono ?_); (case side1 => repeat (first | exact HR352_0.out | (with_reducible refine Kd.C_alloc ?_ _) | (with_reducible refine Kd.C_drewN ?_ _) | (with_reducible refine Kd.C_drew ?_))); (case side2 => exact HC352_0.out); (case side3 => repeat (first | exact HR353_0.out | (with_reducible refine Kd.C_alloc ?_ _) | (with_reducible refine Kd.C_drewN ?_ _) | (with_reducible refine Kd.C_drew ?_))); (case side4 => exact HC353_0.out); rintro e w' ⟨rfl, ⟨nd, rfl⟩⟩; (try first | exact ⟨rfl, _, World.drewN_drewN _ _ _⟩ | exact ⟨rfl, _, Eq.trans (World.drewN_drewN _ _ _) (congrArg (World.drewN _) (Nat.add_assoc _ _ _))⟩)))
        repeat (go_quiet (first | (go_at_call 44; (with_reducible refine (laws_eqIntS.calls k1 _ _ (rd_L2 l0 x5_1) _ _ (rd_L2 l1 x5_1) true _ ?side1 ?side2 ?side3 ?side4 A7.out).mono ?_); (case side1 => repeat (first | exact HR352_0.out | (with_reducible refine Kd.C_alloc ?_ _) | (with_reducible refine Kd.C_drewN ?_ _) | (with_reducible refine Kd.C_drew ?_))); (case side2 => exact HC352_0.out); (case side3 => repeat (first | exact HR353_0.out | (with_reducible refine Kd.C_alloc ?_ _) | (with_reducible refine Kd.C_drewN ?_ _) | (with_reducible refine Kd.C_drew ?_))); (case side4 => exact HC353_0.out); rintro e w' ⟨rfl, ⟨nd, rfl⟩⟩; (try first | exact ⟨rfl, _, World.drewN_drewN _ _ _⟩ | exact ⟨rfl, _, Eq.trans (World.drewN_drewN _ _ _) (congrArg (World.drewN _) (Nat.add_assoc _ _ _))⟩))); try go_wp2_with (first | (go_at_call 44; (with_reducible refine (laws_eqIntS.calls k1 _ _ (rd_L2 l0 x5_1) _ _ (rd_L2 l1 x5_1) true _ ?side1 ?side2 ?side3 ?side4 A7.out).mono ?_); (case side1 => repeat (first | exact HR352_0.out | (with_reducible refine Kd.C_alloc ?_ _) | (with_reducible refine Kd.C_drewN ?_ _) | (with_reducible refine Kd.C_drew ?_))); (case side2 => exact HC352_0.out); (case side3 => repeat (first | exact HR353_0.out | (with_reducible refine Kd.C_alloc ?_ _) | (with_reducible refine Kd.C_drewN ?_ _) | (with_reducible refine Kd.C_drew ?_))); (case side4 => exact HC353_0.out); rintro e w' ⟨rfl, ⟨nd, rfl⟩⟩; (try first | exact ⟨rfl, _, World.drewN_drewN _ _ _⟩ | exact ⟨rfl, _, Eq.trans (World.drewN_drewN _ _ _) (congrArg (World.drewN _) (Nat.add_assoc _ _ _))⟩))))
        go_roundg k1
        case measure => have := HK1.out; omega
        case rel => exact ⟨(wrap64 (x5_1 + 1)), (ry_), H', ⟨by have := HK1.out; omega⟩, by repeat (first | exact Drawn0.refl _ | apply Drawn0.step)⟩
       ·
        replace c8 := Bool.eq_false_iff.mpr c8
        subst c8
        have H1 : (some false) = some r := by rw [if_neg (show ¬ (false = true) by decide)] at H; exact H
        clear H
        have H := H1
        clear H1
        obtain rfl := Option.some.inj H
        have p352 : 0 ≤ (x5_1 : Int) := odt_ (by assumption)
        have q352 : x5_1 < (l0.length : Int) := odt_ (by assumption)
        obtain ⟨ad352, A352_0, c352_0, e352, hx352_0, hl352_0, hi352_0⟩ := at_L2 HR0.out x5_1 p352 q352
        cases e352
        have HR352_0 := ak_ hi352_0
        have HC352_0 := ak_ hl352_0
        clear hi352_0 hl352_0
        replace p352 := eq_true p352
        replace q352 := eq_true q352
        have p353 : 0 ≤ (x5_1 : Int) := odt_ (by assumption)
        have q353 : x5_1 < (l1.length : Int) := odt_ (by assumption)
        obtain ⟨ad353, A353_0, c353_0, e353, hx353_0, hl353_0, hi353_0⟩ := at_L2 HR1.out x5_1 p353 q353
        cases e353
        have HR353_0 := ak_ hi353_0
        have HC353_0 := ak_ hl353_0
        clear hi353_0 hl353_0
        replace p353 := eq_true p353
        replace q353 := eq_true q353
        go_wp2_with (first | (go_at_call 44; (with_reducible refine (laws_eqIntS.calls k1 _ _ (rd_L2 l0 x5_1) _ _ (rd_L2 l1 x5_1) false _ ?side1 ?side2 ?side3 ?side4 A7.out).mono ?_); (case side1 => repeat (first | exact HR352_0.out | (with_reducible refine Kd.C_alloc ?_ _) | (with_reducible refine Kd.C_drewN ?_ _) | (with_reducible refine Kd.C_drew ?_))); (case side2 => exact HC352_0.out); (case side3 => repeat (first | exact HR353_0.out | (with_reducible refine Kd.C_alloc ?_ _) | (with_reducible refine Kd.C_drewN ?_ _) | (with_reducible refine Kd.C_drew ?_))); (case side4 => exact HC353_0.out); rintro e w' ⟨rfl, ⟨nd, rfl⟩⟩; (try first | exact ⟨rfl, _, World.drewN_drewN _ _ _⟩ | exact ⟨rfl, _, Eq.trans (World.drewN_drewN _ _ _) (congrArg (World.drewN _) (Nat.add_assoc _ _ _))⟩)))
        repeat (go_quiet (first | (go_at_call 44; (with_reducible refine (laws_eqIntS.calls k1 _ _ (rd_L2 l0 x5_1) _ _ (rd_L2 l1 x5_1) false _ ?side1 ?side2 ?side3 ?side4 A7.out).mono ?_); (case side1 => repeat (first | exact HR352_0.out | (with_reducible refine Kd.C_alloc ?_ _) | (with_reducible refine Kd.C_drewN ?_ _) | (with_reducible refine Kd.C_drew ?_))); (case side2 => exact HC352_0.out); (case side3 => repeat (first | exact HR353_0.out | (with_reducible refine Kd.C_alloc ?_ _) | (with_reducible refine Kd.C_drewN ?_ _) | (with_reducible refine Kd.C_drew ?_))); (case side4 => exact HC353_0.out); rintro e w' ⟨rfl, ⟨nd, rfl⟩⟩; (try first | exact ⟨rfl, _, World.drewN_drewN _ _ _⟩ | exact ⟨rfl, _, Eq.trans (World.drewN_drewN _ _ _) (congrArg (World.drewN _) (Nat.add_assoc _ _ _))⟩))); try go_wp2_with (first | (go_at_call 44; (with_reducible refine (laws_eqIntS.calls k1 _ _ (rd_L2 l0 x5_1) _ _ (rd_L2 l1 x5_1) false _ ?side1 ?side2 ?side3 ?side4 A7.out).mono ?_); (case side1 => repeat (first | exact HR352_0.out | (with_reducible refine Kd.C_alloc ?_ _) | (with_reducible refine Kd.C_drewN ?_ _) | (with_reducible refine Kd.C_drew ?_))); (case side2 => exact HC352_0.out); (case side3 => repeat (first | exact HR353_0.out | (with_reducible refine Kd.C_alloc ?_ _) | (with_reducible refine Kd.C_drewN ?_ _) | (with_reducible refine Kd.C_drew ?_))); (case side4 => exact HC353_0.out); rintro e w' ⟨rfl, ⟨nd, rfl⟩⟩; (try first | exact ⟨rfl, _, World.drewN_drewN _ _ _⟩ | exact ⟨rfl, _, Eq.trans (World.drewN_drewN _ _ _) (congrArg (World.drewN _) (Nat.add_assoc _ _ _))⟩))))
        go_ret
        exact ⟨ry_, by repeat (first | exact Drawn0.refl _ | apply Drawn0.step)⟩
      ·
       rw [if_neg c6] at H
       exact absurd H (by simp)
     ·
      rw [if_neg c5] at H
      exact absurd H (by simp)
    ·
     rw [if_neg c4] at H
     have c4b0 : decide (x5_1 < (l0.length : Int)) = false := decide_eq_false c4
     clear c4
     obtain rfl := Option.some.inj H
     go_wp2
     repeat (go_quiet (fail); try go_wp2)
     go_ret
     exact ⟨ry_, by repeat (first | exact Drawn0.refl _ | apply Drawn0.step)⟩
 ·
  rw [if_neg c3] at H
  have c3b0 : ((l0.length : Int) == (l1.length : Int)) = false := beq_eq_false_iff_ne.mpr c3
  have c3b1 : ((l0.length : Int) != (l1.length : Int)) = true := bne_iff_ne.mpr c3
  have c3b2 : (l0.length == l1.length) = false := by first | simpa using c3 | (simp at c3 ⊢; omega)
  obtain rfl := Option.some.inj H
  go_enter Try.func43, Try.ntmps43
  go_wp2
  repeat (go_quiet (fail); try go_wp2)
  go_ret
  exact ⟨ry_, by repeat (first | exact Drawn0.refl _ | apply Drawn0.step)⟩
def laws_eqIntSSS.l0 : Nat → List (List (List Int)) → List (List (List Int)) → Int → Option (Bool)
 | 0, _, _, _ => none
 | k + 1, x0, x1, x5 => if x5 < (x0.length : Int) then (if 0 ≤ x5 then (if x5 < (x1.length : Int) then ((laws_eqIntSS.f k (rd_L3 x0 x5) (rd_L3 x1 x5)).bind fun t357 => (if t357 = true then (laws_eqIntSSS.l0 k x0 x1 (wrap64 (x5 + 1))) else (some false))) else (none)) else (none)) else (some true)
def laws_eqIntSSS.f (k : Nat) (l0 : List (List (List Int))) (l1 : List (List (List Int))) : Option (Bool) := if (l0.length : Int) = (l1.length : Int) then (laws_eqIntSSS.l0 k l0 l1 0) else (some false)
theorem laws_eqIntSSS.calls (k : Nat) (A0 : Option Addr) (c0 : Nat) (l0 : List (List (List Int))) (A1 : Option Addr) (c1 : Nat) (l1 : List (List (List Int))) (r : Bool) (w : World) (hr0 : Kd.C (Kd.slice 22 (Kd.slice 3 (Kd.int .i64))) w A0 l0.length l0) (hc0 : l0.length ≤ c0) (hr1 : Kd.C (Kd.slice 22 (Kd.slice 3 (Kd.int .i64))) w A1 l1.length l1) (hc1 : l1.length ≤ c1) (h : laws_eqIntSSS.f k l0 l1 = some r) :
  Calls Try.prog 16 #[.slice A0 l0.length c0, .slice A1 l1.length c1] w fun e w' => e = .returned (.bool r) ∧ Drawn0 w w' := by
 have HR0 := ak_ hr0
 have HC0 := ak_ hc0
 clear hr0 hc0
 have HR1 := ak_ hr1
 have HC1 := ak_ hc1
 clear hr1 hc1
 have H : (if (l0.length : Int) = (l1.length : Int) then (laws_eqIntSSS.l0 k l0 l1 0) else (some false)) = some r := h
 clear h
 by_cases c3 : (l0.length : Int) = (l1.length : Int)
 ·
  rw [if_pos c3] at H
  have c3b0 : ((l0.length : Int) == (l1.length : Int)) = true := beq_iff_eq.mpr c3
  have c3b1 : ((l0.length : Int) != (l1.length : Int)) = false := bne_eq_false_iff_eq.mpr c3
  have c3b2 : (l0.length == l1.length) = true := by first | simpa using c3 | (simp at c3 ⊢; omega)
  clear c3
  have H' := ak_ H
  clear H
  go_enter Try.func16, Try.ntmps16
  go_wp2
  repeat (go_quiet (fail); try go_wp2)
  go_loopg [5] k (fun kq v5 w' => ∃ (x5_1 : Int), v5 = .int .i64 x5_1 ∧ Aside0 (laws_eqIntSSS.l0 kq l0 l1 x5_1 = some r) ∧ Aside0 (kq ≤ k) ∧ Drawn0 w w')
  case atStart => exact ⟨(0), (ry_), H', ⟨Nat.le_refl _⟩, by repeat (first | exact Drawn0.refl _ | apply Drawn0.step)⟩
  case round =>
   clear H'
   try clear c1
   try clear p2
   try clear c3
   try clear c3b0
   try clear c3b1
   try clear c3b2
   obtain ⟨x5_1, rfl, HA, HK1, ⟨m1, rfl⟩⟩ := hrel
   cases gk with
   | zero => exact absurd HA.out (by simp [laws_eqIntSSS.l0])
   | succ k1 =>
    have H := HA.out
    clear HA
    simp only [laws_eqIntSSS.l0] at H
    by_cases c4 : x5_1 < (l0.length : Int)
    ·
     rw [if_pos c4] at H
     have c4b0 : decide (x5_1 < (l0.length : Int)) = true := decide_eq_true c4
     clear c4
     by_cases c5 : 0 ≤ x5_1
     ·
      rw [if_pos c5] at H
      have c5b0 : decide (0 ≤ x5_1) = true := decide_eq_true c5
      clear c5
      by_cases c6 : x5_1 < (l1.length : Int)
      ·
       rw [if_pos c6] at H
       have c6b0 : decide (x5_1 < (l1.length : Int)) = true := decide_eq_true c6
       clear c6
       replace H := Option.bind_eq_some_iff.mp H
       obtain ⟨t357, A70, H⟩ := H
       replace H : (if t357 = true then (laws_eqIntSSS.l0 k1 l0 l1 (wrap64 (x5_1 + 1))) else (some false)) = some r := H
       have A7 := ak_ A70
       clear A70
       by_cases c8 : t357 = true
       ·
        subst c8
        have H1 : (laws_eqIntSSS.l0 k1 l0 l1 (wrap64 (x5_1 + 1))) = some r := by rw [if_pos rfl] at H; exact H
        clear H
        have H := H1
        clear H1
        have H' := ak_ H
        clear H
        have p355 : 0 ≤ (x5_1 : Int) := odt_ (by assumption)
        have q355 : x5_1 < (l0.length : Int) := odt_ (by assumption)
        obtain ⟨ad355, A355_0, c355_0, e355, hx355_0, hl355_0, hi355_0⟩ := at_L3 HR0.out x5_1 p355 q355
        cases e355
        have HR355_0 := ak_ hi355_0
        have HC355_0 := ak_ hl355_0
        clear hi355_0 hl355_0
        replace p355 := eq_true p355
        replace q355 := eq_true q355
        have p356 : 0 ≤ (x5_1 : Int) := odt_ (by assumption)
        have q356 : x5_1 < (l1.length : Int) := odt_ (by assumption)
        obtain ⟨ad356, A356_0, c356_0, e356, hx356_0, hl356_0, hi356_0⟩ := at_L3 HR1.out x5_1 p356 q356
        cases e356
        have HR356_0 := ak_ hi356_0
        have HC356_0 := ak_ hl356_0
        clear hi356_0 hl356_0
        replace p356 := eq_true p356
        replace q356 := eq_true q356
        go_wp2_with (first | (go_at_call 43; (with_reducible refine (laws_eqIntSS.calls k1 _ _ (rd_L3 l0 x5_1) _ _ (rd_L3 l1 x5_1) true _ ?side1 ?side2 ?side3 ?side4 A7.out).mono ?_); (case side1 => repeat (first | exact HR355_0.out | (with_reducible refine Kd.C_alloc ?_ _) | (with_reducible refine Kd.C_drewN ?_ _) | (with_reducible refine Kd.C_drew ?_))); (case side2 => exact HC355_0.out); (case side3 => repeat (first | exact HR356_0.out | (with_reducible refine Kd.C_alloc ?_ _) | (with_reducible refine Kd.C_drewN ?_ _) | (with_reducible refine Kd.C_drew ?_))); (case side4 => exact HC356_0.out); rintro e w' ⟨rfl, ⟨nd, rfl⟩⟩; (try first | exact ⟨rfl, _, World.drewN_drewN _ _ _⟩ | exact ⟨rfl, _, Eq.trans (World.drewN_drewN _ _ _) (congrArg (World.drewN _) (Nat.add_assoc _ _ _))⟩)))
        repeat (go_quiet (first | (go_at_call 43; (with_reducible refine (laws_eqIntSS.calls k1 _ _ (rd_L3 l0 x5_1) _ _ (rd_L3 l1 x5_1) true _ ?side1 ?side2 ?side3 ?side4 A7.out).mono ?_); (case side1 => repeat (first | exact HR355_0.out | (with_reducible refine Kd.C_alloc ?_ _) | (with_reducible refine Kd.C_drewN ?_ _) | (with_reducible refine Kd.C_drew ?_))); (case side2 => exact HC355_0.out); (case side3 => repeat (first | exact HR356_0.out | (with_reducible refine Kd.C_alloc ?_ _) | (with_reducible refine Kd.C_drewN ?_ _) | (with_reducible refine Kd.C_drew ?_))); (case side4 => exact HC356_0.out); rintro e w' ⟨rfl, ⟨nd, rfl⟩⟩; (try first | exact ⟨rfl, _, World.drewN_drewN _ _ _⟩ | exact ⟨rfl, _, Eq.trans (World.drewN_drewN _ _ _) (congrArg (World.drewN _) (Nat.add_assoc _ _ _))⟩))); try go_wp2_with (first | (go_at_call 43; (with_reducible refine (laws_eqIntSS.calls k1 _ _ (rd_L3 l0 x5_1) _ _ (rd_L3 l1 x5_1) true _ ?side1 ?side2 ?side3 ?side4 A7.out).mono ?_); (case side1 => repeat (first | exact HR355_0.out | (with_reducible refine Kd.C_alloc ?_ _) | (with_reducible refine Kd.C_drewN ?_ _) | (with_reducible refine Kd.C_drew ?_))); (case side2 => exact HC355_0.out); (case side3 => repeat (first | exact HR356_0.out | (with_reducible refine Kd.C_alloc ?_ _) | (with_reducible refine Kd.C_drewN ?_ _) | (with_reducible refine Kd.C_drew ?_))); (case side4 => exact HC356_0.out); rintro e w' ⟨rfl, ⟨nd, rfl⟩⟩; (try first | exact ⟨rfl, _, World.drewN_drewN _ _ _⟩ | exact ⟨rfl, _, Eq.trans (World.drewN_drewN _ _ _) (congrArg (World.drewN _) (Nat.add_assoc _ _ _))⟩))))
        go_roundg k1
        case measure => have := HK1.out; omega
        case rel => exact ⟨(wrap64 (x5_1 + 1)), (ry_), H', ⟨by have := HK1.out; omega⟩, by repeat (first | exact Drawn0.refl _ | apply Drawn0.step)⟩
       ·
        replace c8 := Bool.eq_false_iff.mpr c8
        subst c8
        have H1 : (some false) = some r := by rw [if_neg (show ¬ (false = true) by decide)] at H; exact H
        clear H
        have H := H1
        clear H1
        obtain rfl := Option.some.inj H
        have p355 : 0 ≤ (x5_1 : Int) := odt_ (by assumption)
        have q355 : x5_1 < (l0.length : Int) := odt_ (by assumption)
        obtain ⟨ad355, A355_0, c355_0, e355, hx355_0, hl355_0, hi355_0⟩ := at_L3 HR0.out x5_1 p355 q355
        cases e355
        have HR355_0 := ak_ hi355_0
        have HC355_0 := ak_ hl355_0
        clear hi355_0 hl355_0
        replace p355 := eq_true p355
        replace q355 := eq_true q355
        have p356 : 0 ≤ (x5_1 : Int) := odt_ (by assumption)
        have q356 : x5_1 < (l1.length : Int) := odt_ (by assumption)
        obtain ⟨ad356, A356_0, c356_0, e356, hx356_0, hl356_0, hi356_0⟩ := at_L3 HR1.out x5_1 p356 q356
        cases e356
        have HR356_0 := ak_ hi356_0
        have HC356_0 := ak_ hl356_0
        clear hi356_0 hl356_0
        replace p356 := eq_true p356
        replace q356 := eq_true q356
        go_wp2_with (first | (go_at_call 43; (with_reducible refine (laws_eqIntSS.calls k1 _ _ (rd_L3 l0 x5_1) _ _ (rd_L3 l1 x5_1) false _ ?side1 ?side2 ?side3 ?side4 A7.out).mono ?_); (case side1 => repeat (first | exact HR355_0.out | (with_reducible refine Kd.C_alloc ?_ _) | (with_reducible refine Kd.C_drewN ?_ _) | (with_reducible refine Kd.C_drew ?_))); (case side2 => exact HC355_0.out); (case side3 => repeat (first | exact HR356_0.out | (with_reducible refine Kd.C_alloc ?_ _) | (with_reducible refine Kd.C_drewN ?_ _) | (with_reducible refine Kd.C_drew ?_))); (case side4 => exact HC356_0.out); rintro e w' ⟨rfl, ⟨nd, rfl⟩⟩; (try first | exact ⟨rfl, _, World.drewN_drewN _ _ _⟩ | exact ⟨rfl, _, Eq.trans (World.drewN_drewN _ _ _) (congrArg (World.drewN _) (Nat.add_assoc _ _ _))⟩)))
        repeat (go_quiet (first | (go_at_call 43; (with_reducible refine (laws_eqIntSS.calls k1 _ _ (rd_L3 l0 x5_1) _ _ (rd_L3 l1 x5_1) false _ ?side1 ?side2 ?side3 ?side4 A7.out).mono ?_); (case side1 => repeat (first | exact HR355_0.out | (with_reducible refine Kd.C_alloc ?_ _) | (with_reducible refine Kd.C_drewN ?_ _) | (with_reducible refine Kd.C_drew ?_))); (case side2 => exact HC355_0.out); (case side3 => repeat (first | exact HR356_0.out | (with_reducible refine Kd.C_alloc ?_ _) | (with_reducible refine Kd.C_drewN ?_ _) | (with_reducible refine Kd.C_drew ?_))); (case side4 => exact HC356_0.out); rintro e w' ⟨rfl, ⟨nd, rfl⟩⟩; (try first | exact ⟨rfl, _, World.drewN_drewN _ _ _⟩ | exact ⟨rfl, _, Eq.trans (World.drewN_drewN _ _ _) (congrArg (World.drewN _) (Nat.add_assoc _ _ _))⟩))); try go_wp2_with (first | (go_at_call 43; (with_reducible refine (laws_eqIntSS.calls k1 _ _ (rd_L3 l0 x5_1) _ _ (rd_L3 l1 x5_1) false _ ?side1 ?side2 ?side3 ?side4 A7.out).mono ?_); (case side1 => repeat (first | exact HR355_0.out | (with_reducible refine Kd.C_alloc ?_ _) | (with_reducible refine Kd.C_drewN ?_ _) | (with_reducible refine Kd.C_drew ?_))); (case side2 => exact HC355_0.out); (case side3 => repeat (first | exact HR356_0.out | (with_reducible refine Kd.C_alloc ?_ _) | (with_reducible refine Kd.C_drewN ?_ _) | (with_reducible refine Kd.C_drew ?_))); (case side4 => exact HC356_0.out); rintro e w' ⟨rfl, ⟨nd, rfl⟩⟩; (try first | exact ⟨rfl, _, World.drewN_drewN _ _ _⟩ | exact ⟨rfl, _, Eq.trans (World.drewN_drewN _ _ _) (congrArg (World.drewN _) (Nat.add_assoc _ _ _))⟩))))
        go_ret
        exact ⟨ry_, by repeat (first | exact Drawn0.refl _ | apply Drawn0.step)⟩
      ·
       rw [if_neg c6] at H
       exact absurd H (by simp)
     ·
      rw [if_neg c5] at H
      exact absurd H (by simp)
    ·
     rw [if_neg c4] at H
     have c4b0 : decide (x5_1 < (l0.length : Int)) = false := decide_eq_false c4
     clear c4
     obtain rfl := Option.some.inj H
     go_wp2
     repeat (go_quiet (fail); try go_wp2)
     go_ret
     exact ⟨ry_, by repeat (first | exact Drawn0.refl _ | apply Drawn0.step)⟩
 ·
  rw [if_neg c3] at H
  have c3b0 : ((l0.length : Int) == (l1.length : Int)) = false := beq_eq_false_iff_ne.mpr c3
  have c3b1 : ((l0.length : Int) != (l1.length : Int)) = true := bne_iff_ne.mpr c3
  have c3b2 : (l0.length == l1.length) = false := by first | simpa using c3 | (simp at c3 ⊢; omega)
  obtain rfl := Option.some.inj H
  go_enter Try.func16, Try.ntmps16
  go_wp2
  repeat (go_quiet (fail); try go_wp2)
  go_ret
  exact ⟨ry_, by repeat (first | exact Drawn0.refl _ | apply Drawn0.step)⟩
end Go.Proofs.Ytmdbhpbogbekmaa.QNt
