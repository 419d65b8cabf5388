/- Contracts of functions of the given program, walked. Conditions: those at each theorem. -/
import Derived.Test.YtmdbhpbogbekmaaQNtx0
import Derived.Test.YtmdbhpbogbekmaaQNtx10
import Derived.Test.YtmdbhpbogbekmaaQNtx12
import Derived.Test.YtmdbhpbogbekmaaQNtx15
namespace Go.Proofs.Ytmdbhpbogbekmaa.QNt
open Go.RowKit Go.Proofs.YtmdbhpbogbekmaaW.PrintWords Go.Proofs.YtmdbhpbogbekmaaW.PrintLast Go.Proofs.YtmdbhpbogbekmaaW.PrintMore
open List (setIfInBounds_toArray set_cons_zero set_cons_succ map_toArray map_cons map_nil)
attribute [local go_sem] max2_int min2_int max_two min_two max_three min_three max_four min_four
set_option linter.unusedVariables false
set_option maxHeartbeats 8000000
set_option maxRecDepth 100000
set_option linter.unusedSimpArgs false
structure REdge where
 f0 : Int
 f1 : Int
 A : Option Addr
 n : Nat
 c : Nat
def REdge.enc (r : REdge) : List Value := [.int .i64 r.f0, .int .i64 r.f1, .slice r.A r.n r.c]
def zRE : REdge := ⟨0, 0, none, 0, 0⟩
def kre : Kd REdge := Kd.iso (Kd.raw 3) REdge.enc
theorem kre_M (W : World) (base : Nat) (ok : Nat → Prop) (r : REdge) : kre.M W base ok r [.int .i64 r.f0, .int .i64 r.f1, .slice r.A r.n r.c] := ⟨rfl, rfl, by
 intro u hu
 simp only [List.mem_cons, List.not_mem_nil, or_false] at hu
 rcases hu with rfl | rfl | rfl <;> rfl⟩
theorem kre_get {W : World} {base g n cap : Nat} {ok : Nat → Prop} {res : List REdge} (h : kre.R 90 W base ok (.slice (some ⟨g, 0, none⟩) n cap) res) (i : Nat) (hi : i < res.length) :
  W.cell? ⟨g, i * 3, none⟩ = some (.int .i64 res[i].f0) ∧ W.cell? ⟨g, i * 3 + 1, none⟩ = some (.int .i64 res[i].f1) ∧ W.cell? ⟨g, i * 3 + 2, none⟩ = some (.slice res[i].A res[i].n res[i].c) := by
 obtain ⟨ad, c, e, -, hK, hcell⟩ := Kd.C_get (Kd.R_reads' h).2.2 zRE (i : Int) (by omega) (by omega)
 obtain rfl := Option.some.inj e
 rw [Int.toNat_natCast, List.getD_eq_getElem?_getD, List.getElem?_eq_getElem hi] at hK
 obtain rfl := hK.1
 have hsz : kre.sz = 3 := rfl
 refine ⟨?_, ?_, ?_⟩
 ·have h_ := hcell 0 _ rfl
  rw [add_at, hsz, Nat.zero_add, Nat.add_zero, Int.toNat_natCast] at h_; exact h_
 ·have h_ := hcell 1 _ rfl
  rw [add_at, hsz, Nat.zero_add, Int.toNat_natCast] at h_; exact h_
 ·have h_ := hcell 2 _ rfl
  rw [add_at, hsz, Nat.zero_add, Int.toNat_natCast] at h_; exact h_
theorem kre_cc {W : World} {base g n cap : Nat} {ok : Nat → Prop} {res : List REdge} (h : kre.R 90 W base ok (.slice (some ⟨g, 0, none⟩) n cap) res) (i : Nat) (hi : i < res.length) :
  ∃ o : REdge, ∀ j u, ([.int .i64 o.f0, .int .i64 o.f1, .slice o.A o.n o.c] : List Value)[j]? = some u → W.cell? ⟨g, (i : Int).toNat * kre.sz + j, none⟩ = some u := by
 obtain ⟨h0, h1, h2⟩ := kre_get h i hi
 refine ⟨res[i], fun j u hu => ?_⟩
 have e : (i : Int).toNat * kre.sz = i * 3 := rfl
 rw [e]
 rcases j with _ | _ | _ | j
 ·obtain rfl := Option.some.inj hu; exact h0
 ·obtain rfl := Option.some.inj hu; exact h1
 ·obtain rfl := Option.some.inj hu; exact h2
 ·simp at hu
theorem gr_below {w W w' : World} {row : Option Nat} (h : w.grownBy W row) (hb : Below W.heap.size W w') : w.grownBy w' row :=
 ⟨hb.os.trans h.os, hb.tape.trans h.tape, hb.output.trans h.output, Nat.le_trans h.size hb.size, fun k hk hn => (hb.block k (Nat.lt_of_lt_of_le hk h.size)).trans (h.block k hk hn)⟩
theorem gr_gr {w W w' : World} {row : Option Nat} (h : w.grownBy W row) (hb : W.grownBy w' row) : w.grownBy w' row :=
 ⟨hb.os.trans h.os, hb.tape.trans h.tape, hb.output.trans h.output, Nat.le_trans h.size hb.size, fun k hk hn => (hb.block k (Nat.lt_of_lt_of_le hk h.size) hn).trans (h.block k hk hn)⟩
def leadR (W : World) (base : Nat) (okl : Nat → Prop) (f : Nat → Nat) (z : S90 × Nat) (r : REdge) : Prop := r.f0 = z.1.f0 ∧ r.f1 = z.1.f1 ∧ (Kd.slice 3 (Kd.int .i64)).R 22 W base (fun k => okl k ∧ f k = z.2) (.slice r.A r.n r.c) z.1.f2
def LeadT (W : World) (base : Nat) (okl : Nat → Prop) (f : Nat → Nat) : List (S90 × Nat) → List REdge → Prop
 | [], [] => True
 | z :: zs, r :: rs => leadR W base okl f z r ∧ LeadT W base okl f zs rs
 | _, _ => False
section
variable {W W' : World} {base : Nat} {okl : Nat → Prop} {f : Nat → Nat}
theorem LeadT.len : ∀ {zs : List (S90 × Nat)} {rs : List REdge}, LeadT W base okl f zs rs → zs.length = rs.length
 | [], [], _ => rfl
 | _ :: _, _ :: _, h => congrArg (· + 1) (LeadT.len h.2)
 | [], _ :: _, h => h.elim
 | _ :: _, [], h => h.elim
theorem LeadT.at_ : ∀ {zs : List (S90 × Nat)} {rs : List REdge}, LeadT W base okl f zs rs → ∀ (j : Nat) (z : S90 × Nat) (r : REdge), zs[j]? = some z → rs[j]? = some r → leadR W base okl f z r
 | [], _, _, _, _, _, h, _ => by simp at h
 | _ :: _, [], h, _, _, _, _, _ => h.elim
 | _ :: _, _ :: _, h, 0, z, r, hz, hr => by obtain rfl := Option.some.inj hz; obtain rfl := Option.some.inj hr; exact h.1
 | _ :: _, _ :: _, h, j + 1, z, r, hz, hr => LeadT.at_ h.2 j z r hz hr
theorem LeadT.of : ∀ {zs : List (S90 × Nat)} {rs : List REdge}, zs.length = rs.length → (∀ (j : Nat) (z : S90 × Nat) (r : REdge), zs[j]? = some z → rs[j]? = some r → leadR W base okl f z r) → LeadT W base okl f zs rs
 | [], [], _, _ => trivial
 | _ :: _, _ :: _, hl, h => ⟨h 0 _ _ rfl rfl, LeadT.of (Nat.succ.inj hl) (fun j z r hz hr => h (j + 1) z r hz hr)⟩
 | [], _ :: _, hl, _ => by simp at hl
 | _ :: _, [], hl, _ => by simp at hl
theorem LeadT.move (hm : ∀ k, okl k → k < W.heap.size → W'.heap[k]? = W.heap[k]?) : ∀ {zs : List (S90 × Nat)} {rs : List REdge}, LeadT W base okl f zs rs → LeadT W' base okl f zs rs
 | [], [], _ => trivial
 | _ :: _, _ :: _, h => ⟨⟨h.1.1, h.1.2.1, Kd.R_step h.1.2.2 (fun k hk hl => hm k hk.1 hl)⟩, LeadT.move hm h.2⟩
 | [], _ :: _, h => h.elim
 | _ :: _, [], h => h.elim
theorem LeadT.filter (q : Int → Int → Bool) : ∀ {zs : List (S90 × Nat)} {rs : List REdge}, LeadT W base okl f zs rs → LeadT W base okl f (zs.filter fun z => q z.1.f0 z.1.f1) (rs.filter fun r => q r.f0 r.f1)
 | [], [], _ => trivial
 | z :: zs, r :: rs, h => by
  have ih := LeadT.filter q h.2
  rw [List.filter_cons, List.filter_cons, h.1.1, h.1.2.1]
  split
  ·exact ⟨h.1, ih⟩
  ·exact ih
 | [], _ :: _, h => h.elim
 | _ :: _, [], h => h.elim
theorem LeadT.all {p : Int → Int → Prop} : ∀ {zs : List (S90 × Nat)} {rs : List REdge}, LeadT W base okl f zs rs → (∀ z ∈ zs, p z.1.f0 z.1.f1) → ∀ r ∈ rs, p r.f0 r.f1
 | [], [], _, _ => by simp
 | z :: zs, r :: rs, h, hp => by
  intro r' hr
  rcases List.mem_cons.1 hr with rfl | hr
  ·rw [h.1.1, h.1.2.1]; exact hp z List.mem_cons_self
  ·exact LeadT.all h.2 (fun z hz => hp z (List.mem_cons_of_mem _ hz)) r' hr
 | [], _ :: _, h, _ => h.elim
 | _ :: _, [], h, _ => h.elim
end
theorem lead_list {α : Type} {p : Nat → α → Prop} : ∀ (n : Nat), (∀ i, i < n → ∃ x, p i x) → ∃ l : List α, l.length = n ∧ ∀ i x, l[i]? = some x → p i x
 | 0, _ => ⟨[], rfl, fun i x hx => by simp at hx⟩
 | n + 1, h => by
  obtain ⟨l, hl, hp⟩ := lead_list n (fun i hi => h i (Nat.lt_succ_of_lt hi))
  obtain ⟨x, hx⟩ := h n (Nat.lt_succ_self n)
  refine ⟨l ++ [x], by rw [List.length_append, hl]; rfl, fun i y hy => ?_⟩
  rcases Nat.lt_or_ge i l.length with hi | hi
  ·rw [List.getElem?_append_left hi] at hy
   exact hp i y hy
  ·have hi' := (List.getElem?_eq_some_iff.1 hy).1
   rw [List.length_append, List.length_singleton] at hi'
   have e : i = l.length := by omega
   subst e
   rw [List.getElem?_append_right (Nat.le_refl _), Nat.sub_self] at hy
   obtain rfl : x = y := by simpa using hy
   rw [hl]; exact hx
theorem lead_open {W : World} {base : Nat} {ok : Nat → Prop} {v : Value} {es : List S90} (h : Kd.S k90 90 W base ok v es) :
  ∃ f res, kre.R 90 W base (fun k => some k = v.ownBlock) v res ∧ LeadT W base (fun k => ok k ∧ some k ≠ v.ownBlock) f es.zipIdx res := by
 obtain ⟨f, hown, inner, ho, hl, hr⟩ := h
 obtain ⟨res, hres, hp⟩ := lead_list (p := fun i (r : REdge) => ∃ z, es.zipIdx[i]? = some z ∧ (inner.drop (i * 3)).take 3 = r.enc ∧ leadR W base (fun k => ok k ∧ some k ≠ v.ownBlock) f z r) es.zipIdx.length (fun i hi => by
  obtain ⟨z, hz⟩ : ∃ z, es.zipIdx[i]? = some z := ⟨_, List.getElem?_eq_getElem hi⟩
  have hM := hr i z hz
  obtain ⟨v2, hc, hR⟩ := k90_openM (show k90.M W base (fun k => (ok k ∧ some k ≠ v.ownBlock) ∧ f k = z.2) z.1 ((inner.drop (i * 3)).take 3) from hM)
  obtain ⟨A, c, rfl⟩ := Kd.R_slice hR
  exact ⟨⟨z.1.f0, z.1.f1, A, z.1.f2.length, c⟩, z, hz, hc, rfl, rfl, hR⟩)
 refine ⟨f, res, ⟨fun k hk => hk.symm, inner, by rw [hres]; exact ho, ?_, fun j r hj => ?_⟩, LeadT.of hres.symm (fun j z r hz hr => ?_)⟩
 ·rw [hres]; exact hl
 ·obtain ⟨z, hz, hc, -⟩ := hp j r hj
  have hc' : (inner.drop (j * kre.sz)).take kre.sz = r.enc := hc
  rw [hc']
  exact kre_M _ _ _ r
 ·obtain ⟨z', hz', -, hL⟩ := hp j r hr
  rw [hz] at hz'
  obtain rfl := Option.some.inj hz'
  exact hL
theorem lead_shut {W : World} {base : Nat} {okr okl : Nat → Prop} {f : Nat → Nat} {v : Value} {zs : List (S90 × Nat)} {res : List REdge} (hR : kre.R 90 W base okr v res) (hL : LeadT W base okl f zs res) (hnd : (zs.map (·.2)).Nodup) (hne : ∀ k, okl k → some k ≠ v.ownBlock) :
  Kd.S k90 90 W base (fun _ => True) v (zs.map (·.1)) := by
 obtain ⟨hown, inner, ho, hl, hr⟩ := hR
 have hlen := hL.len
 refine ⟨fun k => (zs.map (·.2)).idxOf (f k), fun _ _ => trivial, inner, by rw [List.length_zipIdx, List.length_map, hlen]; exact ho, by rw [List.length_zipIdx, List.length_map, hlen]; exact hl, fun j z hz => ?_⟩
 rw [List.getElem?_zipIdx, Nat.zero_add] at hz
 obtain ⟨x, hx, rfl⟩ := Option.map_eq_some_iff.1 hz
 rw [List.getElem?_map] at hx
 obtain ⟨z0, hz0, rfl⟩ := Option.map_eq_some_iff.1 hx
 have hj : j < zs.length := (List.getElem?_eq_some_iff.1 hz0).1
 obtain ⟨r, hr0⟩ : ∃ r, res[j]? = some r := ⟨_, List.getElem?_eq_getElem (by rw [← hlen]; exact hj)⟩
 have hc := (hr j r hr0).1
 obtain ⟨e0, e1, hR2⟩ := hL.at_ j z0 r hz0 hr0
 have hM := k90_mkM W base (fun k => okl k ∧ f k = z0.2) z0.1 hR2
 show k90.M W base (fun k => (True ∧ some k ≠ v.ownBlock) ∧ (zs.map (·.2)).idxOf (f k) = j) z0.1 ((inner.drop (j * 3)).take 3)
 have hc' : (inner.drop (j * 3)).take 3 = [.int .i64 z0.1.f0, .int .i64 z0.1.f1, .slice r.A r.n r.c] := by rw [← e0, ← e1]; exact hc
 rw [hc']
 refine Kd.M_mono _ (fun k hk => ⟨⟨trivial, hne k hk.1⟩, ?_⟩) hM
 rw [hk.2]
 have hjm : j < (zs.map (·.2)).length := by rw [List.length_map]; exact hj
 have e2 : z0.2 = (zs.map (·.2))[j] := by rw [List.getElem_map]; congr 1; rw [List.getElem?_eq_getElem hj] at hz0; exact (Option.some.inj hz0).symm
 rw [e2]
 exact hnd.idxOf_getElem j hjm
theorem ls_lead {α : Type} {d : Kd α} {eI e g n cap base : Nat} {ok : Nat → Prop} {W : World} {ls : List (List α)} {cl : Array Value} (h : Kd.S (Kd.slice eI d) e W base ok (.slice (some ⟨g, 0, none⟩) n cap) ls) (hb : W.heap[g]? = some (.cells cl e (0, 0))) :
  ∃ f : Nat → Nat, ∀ (j : Nat) (l : List α), ls[j]? = some l → ∃ u : Value, cl[j]? = some u ∧ d.R eI W base (fun k => (ok k ∧ k ≠ g) ∧ f k = j) u l := by
 obtain ⟨f, hown, inner, ho, hl, hr⟩ := h
 refine ⟨f, fun j l hj => ?_⟩
 obtain ⟨v, hc, hR⟩ := hr j (l, j) (Kd.zip_at hj)
 rcases ho.2 with ⟨hv, _⟩ | ⟨g', cap', cur, hv, -, hh, -, -, -, ht⟩
 ·cases hv
 cases hv
 rw [hb] at hh
 injection hh with hh
 injection hh with hh _
 subst hh
 have hjl := (List.getElem?_eq_some_iff.1 hj).1
 have hsz : (Kd.tag f (Kd.slice eI d)).sz = 1 := rfl
 rw [hsz] at hc ht
 refine ⟨v, ?_, Kd.R_mono hR (fun k hk => ⟨⟨hk.1.1, fun e_ => hk.1.2 (by rw [e_]; rfl)⟩, hk.2⟩)⟩
 have h2 : inner[j]? = some v := by
  have h3 := congrArg (fun l : List Value => l[0]?) hc
  simp only [List.getElem?_take, List.getElem?_drop, Nat.mul_one, Nat.add_zero] at h3
  simpa using h3
 rw [← ht, List.getElem?_take] at h2
 split at h2
 ·rw [Array.getElem?_toList] at h2
  exact h2
 ·exact absurd h2 (by simp)
def edRel (cl : Array Value) (ls : List (List (List Int))) (acc : List S90) (res : List REdge) : Prop := acc.length = res.length ∧ ∀ (i : Nat) (a : S90) (r : REdge), acc[i]? = some a → res[i]? = some r → r.f0 = a.f0 ∧ r.f1 = a.f1 ∧ ls[i]? = some a.f2 ∧ cl[i]? = some (.slice r.A r.n r.c)
theorem edRel.snoc {cl : Array Value} {ls : List (List (List Int))} {acc : List S90} {res : List REdge} (h : edRel cl ls acc res) {j : Nat} (hj : acc.length = j) {q c : Int} {l : (List (List Int))} {A : Option Addr} {n cc : Nat} (hl : ls[j]? = some l) (hc : cl[j]? = some (.slice A n cc)) : edRel cl ls (acc ++ [⟨q, c, l⟩]) (res ++ [⟨q, c, A, n, cc⟩]) := by
 refine ⟨by rw [List.length_append, List.length_append, h.1]; rfl, fun i a r ha hr => ?_⟩
 rcases Nat.lt_or_ge i acc.length with hi | hi
 ·rw [List.getElem?_append_left hi] at ha
  rw [List.getElem?_append_left (by rw [← h.1]; exact hi)] at hr
  exact h.2 i a r ha hr
 ·have hi' := (List.getElem?_eq_some_iff.1 ha).1
  rw [List.length_append, List.length_singleton] at hi'
  have e : i = acc.length := by omega
  subst e
  rw [List.getElem?_append_right (Nat.le_refl _), Nat.sub_self] at ha
  rw [h.1, List.getElem?_append_right (Nat.le_refl _), Nat.sub_self] at hr
  obtain rfl := Option.some.inj ha
  obtain rfl := Option.some.inj hr
  rw [hj]
  exact ⟨rfl, rfl, hl, hc⟩
theorem edRel.shut {W : World} {base g n cap : Nat} {ok okr : Nat → Prop} {ls : List (List (List Int))} {cl : Array Value} {v : Value} {es : List S90} {res : List REdge} (h : edRel cl ls es res) (hls : Kd.S (Kd.slice 22 (Kd.slice 3 (Kd.int .i64))) 57 W base ok (.slice (some ⟨g, 0, none⟩) n cap) ls) (hb : W.heap[g]? = some (.cells cl 57 (0, 0)))
  (hR : kre.R 90 W base okr v res) (hne : 90 ∉ 22 :: (Kd.slice 3 (Kd.int .i64)).E) : Kd.S k90 90 W base (fun _ => True) v es := by
 obtain ⟨f, hf⟩ := ls_lead hls hb
 have hL : LeadT W base (fun k => some k ≠ v.ownBlock) f es.zipIdx res := LeadT.of (by rw [List.length_zipIdx]; exact h.1) (fun j z r hz hr => by
  rw [List.getElem?_zipIdx, Nat.zero_add] at hz
  obtain ⟨a, ha, rfl⟩ := Option.map_eq_some_iff.1 hz
  obtain ⟨e0, e1, hl, hc⟩ := h.2 j a r ha hr
  obtain ⟨u, hu, hR2⟩ := hf j a.f2 hl
  rw [hc] at hu
  obtain rfl := Option.some.inj hu
  refine ⟨e0, e1, Kd.R_mono (Kd.R_bound hR2) (fun k hk => ⟨fun e_ => ?_, hk.1.2⟩)⟩
  obtain ⟨_, _, _, q, hq, cells, hcq⟩ := hk
  obtain ⟨cells2, hc2⟩ := Kd.R_typed hR k e_.symm
  rw [hcq] at hc2
  injection hc2 with hc2
  injection hc2 with _ hc2
  exact hne (hc2 ▸ hq))
 have h2 := lead_shut hR hL (by rw [List.zipIdx_map_snd]; exact List.nodup_range') (fun k hk => hk)
 rw [List.zipIdx_map_fst] at h2
 exact h2
theorem fr_lendG {α : Type} {d : Kd α} {e e' g base n cap : Nat} {ok : Nat → Prop} {W : World} {xs : List (List α)} (h : Kd.S (Kd.slice e d) e' W base ok (.slice (some ⟨g, 0, none⟩) n cap) xs) (i : Int) (h0 : 0 ≤ i) (h1 : i < n) :
  ∃ (v : Value) (oki : Nat → Prop), W.cell? ⟨g, i.toNat, none⟩ = some v ∧ d.R e W base oki v (xs.getD i.toNat []) := by
 obtain ⟨oki, c, -, hM, hcc, -, -, -⟩ := Kd.S_elem h [] i h0 h1
 obtain ⟨v, rfl, hR⟩ := hM
 have h2 := hcc 0 v rfl
 rw [show (Kd.slice e d).sz = 1 from rfl, Nat.mul_one, Nat.add_zero] at h2
 exact ⟨v, oki, h2, hR⟩
def nightC (k : Nat) (ts : List Int) (se tq : Int) (tm : Bool) (r : List (List Int)) : Option Int := if tm = true then impl_Night_roundTime.f k ts se tq r else some 1
def nightEd (k : Nat) (ts : List Int) (se tq : Int) (tm : Bool) (ov : List Bool) (t : Int) : List (List (List Int)) → List S90 → Option (List S90)
 | [], acc => some acc
 | l :: ls, acc => (nightC k ts se tq tm l).bind fun c => (impl_Camp_after.f k ov t l).bind fun st => (impl_Camp_code.f k st.1 st.2).bind fun q => if acc.length < 1000000 then nightEd k ts se tq tm ov t ls (acc ++ [⟨q, c, l⟩]) else none
def nightG (k : Nat) (ts : List Int) (se tq : Int) (tm : Bool) (s : Int) : Option (List S90) :=
 (impl_Night_camp.f k ts se tq s).bind fun st => (impl_Night_rounds.f k ts se tq st.1 st.2).bind fun ls => if ls.length < 1000000 then nightEd k ts se tq tm st.1 st.2 ls [] else none
theorem impl_Night_graph.calls_1 (k : Nat) (Bc Bl : Nat) (At : Option Addr) (ct : Nat) (ts : List Int) (se tq : Int) (tm : Bool) (s : Int) (es : List S90) (w : World)
  (hBc : w.heap[Bc]? = some (.cells #[.slice At ts.length ct, .int .i64 se, .int .i64 tq] 33 (0, 0))) (hBl : w.heap[Bl]? = some (.cells #[.bool tm] 4 (0, 0)))
  (ht : Kd.C (Kd.int .i64) w At ts.length ts) (hct : ts.length ≤ ct) (h : nightG k ts se tq tm s = some es) :
  Calls Try.prog 76 #[.int .i64 s, .pointer (some ⟨Bc, 0, none⟩), .pointer (some ⟨Bl, 0, none⟩)] w fun e w' => ∃ v : Value, e = .returned v ∧ Kd.S k90 90 w' w.heap.size (fun _ => True) v es ∧ Below w.heap.size w w' := by
 have hu := Try.underlying33
 have hu2 := Try.underlying90
 have hu3 := Try.underlying35
 unfold nightG at h
 obtain ⟨⟨ov, t⟩, h1, h⟩ := Option.bind_eq_some_iff.mp h
 obtain ⟨ls, h2, h⟩ := Option.bind_eq_some_iff.mp h
 by_cases hls : ls.length < 1000000
 rotate_left
 ·rw [if_neg hls] at h; exact absurd h (by simp)
 rw [if_pos hls] at h
 have A1 := ak_ fun (W : World) (hb : Below w.heap.size w W) => impl_Night_camp.calls k At ct ts se tq s ov t W (Kd.C_below ht hb) hct h1
 have A2 := ak_ fun (W : World) (hb : Below w.heap.size w W) (Ao : Option Addr) (co : Nat) (ho : Kd.C Kd.bool W Ao ov.length ov) (hco : ov.length ≤ co) => impl_Night_rounds.calls k At ct ts se tq Ao co ov t ls W (Kd.C_below ht hb) hct ho hco h2
 have HT := ak_ ht
 have HCT := ak_ hct
 have HLS := ak_ hls
 have H := ak_ h
 have HB := ak_ (Below.refl w.heap.size w)
 have hl0 := blk_cell hBl 0
 have hc0 := blk_cell hBc 0
 have hc1 := blk_cell hBc 1
 have hc2 := blk_cell hBc 2
 simp at hl0
 simp at hc0
 simp at hc1
 simp at hc2
 have BC := ak_ hBc
 have BL := ak_ hBl
 clear h h1 h2 hls ht hct hBc hBl
 go_enter Try.func76, Try.ntmps76
 go_upto_region 2 with (first | (go_at_call 77; refine (A1.out _ (bb_ HB.out)).mono ?_; rintro e w13 ⟨v13, rfl, ho, hb⟩; obtain ⟨Ao, co, rfl⟩ := Kd.R_slice ho; have OV := ak_ (Kd.R_lower ho (bz_ (bb_ HB.out))); clear hl0 hc0 hc1 hc2; replace BC := ak_ (blk_below (pk BC.out) hb); replace BL := ak_ (blk_below (pk BL.out) hb); replace HB := ak_ (bs_ (bb_ HB.out) hb); clear hb ho A1))
 have hkr := Kd.R_alloc (Kd.S_R (gp_lit0 kre 90 w13 (bz_ HB.out))) (.cells #[.slice Ao ov.length co, .int .i64 t] 35)
 have hk6 := gp_new2 w13 (.cells #[] 90) (.cells #[.slice Ao ov.length co, .int .i64 t] 35)
 have hb5 := (ba_ (ba_ (Below.refl w13.heap.size w13) (.cells #[] 90)) (.cells #[.slice Ao ov.length co, .int .i64 t] 35))
 generalize (w13.alloc (.cells #[] 90)).alloc (.cells #[.slice Ao ov.length co, .int .i64 t] 35) = w5 at hkr hk6 hb5 ⊢
 generalize Value.slice (some ⟨w13.heap.size, 0, none⟩) 0 0 = v5 at hkr ⊢
 generalize w13.heap.size + 1 = gb6 at hk6 ⊢
 replace BC := ak_ (blk_below BC.out hb5); replace BL := ak_ (blk_below BL.out hb5); replace HB := ak_ (bs_ HB.out hb5); replace OV := ak_ (Kd.R_below OV.out hb5); clear hb5
 have HR := ak_ hkr
 have BK6 := ak_ hk6
 have hq0 := blk_cell BC.out 0
 have hq1 := blk_cell BC.out 1
 have hq2 := blk_cell BC.out 2
 have hq3 := blk_cell BK6.out 0
 have hq4 := blk_cell BK6.out 1
 simp at hq0
 simp at hq1
 simp at hq2
 simp at hq3
 simp at hq4
 clear hkr hk6
 go_wp2_with (first | (go_at_call 42; refine (A2.out _ (bb_ HB.out) Ao co (Kd.R_reads' OV.out).2.2 (Kd.R_reads' OV.out).2.1).mono ?_; rintro e w17 ⟨v17, rfl, ho, hb⟩; obtain ⟨Al, cl_, rfl⟩ := Kd.S_slice ho; have HLR := ak_ (Kd.S_lower (sep_S ho) (bz_ (bb_ HB.out))); clear hq0 hq1 hq2 hq3 hq4; replace BC := ak_ (blk_below (pk BC.out) hb); replace BL := ak_ (blk_below (pk BL.out) hb); replace BK6 := ak_ (blk_below (pk BK6.out) hb); replace HB := ak_ (bs_ (bb_ HB.out) hb); replace OV := ak_ (Kd.R_below (Kd.pR OV.out) hb); replace HR := ak_ (Kd.R_below (Kd.pR HR.out) hb); clear hb ho))
 obtain ⟨gl, cl, hAl⟩ : ∃ (gl : Nat) (cl : Array Value), ls.length = 0 ∨ (Al = some ⟨gl, 0, none⟩ ∧ w17.heap[gl]? = some (.cells cl 57 (0, 0))) := by
  rcases Nat.eq_zero_or_pos ls.length with h0 | h0
  ·exact ⟨0, #[], .inl h0⟩
  ·obtain ⟨g, cap, e, -, -, cl, hc⟩ := Kd.S_form HLR.out h0
   injection e with e1 _ e3
   exact ⟨g, cl, .inr ⟨e1, hc⟩⟩
 have HAL := ak_ hAl
 have HER := ak_ (show edRel cl ls [] [] from ⟨rfl, fun i a r h _ => by simp at h⟩)
 clear hAl
 go_loopg [6, 18] ls.length (fun gg v6 v18 wr => ∃ (j : Nat) (acc : List S90) (res : List REdge), v18 = .int .i64 (j : Int) ∧ Aside0 (j ≤ ls.length ∧ ls.length - j ≤ gg ∧ acc.length = j) ∧ Aside0 (nightEd k ts se tq tm ov t (ls.drop j) acc = some es) ∧ Aside0 (edRel cl ls acc res) ∧ Aside0 (kre.R 90 wr w.heap.size (fun _ => True) v6 res) ∧ Aside0 (Kd.S (Kd.slice 22 (Kd.slice 3 (Kd.int .i64))) 57 wr w.heap.size (fun _ => True) (.slice Al ls.length cl_) ls) ∧ Aside0 (ls.length = 0 ∨ (Al = some ⟨gl, 0, none⟩ ∧ wr.heap[gl]? = some (.cells cl 57 (0, 0)))) ∧ Aside0 (wr.heap[gb6]? = some (.cells #[.slice Ao ov.length co, .int .i64 t] 35 (0, 0))) ∧ Aside0 (Kd.R Kd.bool 4 wr w.heap.size (fun _ => True) (.slice Ao ov.length co) ov) ∧ Aside0 (wr.heap[Bl]? = some (.cells #[.bool tm] 4 (0, 0))) ∧ Aside0 (wr.heap[Bc]? = some (.cells #[.slice At ts.length ct, .int .i64 se, .int .i64 tq] 33 (0, 0))) ∧ Aside0 (Below w.heap.size w wr))
 case atStart => exact ⟨0, [], [], rfl, ⟨⟨Nat.zero_le _, Nat.le_refl _, rfl⟩⟩, H, HER, ⟨Kd.pR HR.out⟩, ⟨Kd.pS HLR.out⟩, HAL, ⟨pk BK6.out⟩, ⟨Kd.pR OV.out⟩, ⟨pk BL.out⟩, ⟨pk BC.out⟩, ⟨(bb_ HB.out)⟩⟩
 case round =>
  clear H HER HR HLR HAL BK6 OV BL HB BC
  obtain ⟨j, acc, res, rfl, HJ, H, HER, HR, HLR, HAL, BK6, OV, BL, BC, HB⟩ := hrel
  by_cases hj : j < ls.length
  ·have j1 : decide ((j : Int) < (ls.length : Int)) = true := decide_eq_true (by omega)
   have j1n : decide (j < ls.length) = true := decide_eq_true hj
   have j0p : ((0 : Int) ≤ (j : Int)) = True := eq_true (by omega)
   have j1p : ((j : Int) < (ls.length : Int)) = True := eq_true (by omega)
   rcases HAL.out with h0 | ⟨rfl, hbl⟩
   ·exact absurd h0 (by omega)
   obtain ⟨vi, oki, hcell, hRi⟩ := fr_lendG HLR.out (j : Int) (by omega) (by omega)
   rw [Int.toNat_natCast] at hcell hRi
   obtain ⟨Aj, cj, rfl⟩ := Kd.R_slice hRi
   have hcl : cl[j]? = some (.slice Aj (ls.getD j []).length cj) := by rw [← blk_cell hbl]; exact hcell
   obtain ⟨l, hl⟩ : ∃ l, l = ls.getD j [] := ⟨_, rfl⟩
   rw [← hl] at hcell hRi hcl
   have hlj : ls[j]? = some l := by rw [hl, List.getD_eq_getElem?_getD, List.getElem?_eq_getElem hj]; rfl
   have h := H.out
   rw [List.drop_eq_getElem_cons hj, show ls[j] = l from by rw [List.getElem?_eq_getElem hj] at hlj; exact Option.some.inj hlj] at h
   simp only [nightEd] at h
   obtain ⟨c, h5, h⟩ := Option.bind_eq_some_iff.mp h
   obtain ⟨⟨mo, mt⟩, h3, h⟩ := Option.bind_eq_some_iff.mp h
   obtain ⟨q, h4, h⟩ := Option.bind_eq_some_iff.mp h
   by_cases hac : acc.length < 1000000
   rotate_left
   ·rw [if_neg hac] at h; exact absurd h (by simp)
   rw [if_pos hac] at h
   have A3 := ak_ fun (W : World) (hb : Below wr.heap.size wr W) => impl_Camp_after.calls k Ao co ov t Aj cj l mo mt W (Kd.C_below (Kd.R_reads' OV.out).2.2 hb) (Kd.R_reads' OV.out).2.1 (Kd.C_below (Kd.R_reads' hRi).2.2 hb) (Kd.R_reads' hRi).2.1 h3
   have A4 := ak_ fun (W : World) (Am : Option Addr) (cm : Nat) (hm : Kd.C Kd.bool W Am mo.length mo) (hcm : mo.length ≤ cm) => impl_Camp_code.calls k Am cm mo mt q W hm hcm h4
   have HBR := ak_ (Below.refl wr.heap.size wr)
   have HER2 := ak_ (HER.out.snoc HJ.out.2.2 (q := q) (c := c) hlj hcl)
   have H2 := ak_ h
   have HACC := ak_ (And.intro hac HER.out.1)
   have BLS := ak_ hbl
   have HJJ := ak_ hj
   have hw19 : IntKind.i64.wrap ((j : Int) + 1) = ((j + 1 : Nat) : Int) := by have := HLS.out; rw [IntWalk.i64_in _ ⟨by omega, by omega⟩]; omega
   have hz0 := blk_cell BK6.out 0
   have hz1 := blk_cell BK6.out 1
   have hz2 := blk_cell BL.out 0
   simp at hz0
   simp at hz1
   simp at hz2
   have A5 := ak_ fun (hq : tm = true) (W : World) (hb : Below w.heap.size w W) (hb2 : Below wr.heap.size wr W) => impl_Night_roundTime.calls k At ct ts se tq Aj cj l c W (Kd.C_below HT.out hb) HCT.out (Kd.C_below (Kd.R_reads' hRi).2.2 hb2) (Kd.R_reads' hRi).2.1 (by unfold nightC at h5; rw [if_pos hq] at h5; exact h5)
   have HC1 := ak_ (show tm = false → c = 1 from fun hq => by unfold nightC at h5; rw [hq, if_neg (by decide)] at h5; exact (Option.some.inj h5).symm)
   have hn0 := blk_cell BC.out 0
   have hn1 := blk_cell BC.out 1
   have hn2 := blk_cell BC.out 2
   simp at hn0
   simp at hn1
   simp at hn2
   clear h h3 h4 h5 H hl hlj hcl hRi hbl hac HER HAL hj
   cases tm with
   | false =>
    obtain rfl : c = 1 := HC1.out rfl
    clear A5 HC1
    go_upto_region 8 with (fail)
    go_wp2_with (first | (go_at_call 79; refine (A3.out _ (by repeat (first | (with_reducible first | exact HBR.out | apply ba_ | apply bN_ | apply b1_) | exact HBR.out))).mono ?_; rintro e w30 ⟨v30, rfl, ho, hb⟩; obtain ⟨Am, cm, rfl⟩ := Kd.R_slice ho; have OM := ak_ ho; clear A3; replace BK6 := ak_ (blk_below BK6.out hb); replace BL := ak_ (blk_below BL.out hb); replace BLS := ak_ (blk_below BLS.out hb); replace BC := ak_ (blk_below BC.out hb); replace HR := ak_ (Kd.R_below (Kd.pR HR.out) hb); replace HLR := ak_ (Kd.S_below (Kd.pS HLR.out) hb); replace OV := ak_ (Kd.R_below (Kd.pR OV.out) hb); replace HB := ak_ (bs_ (bb_ HB.out) hb); clear hb ho HBR) | (go_at_call 60; refine (A4.out _ Am cm (Kd.R_reads' OM.out).2.2 (Kd.R_reads' OM.out).2.1).mono ?_; rintro e w31 ⟨rfl, hb⟩; clear A4 OM; replace BK6 := ak_ (blk_below BK6.out hb); replace BL := ak_ (blk_below BL.out hb); replace BLS := ak_ (blk_below BLS.out hb); replace BC := ak_ (blk_below BC.out hb); replace HR := ak_ (Kd.R_below (Kd.pR HR.out) hb); replace HLR := ak_ (Kd.S_below (Kd.pS HLR.out) hb); replace OV := ak_ (Kd.R_below (Kd.pR OV.out) hb); replace HB := ak_ (bs_ (bb_ HB.out) hb); clear hb) | ((with_reducible refine gate_builtin (b := .append) (xs := #[.tmp 26, .tmp 34]) rfl ?_); at_builtin; refine Kd.R_append kre (w0 := w) w.heap.size rfl (.tmp 26) (.tmp 34) 85 90 (.agg #[(.int .i64 0), (.int .i64 0), (.slice none 0 0)]) 40 rfl Try.underlying85 info90 rfl (by decide) (by omega) _ res ⟨q, 1, Aj, l.length, cj⟩ [.int .i64 q, .int .i64 1, .slice Aj l.length cj] (fun _ => True) (fun _ => False) rfl rfl ?aP (fun _ hk => hk.elim) (fun _ _ => trivial) ?aO ?aB ?aS ?aL ?_; (case aP => exact kre_M _ _ _ ⟨q, 1, Aj, l.length, cj⟩); (case aO => exact Kd.pR HR.out); (case aB => exact (bb_ HB.out)); (case aS => exact bz_ (bb_ HB.out)); (case aL => have := HACC.out; omega); intro v36 w36 ho hb hg hat; replace BK6 := ak_ (blk_grown (pk BK6.out) hg (Kd.R_ne HR.out BK6.out (by decide))); replace BL := ak_ (blk_grown (pk BL.out) hg (Kd.R_ne HR.out BL.out (by decide))); replace BLS := ak_ (blk_grown (pk BLS.out) hg (Kd.R_ne HR.out BLS.out (by decide))); replace BC := ak_ (blk_grown (pk BC.out) hg (Kd.R_ne HR.out BC.out (by decide))); replace HLR := ak_ (Kd.S_over' (Kd.pS HLR.out) (Kd.R_typed HR.out) (by decide) hg); replace OV := ak_ (Kd.R_over' (Kd.pR OV.out) (Kd.R_typed HR.out) (by decide) hg); replace HB := ak_ (hb); replace HR := ak_ (ho); clear hg hat hb ho))
    go_roundg (ls.length - (j + 1))
    case measure => have := HJ.out; have := HJJ.out; omega
    case rel => exact ⟨j + 1, _, _, (by first | rfl | (simp; done)), ⟨⟨by have := HJJ.out; omega, Nat.le_refl _, by rw [List.length_append, HJ.out.2.2]; rfl⟩⟩, H2, HER2, ⟨Kd.pR HR.out⟩, ⟨Kd.pS HLR.out⟩, ⟨by first | exact .inr ⟨rfl, pk BLS.out⟩ | exact .inr ⟨trivial, pk BLS.out⟩⟩, ⟨pk BK6.out⟩, ⟨Kd.pR OV.out⟩, ⟨pk BL.out⟩, ⟨pk BC.out⟩, ⟨(bb_ HB.out)⟩⟩
   | true =>
    clear HC1
    go_upto_region 8 with (first | (go_at_call 78; refine (A5.out rfl _ (bb_ HB.out) (by repeat (first | (with_reducible first | exact HBR.out | apply ba_ | apply bN_ | apply b1_) | exact HBR.out))).mono ?_; rintro e w29 ⟨rfl, hb⟩; clear A5 hn0 hn1 hn2 hz0 hz1 hz2; replace BK6 := ak_ (blk_below (pk BK6.out) hb); replace BL := ak_ (blk_below (pk BL.out) hb); replace BLS := ak_ (blk_below (pk BLS.out) hb); replace BC := ak_ (blk_below (pk BC.out) hb); replace HR := ak_ (Kd.R_below (Kd.pR HR.out) hb); replace HLR := ak_ (Kd.S_below (Kd.pS HLR.out) hb); replace OV := ak_ (Kd.R_below (Kd.pR OV.out) hb); replace HBR := ak_ (bs_ (by repeat (first | (with_reducible first | exact HBR.out | apply ba_ | apply bN_ | apply b1_) | exact HBR.out)) hb); replace HB := ak_ (bs_ (bb_ HB.out) hb); clear hb; have hz0 := blk_cell BK6.out 0; have hz1 := blk_cell BK6.out 1; simp at hz0; simp at hz1))
    go_wp2_with (first | (go_at_call 79; refine (A3.out _ (by repeat (first | (with_reducible first | exact HBR.out | apply ba_ | apply bN_ | apply b1_) | exact HBR.out))).mono ?_; rintro e w30 ⟨v30, rfl, ho, hb⟩; obtain ⟨Am, cm, rfl⟩ := Kd.R_slice ho; have OM := ak_ ho; clear A3; replace BK6 := ak_ (blk_below BK6.out hb); replace BL := ak_ (blk_below BL.out hb); replace BLS := ak_ (blk_below BLS.out hb); replace BC := ak_ (blk_below BC.out hb); replace HR := ak_ (Kd.R_below (Kd.pR HR.out) hb); replace HLR := ak_ (Kd.S_below (Kd.pS HLR.out) hb); replace OV := ak_ (Kd.R_below (Kd.pR OV.out) hb); replace HB := ak_ (bs_ (bb_ HB.out) hb); clear hb ho HBR) | (go_at_call 60; refine (A4.out _ Am cm (Kd.R_reads' OM.out).2.2 (Kd.R_reads' OM.out).2.1).mono ?_; rintro e w31 ⟨rfl, hb⟩; clear A4 OM; replace BK6 := ak_ (blk_below BK6.out hb); replace BL := ak_ (blk_below BL.out hb); replace BLS := ak_ (blk_below BLS.out hb); replace BC := ak_ (blk_below BC.out hb); replace HR := ak_ (Kd.R_below (Kd.pR HR.out) hb); replace HLR := ak_ (Kd.S_below (Kd.pS HLR.out) hb); replace OV := ak_ (Kd.R_below (Kd.pR OV.out) hb); replace HB := ak_ (bs_ (bb_ HB.out) hb); clear hb) | ((with_reducible refine gate_builtin (b := .append) (xs := #[.tmp 26, .tmp 34]) rfl ?_); at_builtin; refine Kd.R_append kre (w0 := w) w.heap.size rfl (.tmp 26) (.tmp 34) 85 90 (.agg #[(.int .i64 0), (.int .i64 0), (.slice none 0 0)]) 40 rfl Try.underlying85 info90 rfl (by decide) (by omega) _ res ⟨q, c, Aj, l.length, cj⟩ [.int .i64 q, .int .i64 c, .slice Aj l.length cj] (fun _ => True) (fun _ => False) rfl rfl ?aP (fun _ hk => hk.elim) (fun _ _ => trivial) ?aO ?aB ?aS ?aL ?_; (case aP => exact kre_M _ _ _ ⟨q, c, Aj, l.length, cj⟩); (case aO => exact Kd.pR HR.out); (case aB => exact (bb_ HB.out)); (case aS => exact bz_ (bb_ HB.out)); (case aL => have := HACC.out; omega); intro v36 w36 ho hb hg hat; replace BK6 := ak_ (blk_grown (pk BK6.out) hg (Kd.R_ne HR.out BK6.out (by decide))); replace BL := ak_ (blk_grown (pk BL.out) hg (Kd.R_ne HR.out BL.out (by decide))); replace BLS := ak_ (blk_grown (pk BLS.out) hg (Kd.R_ne HR.out BLS.out (by decide))); replace BC := ak_ (blk_grown (pk BC.out) hg (Kd.R_ne HR.out BC.out (by decide))); replace HLR := ak_ (Kd.S_over' (Kd.pS HLR.out) (Kd.R_typed HR.out) (by decide) hg); replace OV := ak_ (Kd.R_over' (Kd.pR OV.out) (Kd.R_typed HR.out) (by decide) hg); replace HB := ak_ (hb); replace HR := ak_ (ho); clear hg hat hb ho))
    go_roundg (ls.length - (j + 1))
    case measure => have := HJ.out; have := HJJ.out; omega
    case rel => exact ⟨j + 1, _, _, (by first | rfl | (simp; done)), ⟨⟨by have := HJJ.out; omega, Nat.le_refl _, by rw [List.length_append, HJ.out.2.2]; rfl⟩⟩, H2, HER2, ⟨Kd.pR HR.out⟩, ⟨Kd.pS HLR.out⟩, ⟨by first | exact .inr ⟨rfl, pk BLS.out⟩ | exact .inr ⟨trivial, pk BLS.out⟩⟩, ⟨pk BK6.out⟩, ⟨Kd.pR OV.out⟩, ⟨pk BL.out⟩, ⟨pk BC.out⟩, ⟨(bb_ HB.out)⟩⟩
  ·have j1 : decide ((j : Int) < (ls.length : Int)) = false := decide_eq_false (by omega)
   have j1n : decide (j < ls.length) = false := decide_eq_false hj
   have h := H.out
   rw [List.drop_of_length_le (by omega)] at h
   have HES := ak_ (show acc = es from Option.some.inj (show some acc = some es from h))
   clear h H hj
   go_wp2
   first | go_ret | go_ret2
   refine ⟨_, rfl, ?_, (bb_ HB.out)⟩
   rw [← HES.out]
   rcases HAL.out with h0 | ⟨rfl, hbl⟩
   ·have ha : acc = [] := List.eq_nil_of_length_eq_zero (by have := HJ.out; omega)
    have hr : res = [] := List.eq_nil_of_length_eq_zero (by rw [← HER.out.1, ha]; rfl)
    have h2 := HR.out
    rw [hr] at h2
    rw [ha]
    exact lead_shut (zs := []) (f := fun _ => 0) (okl := fun _ => False) (Kd.R_below h2 be_) trivial List.Pairwise.nil (fun k hk => hk.elim)
   ·exact HER.out.shut (Kd.S_below HLR.out be_) (blk_below hbl be_) (Kd.R_below HR.out be_) (by decide)
attribute [local go_sem] run_store_fn_
def ngN (tq : Int) (n : Nat) : Int := wrap64 (wrap64 (tq + 1) * 2 ^ min n 64)
theorem impl_Night_graph.calls (At : Option Addr) (ct : Nat) (ts : List Int) (se tq : Int) (tm : Bool) (w : World) (ht : Kd.C (Kd.int .i64) w At ts.length ts) :
  Calls Try.prog 55 #[.agg #[.slice At ts.length ct, .int .i64 se, .int .i64 tq], .bool tm] w fun e w' => ∃ Bc Bl : Nat, e = .returned (.agg #[.int .i64 (ngN tq ts.length), .func (.func 76) #[] #[.pointer (some ⟨Bc, 0, none⟩), .pointer (some ⟨Bl, 0, none⟩)]]) ∧
   (w'.heap[Bc]? = some (.cells #[.slice At ts.length ct, .int .i64 se, .int .i64 tq] 33 (0, 0)) ∧ w'.heap[Bl]? = some (.cells #[.bool tm] 4 (0, 0))) ∧ Below w.heap.size w w' := by
 have hu := Try.underlying33
 have hu2 := Try.underlying67
 have HB := ak_ (Below.refl w.heap.size w)
 have hn : (ts.length : Int) ≤ 9223372036854775807 := by have := Kd.C_max ht; omega
 clear ht
 go_enter Try.func55, Try.ntmps55
 go_upto_region 1 with (first | ((with_reducible refine gate_dst (N := 2) rfl ?_); refine bx_ 2 #[.slice At ts.length ct, .int .i64 se, .int .i64 tq] 33 ?_; intro gb2 hg w2 hbox hb; have nb_ := ak_ (bs_ (bb_ HB.out) hb); have nc_ := ak_ hbox; have nd_ := ak_ ((by rw [hg]; exact (bz_ (bb_ HB.out)) : w.heap.size ≤ gb2)); clear HB hb hbox hg; have HB := nb_; have BK2 := nc_; have GE2 := nd_; clear nb_ nc_ nd_; have hz2_0 := (blk_cell BK2.out 0); have hf2_0 := (blk_frozen BK2.out 0); simp at hz2_0; have hz2_1 := (blk_cell BK2.out 1); have hf2_1 := (blk_frozen BK2.out 1); simp at hz2_1; have hz2_2 := (blk_cell BK2.out 2); have hf2_2 := (blk_frozen BK2.out 2); simp at hz2_2; skip) | ((with_reducible refine gate_dst (N := 3) rfl ?_); refine bx_ 3 #[.bool tm] 4 ?_; intro gb3 hg w3 hbox hb; have n0_ := ak_ (blk_below (pk BK2.out) hb); have m0_ := ak_ ((by rw [hg]; exact Nat.ne_of_lt (blk_lt (pk BK2.out)) : gb2 ≠ gb3)); have nb_ := ak_ (bs_ (bb_ HB.out) hb); have nc_ := ak_ hbox; have nd_ := ak_ ((by rw [hg]; exact (bz_ (bb_ HB.out)) : w.heap.size ≤ gb3)); clear HB hb hbox hg; clear BK2; have BK2 := n0_; have NE2_3 := m0_; have HB := nb_; have BK3 := nc_; have GE3 := nd_; clear nb_ nc_ nd_ n0_ m0_; have hz3_0 := (blk_cell BK3.out 0); have hf3_0 := (blk_frozen BK3.out 0); simp at hz3_0; skip) | ((with_reducible refine gate_dst (N := 4) rfl ?_); refine bx_ 4 #[.int .i64 0, .nilFunc] 67 ?_; intro gb4 hg w4 hbox hb; have n0_ := ak_ (blk_below (pk BK2.out) hb); have m0_ := ak_ ((by rw [hg]; exact Nat.ne_of_lt (blk_lt (pk BK2.out)) : gb2 ≠ gb4)); have n1_ := ak_ (blk_below (pk BK3.out) hb); have m1_ := ak_ ((by rw [hg]; exact Nat.ne_of_lt (blk_lt (pk BK3.out)) : gb3 ≠ gb4)); have nb_ := ak_ (bs_ (bb_ HB.out) hb); have nc_ := ak_ hbox; have nd_ := ak_ ((by rw [hg]; exact (bz_ (bb_ HB.out)) : w.heap.size ≤ gb4)); clear HB hb hbox hg; clear BK2 BK3; have BK2 := n0_; have NE2_4 := m0_; have BK3 := n1_; have NE3_4 := m1_; have HB := nb_; have BK4 := nc_; have GE4 := nd_; clear nb_ nc_ nd_ n0_ m0_ n1_ m1_; have hz4_0 := (blk_cell BK4.out 0); have hf4_0 := (blk_frozen BK4.out 0); simp at hz4_0; have hz4_1 := (blk_cell BK4.out 1); have hf4_1 := (blk_frozen BK4.out 1); simp at hz4_1; skip))
 have hq0 := blk_cell BK2.out 0
 have hq2 := blk_cell BK2.out 2
 simp at hq0
 simp at hq2
 have hz40 := blk_cell BK4.out 0
 have hz41 := blk_cell BK4.out 1
 have hf40 := blk_frozen BK4.out 0
 have hf41 := blk_frozen BK4.out 1
 simp at hz40
 simp at hz41
 have B41 := blk_put (cs' := #[.int .i64 (wrap64 (wrap64 (tq + 1) * 2 ^ min ts.length 64)), .func (.func 76) #[] #[.pointer (some ⟨gb2, 0, none⟩), .pointer (some ⟨gb3, 0, none⟩)]]) (blk_put (cs' := #[.int .i64 (wrap64 (wrap64 (tq + 1) * 2 ^ min ts.length 64)), .nilFunc]) BK4.out 0 (.int .i64 (wrap64 (wrap64 (tq + 1) * 2 ^ min ts.length 64))) rfl) 1 (.func (.func 76) #[] #[.pointer (some ⟨gb2, 0, none⟩), .pointer (some ⟨gb3, 0, none⟩)]) rfl
 have B21 := blk_far (p := ⟨gb4, 1, none⟩) (blk_far (p := ⟨gb4, 0, none⟩) BK2.out NE2_4.out (.int .i64 (wrap64 (wrap64 (tq + 1) * 2 ^ min ts.length 64)))) NE2_4.out (.func (.func 76) #[] #[.pointer (some ⟨gb2, 0, none⟩), .pointer (some ⟨gb3, 0, none⟩)])
 have B31 := blk_far (p := ⟨gb4, 1, none⟩) (blk_far (p := ⟨gb4, 0, none⟩) BK3.out NE3_4.out (.int .i64 (wrap64 (wrap64 (tq + 1) * 2 ^ min ts.length 64)))) NE3_4.out (.func (.func 76) #[] #[.pointer (some ⟨gb2, 0, none⟩), .pointer (some ⟨gb3, 0, none⟩)])
 have HB1 := below_set (v := (.func (.func 76) #[] #[.pointer (some ⟨gb2, 0, none⟩), .pointer (some ⟨gb3, 0, none⟩)])) (j := 1) (below_set (v := (.int .i64 (wrap64 (wrap64 (tq + 1) * 2 ^ min ts.length 64)))) (j := 0) HB.out GE4.out) GE4.out
 have HF := ak_ (And.intro B41 (And.intro B21 (And.intro B31 HB1)))
 clear B41 B21 B31 HB1
 go_wp2
 refine bodyPost_ret (results_cell_row rfl _ _ gb4 67 #[.int .i64 (wrap64 (wrap64 (tq + 1) * 2 ^ min ts.length 64)), .func (.func 76) #[] #[.pointer (some ⟨gb2, 0, none⟩), .pointer (some ⟨gb3, 0, none⟩)]] (0, 0) _ rfl HF.out.1 Try.underlying67 rfl (by kernel_rfl)) rfl ?_
 exact ⟨gb2, gb3, rfl, ⟨HF.out.2.1, HF.out.2.2.1⟩, HF.out.2.2.2⟩
def slices_Repeat_int_int.f (l0 : List Int) (a1 : Int) : Option (List Int) := if l0.length = 1 then (if 0 ≤ a1 then (if a1 ≤ 1000000 then some (List.replicate a1.toNat (l0.headD 0)) else none) else none) else none
def slices_Repeat_int_int.row (N m : Nat) (x : Int) : List Int := List.replicate m x ++ List.replicate (N - m) 0
theorem slices_Repeat_int_int.row_len {N m : Nat} {x : Int} (h : m ≤ N) : (slices_Repeat_int_int.row N m x).length = N := by
 unfold slices_Repeat_int_int.row
 rw [List.length_append, List.length_replicate, List.length_replicate]
 omega
theorem slices_Repeat_int_int.row_set {N m : Nat} {x : Int} (h : m < N) : (slices_Repeat_int_int.row N m x).set m x = slices_Repeat_int_int.row N (m + 1) x := by
 unfold slices_Repeat_int_int.row
 obtain ⟨r, hr⟩ : ∃ r, N - m = r + 1 := ⟨N - m - 1, by omega⟩
 rw [hr, show N - (m + 1) = r by omega, List.set_append_right _ _ (by simp), List.length_replicate, Nat.sub_self, List.replicate_succ, List.set_cons_zero, List.replicate_succ', List.append_assoc]
 rfl
theorem slices_Repeat_int_int.row_get {N m j : Nat} {x : Int} (h : j < m) : rdOf 0 (slices_Repeat_int_int.row N m x) (j : Int) = x := by
 unfold slices_Repeat_int_int.row rdOf
 rw [Int.toNat_natCast, List.getD_eq_getElem?_getD, List.getElem?_append_left (by simpa using h)]
 simp [h]
theorem slices_Repeat_int_int.puts {w : World} {base g N c : Nat} {x : Int} (hg : w.heap.size ≤ g) : ∀ (q m : Nat) (W : World), m + q ≤ N → (Kd.int .i64).R 3 W base (fun _ => True) (.slice (some ⟨g, 0, none⟩) N c) (slices_Repeat_int_int.row N m x) → Below w.heap.size w W →
  (Kd.int .i64).R 3 (W.setCells g m (List.replicate q (Value.int .i64 x))) base (fun _ => True) (.slice (some ⟨g, 0, none⟩) N c) (slices_Repeat_int_int.row N (m + q) x) ∧ Below w.heap.size w (W.setCells g m (List.replicate q (Value.int .i64 x)))
 | 0, m, W, _, h, hb => ⟨h, hb⟩
 | q + 1, m, W, hl, h, hb => by
  have h1 := (Kd.R_putg h (m : Int) x).1
  rw [Int.toNat_natCast, slices_Repeat_int_int.row_set (by omega)] at h1
  have h2 := slices_Repeat_int_int.puts hg q (m + 1) _ (by omega) h1 (below_set (j := m) (v := Value.int .i64 x) hb hg)
  rw [show m + (q + 1) = m + 1 + q by omega, List.replicate_succ]
  exact h2
theorem slices_Repeat_int_int.calls (A0 : Option Addr) (c0 : Nat) (l0 : List Int) (a1 : Int) (r : List Int) (w : World) (hr0 : Kd.C (Kd.int .i64) w A0 l0.length l0) (hc0 : l0.length ≤ c0) (h : slices_Repeat_int_int.f l0 a1 = some r) :
  Calls Try.prog 99 #[.slice A0 l0.length c0, .int .i64 a1] w fun e w' => ∃ v0_ : Value, e = .returned (v0_) ∧ (Kd.int .i64).R 3 w' w.heap.size (fun _ => True) v0_ r ∧ Below w.heap.size w w' := by
 unfold slices_Repeat_int_int.f at h
 by_cases hl : l0.length = 1
 rotate_left
 ·rw [if_neg hl] at h; exact absurd h (by simp)
 rw [if_pos hl] at h
 by_cases h0 : 0 ≤ a1
 rotate_left
 ·rw [if_neg h0] at h; exact absurd h (by simp)
 rw [if_pos h0] at h
 by_cases h1 : a1 ≤ 1000000
 rotate_left
 ·rw [if_neg h1] at h; exact absurd h (by simp)
 rw [if_pos h1] at h
 obtain ⟨x, rfl⟩ := List.length_eq_one_iff.mp hl
 obtain ⟨N, rfl⟩ : ∃ N : Nat, a1 = (N : Int) := ⟨a1.toNat, by omega⟩
 rw [Int.toNat_natCast] at h
 obtain rfl := Option.some.inj h
 obtain ⟨ad, rfl, hx⟩ := Kd.at_int hr0 0 (by decide) (by simp)
 have hx1 : w.cell? (ad.add 0) = some (Value.int .i64 x) := hx
 have HX := ak_ hx1
 have HN := ak_ h1
 have HB := ak_ (Below.refl w.heap.size w)
 have HM0 := fun (W : World) => Try.bits_Mul 1 N (by decide) (by omega) W
 rw [show (1 * N / 18446744073709551616 : Nat) = 0 by omega, show (1 * N % 18446744073709551616 : Nat) = N by omega] at HM0
 have HM := ak_ HM0
 have k0 : decide ((N : Int) < 0) = false := decide_eq_false (by omega)
 have k0n : ((N : Int) < 0) = False := eq_false (by omega)
 have k1 : IntKind.u64.wrap (N : Int) = (N : Int) := IntWalk.u64_in _ ⟨by omega, by omega⟩
 have k2 : IntKind.i64.wrap (N : Int) = (N : Int) := IntWalk.i64_in _ ⟨by omega, by omega⟩
 have k3 : decide ((9223372036854775807 : Int) < (N : Int)) = false := decide_eq_false (by omega)
 have k3n : ((9223372036854775807 : Int) < (N : Int)) = False := eq_false (by omega)
 have HH := ak_ (show List.replicate N x = List.replicate N (List.headD [x] 0) from rfl)
 clear h hl h0 h1 hr0 hc0 hx hx1 HM0
 go_enter Try.func99, Try.ntmps99
 go_upto_region 6 with (go_at_call 111; refine (HM.out _).mono ?_; rintro e w' ⟨rfl, hw_⟩; rw [hw_]; clear hw_ w')
 go_upto_region 7 with ((with_reducible refine gate_dst (N := 30) rfl ?_); refine Kd.R_make (Kd.int .i64) _ 3 rfl (N := 30) rfl 22 _ _ rfl (N : Int) rfl rfl Try.underlying22 (Value.int .i64 0) 8 info3 rfl (by decide) (by omega) 0 (ok := fun _ => True) (okp := fun _ => True) rfl (fun _ hk => hk) trivial (by omega) (by have := HN.out; omega) (Below.refl _ _) (Nat.le_refl _) ?_; intro v30 w30 ho hb hg hnew; have HO := ak_ (Kd.R_lower ho (bz_ (bb_ HB.out))); replace HB := ak_ (bs_ (bb_ HB.out) hb); clear hb hg hnew ho)
 have h30 := HO.out
 rw [Int.toNat_natCast] at h30
 clear HO
 have hsz : (Try.prog.info? 3).map (·.size) = some 1 := by kernel_rfl
 by_cases hz : N = 0
 ·obtain ⟨A3, c3, e3⟩ := Kd.R_slice h30
  rw [List.length_replicate] at e3
  subst e3
  have HO := ak_ h30
  have hcp : ∀ W, (Builtin.copy_ #[22, 22] 3 #[.slice A3 N c3, .slice (some ad) 1 c0]).run Try.prog W = .ok (goInt 0) W := fun W => run_copy_none W 22 22 3 3 A3 (some ad) N c3 1 c0 Try.underlying22 hsz (by rw [hz]; rfl)
  have k4 : decide ((0 : Int) < (N : Int)) = false := decide_eq_false (by omega)
  have k4n : decide (0 < N) = false := decide_eq_false (by omega)
  have k4p : (0 < N) = False := eq_false (by omega)
  have HZ := ak_ hz
  clear h30 hz
  go_upto_region 8 with (fail)
  go_loopg [8] 0 (fun gg v8 wr => v8 = .int .i64 0 ∧ Aside0 ((Kd.int .i64).R 3 wr w.heap.size (fun _ => True) (.slice A3 N c3) (List.replicate N 0)) ∧ Aside0 (Below w.heap.size w wr))
  case atStart => exact ⟨rfl, ⟨Kd.R_below HO.out be_⟩, ⟨(bb_ HB.out)⟩⟩
  case round =>
   clear HO HB
   obtain ⟨rfl, HO, HB⟩ := hrel
   go_wp2
   go_ret
   exact ⟨_, rfl, by have h_ := HO.out; rw [HZ.out] at h_ ⊢; exact Kd.R_below h_ be_, (bb_ HB.out)⟩
 obtain ⟨g, cap, e3, hge, -, -⟩ := Kd.R_form h30 (by rw [List.length_replicate]; omega)
 rw [List.length_replicate] at e3
 subst e3
 have HO := ak_ (show (Kd.int .i64).R 3 w30 w.heap.size (fun _ => True) (.slice (some ⟨g, 0, none⟩) N cap) (slices_Repeat_int_int.row N 0 x) from h30)
 have HG := ak_ hge
 have HZ := ak_ hz
 have hc00 := Kd.R_celln 0 h30 (0 : Int) (by decide) (by omega)
 have hcp : (Builtin.copy_ #[22, 22] 3 #[.slice (some ⟨g, 0, none⟩) N cap, .slice (some ad) 1 c0]).run Try.prog w30 = .ok (goInt 1) (w30.setCells g 0 [Value.int .i64 x]) :=
  run_copy_cells w30 22 22 3 3 g 0 N cap ad 1 c0 [Value.int .i64 x] Try.underlying22 hsz (by simp [Nat.min_def]; omega)
   (fun j v hj => by
    rcases j with _ | j
    ·obtain rfl := Option.some.inj hj
     exact (HB.out.cell (World.block_lt_of_cell? w _ HX.out)).trans HX.out
    ·simp at hj)
   (fun j hj => by
    obtain rfl : j = 0 := by simpa using hj
    have := hc00.1
    simp at this ⊢
    rw [this]; rfl)
   (fun j hj => by
    obtain rfl : j = 0 := by simpa using hj
    have := hc00.2
    simpa using this) (by intro v hv; obtain rfl := List.mem_singleton.mp hv; rfl)
 clear h30 hge hz hc00
 go_upto_region 8 with (fail)
 have hp1 := slices_Repeat_int_int.puts (w := w) HG.out 1 0 w30 (by have := HZ.out; omega) HO.out HB.out
 have n0_ := ak_ hp1.1
 have n1_ := ak_ hp1.2
 clear HO HB hp1 hcp
 have HO := n0_; have HB := n1_
 clear n0_ n1_
 change Aside0 ((Kd.int .i64).R 3 (w30.setCells g 0 [Value.int .i64 x]) w.heap.size (fun _ => True) (.slice (some ⟨g, 0, none⟩) N cap) (slices_Repeat_int_int.row N 1 x)) at HO
 change Aside0 (Below w.heap.size w (w30.setCells g 0 [Value.int .i64 x])) at HB
 generalize hW8 : w30.setCells g 0 [Value.int .i64 x] = W8 at HO HB ⊢
 clear hW8
 go_loopg [8] N (fun gg v8 wr => ∃ m : Nat, v8 = .int .i64 (m : Int) ∧ 1 ≤ m ∧ m ≤ N ∧ N - m ≤ gg ∧ Aside0 ((Kd.int .i64).R 3 wr w.heap.size (fun _ => True) (.slice (some ⟨g, 0, none⟩) N cap) (slices_Repeat_int_int.row N m x)) ∧ Aside0 (Below w.heap.size w wr))
 case atStart => exact ⟨1, rfl, Nat.le_refl _, by have := HZ.out; omega, by omega, ⟨Kd.R_below HO.out be_⟩, ⟨(bb_ HB.out)⟩⟩
 case round =>
  clear HO HB
  obtain ⟨m, rfl, hm1, hmN, hg, HO, HB⟩ := hrel
  by_cases hlt : m < N
  ·have q1 : decide ((m : Int) < (N : Int)) = true := decide_eq_true (by omega)
   have q1n : decide (m < N) = true := decide_eq_true hlt
   have q1p : (m < N) = True := eq_true hlt
   have hcap := (Kd.R_reads' HO.out).2.1
   have h00 := fun j (hj : j < N) => Kd.R_celln 0 HO.out (j : Int) (by omega) (by omega)
   have b0 : (0 : Int) ≤ (m : Int) := by omega
   have b1 : (m : Int) ≤ (N : Int) := by omega
   have b2 : (m : Int) ≤ (cap : Int) := by omega
   have b3 : (N : Int) ≤ (cap : Int) := by omega
   have b1n : m ≤ N := by omega
   have b2n : m ≤ cap := by omega
   have b3n : N ≤ cap := by omega
   have b4 : (cap = m) = False := eq_false (by omega)
   have b5 : ((cap : Int) = (m : Int)) = False := eq_false (by omega)
   obtain ⟨q, hq⟩ : ∃ q, q = Nat.min m (N - m) := ⟨_, rfl⟩
   have hq1 : q ≤ m := by rw [hq]; exact Nat.min_le_left _ _
   have hq2' : q ≤ N - m := by rw [hq]; exact Nat.min_le_right _ _
   have hq2 : m + q ≤ N := by omega
   clear hq2'
   have hq3 : 1 ≤ q := by rw [hq]; exact Nat.le_min.2 ⟨hm1, by omega⟩
   have hw : IntKind.i64.wrap ((m : Int) + (q : Int)) = ((m + q : Nat) : Int) := by rw [IntWalk.i64_in _ ⟨by omega, by have := HN.out; omega⟩]; omega
   have hp1 := slices_Repeat_int_int.puts (w := w) HG.out q m wr.drew hq2 (Kd.R_drew HO.out) (b1_ HB.out)
   have hcp : (Builtin.copy_ #[22, 22] 3 #[.slice (some ⟨g, m, none⟩) (N - m) (cap - m), .slice (some ⟨g, 0, none⟩) m cap]).run Try.prog wr.drew = .ok (goInt (q : Int)) (wr.drew.setCells g m (List.replicate q (Value.int .i64 x))) := by
    have h_ := run_copy_cells (P := Try.prog) wr.drew 22 22 3 3 g m (N - m) (cap - m) ⟨g, 0, none⟩ m cap (List.replicate q (Value.int .i64 x)) Try.underlying22 hsz (by rw [List.length_replicate]; exact hq)
     (fun j v hj => by
      rw [List.getElem?_replicate] at hj
      by_cases hjq : j < q
      ·rw [if_pos hjq] at hj
       obtain rfl := Option.some.inj hj
       have e := (h00 j (by omega)).1
       rw [slices_Repeat_int_int.row_get (by omega), Int.toNat_natCast] at e
       rw [add_plain]
       simpa using e
      ·rw [if_neg hjq] at hj; exact absurd hj (by simp))
     (fun j hj => by
      rw [List.length_replicate] at hj
      have e := (h00 (m + j) (by omega)).1
      rw [Int.toNat_natCast] at e
      simp only [World.cell?_drew]
      rw [e]; rfl)
     (fun j hj => by
      rw [List.length_replicate] at hj
      have e := (h00 (m + j) (by omega)).2
      rw [Int.toNat_natCast] at e
      simpa using e) (by intro v hv; obtain rfl := List.eq_of_mem_replicate hv; rfl)
    rw [List.length_replicate] at h_
    exact h_
   have HQ := ak_ (And.intro hq3 (And.intro hg hlt))
   have HP1 := ak_ hp1
   clear hq hq1 hq3 h00 hp1 hcap hm1 hmN hg hlt
   try go_wp2
   refine start_ (n := 10) (S := fun _ => True) (ds := [9]) (mb_ 10 0) (by kernel_rfl) rfl rfl trivial (fun hHeld => ?_)
   refine pure_ (i := 0) (N := some 38) (v := ?_) (a' := ?_) (mb_ 10 1) rfl rfl (by kernel_rfl) (fun _ _ _ h => h) (Or.inl ⟨by rfl, ?_⟩) ?_ ?_
   rotate_left
   ·intro w'
    go_simp
    with_reducible rfl
   rotate_left
   ·simp only [Act.put, setIfInBounds_toArray, set_cons_zero, set_cons_succ, i64_w, i32_w]
    rfl
   refine pure_ (i := 1) (N := some 39) (v := ?_) (a' := ?_) (mb_ 10 3) rfl rfl (by kernel_rfl) (fun _ _ _ h => h) (Or.inl ⟨by rfl, ?_⟩) ?_ ?_
   rotate_left
   ·intro w'
    go_simp
    with_reducible rfl
   rotate_left
   ·simp only [Act.put, setIfInBounds_toArray, set_cons_zero, set_cons_succ, i64_w, i32_w]
    rfl
   refine pure_ (i := 2) (N := some 40) (v := ?_) (a' := ?_) (mb_ 10 7) rfl rfl (by kernel_rfl) (fun _ _ _ h => h) (Or.inl ⟨by rfl, ?_⟩) ?_ ?_
   rotate_left
   ·intro w'
    go_simp
    with_reducible rfl
   rotate_left
   ·simp only [Act.put, setIfInBounds_toArray, set_cons_zero, set_cons_succ, i64_w, i32_w]
    rfl
   refine pure_ (i := 3) (N := some 41) (v := ?_) (a' := ?_) (mb_ 10 15) rfl rfl (by kernel_rfl) (fun _ _ _ h => h) (Or.inl ⟨by rfl, ?_⟩) ?_ ?_
   rotate_left
   ·intro w'
    go_simp
    with_reducible rfl
   rotate_left
   ·simp only [Act.put, setIfInBounds_toArray, set_cons_zero, set_cons_succ, i64_w, i32_w]
    rfl
   refine pure_ (i := 4) (N := some 42) (v := ?_) (a' := ?_) (mb_ 10 31) rfl rfl (by kernel_rfl) (fun _ _ _ h => h) (Or.inl ⟨by rfl, ?_⟩) ?_ ?_
   rotate_left
   ·intro w'
    go_simp
    with_reducible rfl
   rotate_left
   ·simp only [Act.put, setIfInBounds_toArray, set_cons_zero, set_cons_succ, i64_w, i32_w]
    rfl
   refine pure_ (i := 5) (N := some 43) (v := ?_) (a' := ?_) (mb_ 10 63) rfl rfl (by kernel_rfl) (fun _ _ _ h => h) (Or.inl ⟨by rfl, ?_⟩) ?_ ?_
   rotate_left
   ·intro w'
    go_simp
    with_reducible rfl
   rotate_left
   ·simp only [Act.put, setIfInBounds_toArray, set_cons_zero, set_cons_succ, i64_w, i32_w]
    rfl
   refine pure_ (i := 6) (N := some 44) (v := ?_) (a' := ?_) (mb_ 10 127) rfl rfl (by kernel_rfl) (fun _ _ _ h => h) (Or.inl ⟨by rfl, ?_⟩) ?_ ?_
   rotate_left
   ·intro w'
    go_simp
    with_reducible rfl
   rotate_left
   ·simp only [Act.put, setIfInBounds_toArray, set_cons_zero, set_cons_succ, i64_w, i32_w]
    rfl
   refine one_ (i := 7) (N := some 45) (mb_ 10 255) rfl rfl (by kernel_rfl) (by decide) (fun K hK => ?_)
   refine value_ (w1 := ?_) (v := ?_) (by rfl) rfl ?_ ?_
   rotate_left 2
   ·go_simp
    constructor
    ·rfl
    ·rfl
   refine hK.out _ _ trivial (fun hHeld => ?_)
   clear hK K
   refine nm_ ?_
   refine pure_ (i := 8) (N := some 46) (v := ?_) (a' := ?_) (mb_ 10 511) rfl rfl (by kernel_rfl) (fun _ _ _ h => h) (Or.inl ⟨by rfl, ?_⟩) ?_ ?_
   rotate_left
   ·intro w'
    go_simp
    with_reducible rfl
   rotate_left
   ·simp only [Act.put, setIfInBounds_toArray, set_cons_zero, set_cons_succ, i64_w, i32_w]
    rfl
   refine pure_ (i := 9) (N := some 8) (v := ?_) (a' := ?_) (mb_ 10 1023) rfl rfl (by kernel_rfl) (fun _ _ _ h => h) (Or.inl ⟨by rfl, ?_⟩) ?_ ?_
   rotate_left
   ·intro w'
    go_simp
    with_reducible rfl
   rotate_left
   ·simp only [Act.put, setIfInBounds_toArray, set_cons_zero, set_cons_succ, i64_w, i32_w]
    rfl
   refine done_ (by kernel_rfl) ?_
   clear HO HB hcp
   have HO := ak_ HP1.out.1
   have HB := ak_ HP1.out.2
   clear HP1
   generalize wr.drew.setCells g m (List.replicate q (Value.int .i64 x)) = W9 at HO HB ⊢
   try go_wp2
   go_roundg (N - (m + q))
   case measure => have := HQ.out; omega
   case rel => exact ⟨m + q, (ry_), by have := HQ.out; omega, hq2, Nat.le_refl _, ⟨Kd.R_below HO.out be_⟩, ⟨(bb_ HB.out)⟩⟩
  ·have q1 : decide ((m : Int) < (N : Int)) = false := decide_eq_false (by omega)
   have q1n : decide (m < N) = false := decide_eq_false hlt
   have q1p : (m < N) = False := eq_false hlt
   obtain rfl : m = N := by omega
   clear hlt hg hmN hm1
   go_wp2
   go_ret
   have e : slices_Repeat_int_int.row m m x = List.replicate m (List.headD [x] 0) := by unfold slices_Repeat_int_int.row; rw [Nat.sub_self]; simp
   exact ⟨_, rfl, by have h_ := HO.out; rw [e] at h_; exact Kd.R_below h_ be_, (bb_ HB.out)⟩
def GOut (fo : Nat) (cb : Array Value) (N : Int) (E : Int → List S90) (w0 : World) : Prop :=
 ∀ (W : World) (s : Int), Below w0.heap.size w0 W → 0 ≤ s → s < N → Calls Try.prog fo (#[.int .i64 s] ++ cb) W fun e w' => ∃ v : Value, e = .returned v ∧ Kd.S k90 90 w' W.heap.size (fun _ => True) v (E s) ∧ Below W.heap.size W w'
def frPad (n : Nat) (w : List (List Int)) : List (List Int) := w ++ List.replicate (n + 1 - w.length) []
theorem frPad_of {n t : Nat} {w w2 : List (List Int)} (h : w2 = w ++ List.replicate t []) (ht : t = 0 ∨ w2.length ≤ n + 1) (hn : n < w2.length) : w2 = frPad n w := by
 unfold frPad
 rw [h]
 have hl : w2.length = w.length + t := by rw [h, List.length_append, List.length_replicate]
 congr 2
 omega
theorem frPad_len (n : Nat) (w : List (List Int)) : w.length ≤ (frPad n w).length := by
 unfold frPad
 rw [List.length_append]
 omega
def frEdges (d : Nat) (dist : List Int) : List S90 → List (List Int) → Option (List (List Int))
 | [], w => some w
 | e :: es, w => if 0 ≤ e.f0 ∧ e.f0 < (dist.length : Int) then (if rdOf 0 dist e.f0 ≥ 0 then frEdges d dist es w else (if 1 ≤ e.f1 ∧ (d : Int) + e.f1 < 1000000 ∧ ((frPad (d + e.f1.toNat) w).getD (d + e.f1.toNat) []).length < 1000000 ∧ w.length < 1000000 then
  frEdges d dist es ((frPad (d + e.f1.toNat) w).set (d + e.f1.toNat) (((frPad (d + e.f1.toNat) w).getD (d + e.f1.toNat) []) ++ [e.f0])) else none)) else none
def frRun (E : Int → List S90) (N : Int) : Nat → Nat → Nat → List Int → List (List Int) → Option (List Int)
 | 0, _, _, _, _ => none
 | k + 1, d, i, dist, w => if d < w.length then (if i < (w.getD d []).length then (if 0 ≤ rdOf 0 (w.getD d []) (i : Int) ∧ rdOf 0 (w.getD d []) (i : Int) < N ∧ i < 1000000 ∧ d < 1000000 ∧ (E (rdOf 0 (w.getD d []) (i : Int))).length < 1000000 then
  (if rdOf 0 dist (rdOf 0 (w.getD d []) (i : Int)) ≥ 0 then frRun E N k d (i + 1) dist w else
   (frEdges d (dist.set (rdOf 0 (w.getD d []) (i : Int)).toNat (d : Int)) (E (rdOf 0 (w.getD d []) (i : Int))) w).bind fun w' => frRun E N k d (i + 1) (dist.set (rdOf 0 (w.getD d []) (i : Int)).toNat (d : Int)) w')
  else none) else (if d < 1000000 then frRun E N k (d + 1) 0 dist w else none)) else some dist
def impl_graph_int_from.f (E : Int → List S90) (k : Nat) (N : Int) (starts : List Int) : Option (List Int) := if 0 < N then (slices_Repeat_int_int.f [-1] N).bind fun dist => frRun E N k 0 0 dist [starts] else none
theorem frRun_mono (E : Int → List S90) (N : Int) : ∀ k d i dist w, LeO (frRun E N k d i dist w) (frRun E N (k + 1) d i dist w)
 | 0, _, _, _, _ => fun r h => by simp [frRun] at h
 | k + 1, d, i, dist, w => by
  rw [frRun.eq_2, frRun.eq_2]
  exact LeO.ite (LeO.ite (LeO.ite (LeO.ite (frRun_mono E N k _ _ _ _) (LeO.bind (LeO.refl _) (fun _ => frRun_mono E N k _ _ _ _))) (LeO.refl _)) (LeO.ite (frRun_mono E N k _ _ _ _) (LeO.refl _))) (LeO.refl _)
theorem impl_graph_int_from.mono (E : Int → List S90) : ∀ N starts k, LeO (impl_graph_int_from.f E k N starts) (impl_graph_int_from.f E (k + 1) N starts) := fun N starts k => LeO.ite (LeO.bind (LeO.refl _) (fun _ => frRun_mono E N k _ _ _ _)) (LeO.refl _)
theorem fr_own {g n c k : Nat} (h : some k = (Value.slice (some ⟨g, 0, none⟩) n c).ownBlock) : k = g := by simpa [Value.ownBlock] using h
theorem fr_below {w W w' : World} {b : Nat} (hB : Below w.heap.size w W) (hg : W.grownBy w' (some b)) (hb : w.heap.size ≤ b) : Below w.heap.size w w' :=
 ⟨hg.os.trans hB.os, hg.tape.trans hB.tape, hg.output.trans hB.output, Nat.le_trans hB.size hg.size, fun k hk => (hg.block k (Nat.lt_of_lt_of_le hk hB.size) (fun e => by injection e with e; omega)).trans (hB.block k hk)⟩
theorem fr_lit {W : World} {base : Nat} {ok okp : Nat → Prop} {v : Value} {x : List Int} (hR : (Kd.int .i64).R 3 W base okp v x) (hok : ∀ k, okp k → ok k) (hf : ok W.heap.size) (hb : base ≤ W.heap.size) :
  Kd.S (Kd.slice 3 (Kd.int .i64)) 22 (W.alloc (.cells #[v] 22)) base ok (.slice (some ⟨W.heap.size, 0, none⟩) 1 1) [x] := by
 obtain ⟨f, hr⟩ := Kd.reps_tag (d := Kd.slice 3 (Kd.int .i64)) (w := W) (base := base) (ok := ok) (xs := [x]) (inner := [v]) (fun j k => j = 0 ∧ okp k) (by rintro i j k ⟨rfl, _⟩ ⟨rfl, _⟩; rfl) (fun j k h => hok k h.2) rfl (fun j y hj => by
  cases j with
  | zero =>
   obtain rfl := Option.some.inj hj
   exact ⟨v, rfl, Kd.R_mono hR (fun k hk => ⟨rfl, hk⟩)⟩
  | succ j => simp at hj)
 refine ⟨f, fun k hk => ?_, [v], ?_, ?_⟩
 ·have : W.heap.size = k := by simpa [Value.ownBlock] using hk
  subst this
  exact hf
 ·have h2 := World.ownsRow_lit (base := base) (e := 22) (size := 1) W #[v] 1 hb (by simp [maxLen]) (by simp)
  have h3 : (W.alloc (.cells #[v] 22)).ownsRow base 22 1 (.slice (some ⟨W.heap.size, 0, none⟩) 1 1) 1 [v] := by simpa using h2
  exact h3
 ·refine hr.imp_ (fun p c hp => Kd.M_mono _ (fun k hk => ⟨hk.1, fun he => ?_⟩) (Kd.M_below (Kd.M_bound _ hp) (ba_ (Below.refl _ _) _)))
  have h3 : k = W.heap.size := by simpa [Value.ownBlock] using he
  have := hk.2.2.1
  omega
theorem fr_lend {g base n cap : Nat} {ok : Nat → Prop} {W : World} {xs : List (List Int)} (h : Kd.S (Kd.slice 3 (Kd.int .i64)) 22 W base ok (.slice (some ⟨g, 0, none⟩) n cap) xs) (i : Int) (h0 : 0 ≤ i) (h1 : i < n) :
  ∃ (vi : Value) (oki : Nat → Prop), W.cell? ⟨g, i.toNat, none⟩ = some vi ∧ W.frozen? ⟨g, i.toNat, none⟩ = false ∧ Kd.R (Kd.int .i64) 3 W base oki vi (xs.getD i.toNat []) ∧ (∀ k, oki k → ok k ∧ k ≠ g) ∧ Kd.H (Kd.slice 3 (Kd.int .i64)) 22 W base ok (.slice (some ⟨g, 0, none⟩) n cap) xs i oki [vi] := by
 obtain ⟨oki, c, hc, hM, hcell, hfr, hok, hH⟩ := Kd.S_elem h [] i h0 h1
 obtain ⟨vi, rfl, hR⟩ := hM
 refine ⟨vi, oki, ?_, ?_, hR, hok, hH⟩
 ·have := hcell 0 vi rfl
  simpa [Kd.slice] using this
 ·have := hfr 0
  simpa [Kd.slice] using this
theorem fr_back {g base n cap gd : Nat} {W w3 : World} {xs : List (List Int)} {i : Int} {oki : Nat → Prop} {vi v3 : Value} {l l' : List Int} (hH : Kd.H (Kd.slice 3 (Kd.int .i64)) 22 W base (fun k => k ≠ gd) (.slice (some ⟨g, 0, none⟩) n cap) xs i oki [vi]) (h0 : 0 ≤ i) (h1 : i < n) (hgd : gd < W.heap.size)
  (hR : Kd.R (Kd.int .i64) 3 W base oki vi l) (hg : W.grownBy w3 vi.ownBlock) (hat : v3.ownBlock = vi.ownBlock ∨ ∃ b, v3.ownBlock = some b ∧ W.heap.size ≤ b) (h3 : Kd.R (Kd.int .i64) 3 w3 base (fun _ => True) v3 l') :
  Kd.S (Kd.slice 3 (Kd.int .i64)) 22 (w3.setCell ⟨g, i.toNat, none⟩ v3) base (fun k => k ≠ gd) (.slice (some ⟨g, 0, none⟩) n cap) (xs.set i.toNat l') ∧ w3.grownBy (w3.setCell ⟨g, i.toNat, none⟩ v3) (some g) := by
 have hH2 := Kd.H_grown (Kd.H_widen hH) hg (fun k hk => .inl (hR.1 k hk))
 have h4 := Kd.S_seg0 (seg := [v3]) (j := 0) (x' := l') (okp := fun k => some k = v3.ownBlock) hH2 h0 h1 (Nat.le_refl _) ⟨v3, rfl, Kd.R_tight rfl h3⟩ (fun k hk => ?_)
 ·have e : i.toNat * (Kd.slice 3 (Kd.int .i64)).sz + 0 = i.toNat := by show i.toNat * 1 + 0 = i.toNat; omega
  rw [e] at h4
  exact h4
 ·rcases hat with e | ⟨b, e, hb⟩
  ·exact .inl (hR.1 k (by rw [← e, ← hk]))
  ·have hkb : k = b := by rw [e] at hk; exact Option.some.inj hk
   subst hkb
   exact .inr ⟨by omega, hb⟩
def frCl (cl : Array Value) (es : List S90) : Prop := ∀ (i : Int), 0 ≤ i → i < (es.length : Int) → ∃ (A2 : Option Addr) (n2 c2 : Nat), cl[i.toNat * 3]? = some (.int .i64 (rd_T90 es i).f0) ∧ cl[i.toNat * 3 + 1]? = some (.int .i64 (rd_T90 es i).f1) ∧ cl[i.toNat * 3 + 2]? = some (.slice A2 n2 c2)
theorem frCl_of {W : World} {base g n cap : Nat} {ok : Nat → Prop} {es : List S90} {cl : Array Value} {t : Nat} (h : Kd.S k90 90 W base ok (.slice (some ⟨g, 0, none⟩) n cap) es) (hb : W.heap[g]? = some (.cells cl t (0, 0))) : frCl cl es := by
 intro i h0 h1
 obtain ⟨hn, -, hC⟩ := Kd.S_reads' h
 obtain ⟨ad, c, e, -, hK, hcell⟩ := Kd.C_get hC z90 i h0 h1
 obtain rfl := Option.some.inj e
 obtain ⟨A2, c2, rfl, -, -⟩ := k90_open hK
 have hc : ∀ j, W.cell? ⟨g, j, none⟩ = cl[j]? := fun j => blk_cell hb j
 have hsz : k90.sz = 3 := rfl
 refine ⟨A2, (es.getD i.toNat z90).f2.length, c2, ?_, ?_, ?_⟩
 ·have h_ := hcell 0 _ rfl
  rw [add_at, hsz, Nat.zero_add, Nat.add_zero, hc] at h_; exact h_
 ·have h_ := hcell 1 _ rfl
  rw [add_at, hsz, Nat.zero_add, hc] at h_; exact h_
 ·have h_ := hcell 2 _ rfl
  rw [add_at, hsz, Nat.zero_add, hc] at h_; exact h_
def frEd (W : World) (Ae : Option Addr) (es : List S90) : Prop := es.length = 0 ∨ ∃ ge cl, Ae = some ⟨ge, 0, none⟩ ∧ W.heap[ge]? = some (.cells cl 90 (0, 0)) ∧ frCl cl es
theorem frEd_of {W : World} {base c : Nat} {ok : Nat → Prop} {Ae : Option Addr} {es : List S90} (h : Kd.S k90 90 W base ok (.slice Ae es.length c) es) : frEd W Ae es := by
 rcases Nat.eq_zero_or_pos es.length with h0 | h0
 ·exact .inl h0
 ·obtain ⟨g, cap, e, -, -, cl, hc⟩ := Kd.S_form h h0
  injection e with e1 _ e3
  subst e1
  subst e3
  exact .inr ⟨g, cl, rfl, hc, frCl_of h hc⟩
def impl_graph_int_from.T17 : Bool × List (List Nat × List Nat) := (true, [([], []), ([], []), ([], []), ([2], [2]), ([1, 3], [1, 3]), ([], []), ([], []), ([], []), ([7], [7]), ([6, 8], [6, 8]), ([5, 9], [5, 9]), ([10], [10]), ([], []), ([12], [12]), ([13], [13]), ([11, 14], [11, 14]), ([0, 4, 0, 1, 2, 3, 4, 5, 6, 7, 8, 9, 10, 11, 12, 13, 14, 15], [0, 4]), ([16, 15, 15, 0, 1, 2, 3, 4, 5, 6, 7, 8, 9, 10, 11, 12, 13, 14, 15], [15, 16])])
def impl_graph_int_from.B17 : List Nat := [0, 0, 0, 4, 14, 0, 0, 0, 128, 448, 992, 2016, 0, 4096, 12288, 32736, 65535, 131071]
theorem impl_graph_int_from.T17_ : rtab .any (opsOf Try.f80 17) = impl_graph_int_from.T17 := by kernel_rfl
theorem impl_graph_int_from.B17_ : waitsOk impl_graph_int_from.T17.2 impl_graph_int_from.B17 = true := by kernel_rfl
theorem impl_graph_int_from.calls (fo : Nat) (cb : Array Value) (N : Int) (E : Int → List S90) (w w0 : World) (ee : ∀ args w, (callFunc fo args).run Try.prog w = .ok (.enter fo args) w) (hE : GOut fo cb N E w) (k : Nat) (starts r : List Int) (bs cs : Nat) (hb0 : Below w.heap.size w w0) (gx : Nat) (cx : Array Value) (hX : w0.heap[gx]? = some (.cells cx 67 (0, 0)))
  (hs : Kd.R (Kd.int .i64) 3 w0 w.heap.size (fun _ => True) (.slice (some ⟨bs, 0, none⟩) starts.length cs) starts) (h : impl_graph_int_from.f E k N starts = some r) :
  Calls Try.prog 80 #[.agg #[.int .i64 N, .func (.func fo) #[] cb], .slice (some ⟨bs, 0, none⟩) starts.length cs] w0 fun e w' => ∃ v0_ : Value, e = .returned v0_ ∧ Kd.R (Kd.int .i64) 3 w' w.heap.size (fun _ => True) v0_ r ∧ w'.heap[gx]? = some (.cells cx 67 (0, 0)) ∧ Below w.heap.size w w' := by
 have hu := Try.underlying67
 have hu2 := Try.underlying90
 unfold impl_graph_int_from.f at h
 by_cases hN0 : 0 < N
 rotate_left
 ·rw [if_neg hN0] at h; exact absurd h (by simp)
 rw [if_pos hN0] at h
 obtain ⟨dist, h1, h2⟩ := Option.bind_eq_some_iff.mp h
 have hN : 0 < N ∧ N ≤ 1000000 ∧ dist.length = N.toNat := by
  unfold slices_Repeat_int_int.f at h1
  rw [if_pos (by rfl), if_pos (by omega)] at h1
  by_cases c1 : N ≤ 1000000
  ·rw [if_pos c1] at h1
   obtain rfl := Option.some.inj h1
   exact ⟨hN0, c1, by simp⟩
  ·rw [if_neg c1] at h1; exact absurd h1 (by simp)
 obtain ⟨DL, hDL⟩ : ∃ DL, DL = dist.length := ⟨_, rfl⟩
 have A1 := ak_ fun (W : World) (A : Option Addr) (c : Nat) (h2 : Kd.C (Kd.int .i64) W A 1 [-1]) (h3 : 1 ≤ c) => slices_Repeat_int_int.calls A c [-1] N dist W h2 h3 h1
 have H := ak_ h2
 have HN := ak_ (And.intro hN.1 (And.intro hN.2.1 (hDL.trans hN.2.2)))
 have HDL := ak_ hDL
 have HE := ak_ hE
 have HB := ak_ hb0
 have HS := ak_ hs
 have BX := ak_ hX
 clear h h1 h2 hN hE hb0 hs hN0 hDL hX
 go_enter Try.func80, Try.ntmps80
 go_wp2_with (first | ((with_reducible refine gate_dst (N := 2) rfl ?_); refine box_event ?hg (N := 2) ?hd (cs := #[.int .i64 N, .func (.func fo) #[] cb]) (t := 67) ?hr ?_; (case hd => rfl); (case hg => rfl); (case hr => go_simp <;> rfl); intro gb2 hg w2 hbox hb; have nx_ := ak_ (blk_below BX.out hb); have ns_ := ak_ (Kd.R_below HS.out hb); have nb_ := ak_ (bs_ (bb_ HB.out) hb); have nc_ := ak_ hbox; have nd_ := ak_ ((by rw [hg]; exact (bz_ (bb_ HB.out)) : w.heap.size ≤ gb2)); clear BX HS HB hb hbox hg; have BX := nx_; have HS := ns_; have HB := nb_; have BK2 := nc_; have GE2 := nd_; clear nx_ ns_ nb_ nc_ nd_; have hz2_0 := (blk_cell BK2.out 0); have hf2_0 := (blk_frozen BK2.out 0); simp at hz2_0; have hz2_1 := (blk_cell BK2.out 1); have hf2_1 := (blk_frozen BK2.out 1); simp at hz2_1; skip) | ((with_reducible refine gate_dst (N := 12) rfl ?_); refine Kd.R_lit (Kd.int .i64) _ 3 ?hg (N := 12) ?hd (xs := ([-1] : List Int)) (inner := [.int .i64 (-1)]) (ok := fun _ => True) (okp := fun _ => True) ?hr ?hp (fun _ hk => hk) trivial (Below.refl _ _) (Nat.le_refl _) (by simp) ?_; (case hd => rfl); (case hg => rfl); (case hr => go_simp <;> rfl); (case hp => exact (Reps.one (show Kd.M (Kd.int .i64) _ _ _ (-1) [.int .i64 (-1)] from rfl) (Reps.none _ _))); intro v12 w12 ho hb hg_ hnew_; clear hg_ hnew_; obtain ⟨A12, c12, rfl⟩ := Kd.R_slice ho; have HL := ak_ ho; have HBS := ak_ (Kd.R_lt (Kd.R_below (Kd.pR HS.out) hb) bs rfl : bs < w12.heap.size); replace BK2 := ak_ (blk_below (pk BK2.out) hb); replace HB := ak_ (bs_ (bb_ HB.out) hb); replace HS := ak_ (Kd.R_below (Kd.pR HS.out) hb); replace BX := ak_ (blk_below (pk BX.out) hb); clear hb ho; have hq2_0 := (blk_cell BK2.out 0); have hq2_1 := (blk_cell BK2.out 1); simp at hq2_0; simp at hq2_1) | (go_at_call 99; refine (A1.out _ A12 c12 (Kd.R_reads' HL.out).2.2 (Kd.R_reads' HL.out).2.1).mono ?_; rintro e w15 ⟨v15, rfl, ho, hb⟩; obtain ⟨gd, cd, rfl, hgb, hgl, -⟩ := Kd.R_form ho (by have := HN.out; have := HDL.out; omega); have HGD := ak_ (And.intro (Nat.lt_of_lt_of_le HBS.out hgb : bs < gd) (And.intro hgl (Nat.le_trans (bz_ (bb_ HB.out)) hgb : w.heap.size ≤ gd))); have HD := ak_ (Kd.R_lower (Kd.R_mono (Kd.R_tight rfl ho) (ok' := fun k => k = gd) (fun k hk => (by simpa [Value.ownBlock] using hk))) (bz_ (bb_ HB.out))); rw [← HDL.out] at HD; clear hgb hgl ho HL HBS; replace BK2 := ak_ (blk_below (pk BK2.out) hb); replace HB := ak_ (bs_ (bb_ HB.out) hb); replace HS := ak_ (Kd.R_below (Kd.pR HS.out) hb); replace BX := ak_ (blk_below (pk BX.out) hb); clear hb; have hq2_0 := (blk_cell BK2.out 0); have hq2_1 := (blk_cell BK2.out 1); simp at hq2_0; simp at hq2_1; rw [← HDL.out]))
 have HW := ak_ (fr_lit (ok := fun k => k ≠ gd) (Kd.R_mono (Kd.R_tight rfl (Kd.pR HS.out)) (ok' := fun k => k ≠ gd) (fun k hk => (by have e_ := fr_own hk; have := HGD.out; omega))) (fun _ hk => hk) (Nat.ne_of_gt HGD.out.2.1) (bz_ (bb_ HB.out)))
 clear HS
 go_loopg [6, 7] k (fun gg v6 v7 wr => ∃ (d : Nat) (dist : List Int) (ww : List (List Int)) (gw cw : Nat), v6 = .slice (some ⟨gw, 0, none⟩) ww.length cw ∧ v7 = .int .i64 (d : Int) ∧ Aside0 (frRun E N gg d 0 dist ww = some r) ∧ Aside0 (dist.length = DL) ∧ Aside0 (Kd.R (Kd.int .i64) 3 wr w.heap.size (fun k => k = gd) (.slice (some ⟨gd, 0, none⟩) DL cd) dist) ∧ Aside0 (Kd.S (Kd.slice 3 (Kd.int .i64)) 22 wr w.heap.size (fun k => k ≠ gd) (.slice (some ⟨gw, 0, none⟩) ww.length cw) ww) ∧ Aside0 (wr.heap[gb2]? = some (.cells #[.int .i64 N, .func (.func fo) #[] cb] 67 (0, 0))) ∧ Aside0 (wr.heap[gx]? = some (.cells cx 67 (0, 0))) ∧ Aside0 (Below w.heap.size w wr))
 case atStart => exact ⟨0, dist, [starts], w15.heap.size, 1, rfl, rfl, H, ⟨HDL.out.symm⟩, ⟨Kd.pR HD.out⟩, ⟨HW.out⟩, ⟨pk BK2.out⟩, ⟨pk BX.out⟩, ⟨(bb_ HB.out)⟩⟩
 case round =>
  clear H HDL HD HW BK2 BX HB
  obtain ⟨d, dist, ww, gw, cw, rfl, rfl, H, HL, HD, HW, BK2, BX, HB⟩ := hrel
  cases gk with
  | zero => exact absurd H.out (by simp [frRun])
  | succ m =>
   by_cases hd : d < ww.length
   ·have q1 : decide ((d : Int) < (ww.length : Int)) = true := decide_eq_true (by omega)
    have q1n : decide (d < ww.length) = true := decide_eq_true hd
    have HDW := ak_ hd
    clear hd
    go_wp2
    go_loopg [6, 8] (m + 1) (fun gg v6 v8 wr => ∃ (i : Nat) (dist : List Int) (ww : List (List Int)) (gw cw : Nat), v6 = .slice (some ⟨gw, 0, none⟩) ww.length cw ∧ v8 = .int .i64 (i : Int) ∧ Aside0 (gg ≤ m + 1) ∧ Aside0 (frRun E N gg d i dist ww = some r) ∧ Aside0 (dist.length = DL) ∧ Aside0 (d < ww.length) ∧ Aside0 (Kd.R (Kd.int .i64) 3 wr w.heap.size (fun k => k = gd) (.slice (some ⟨gd, 0, none⟩) DL cd) dist) ∧ Aside0 (Kd.S (Kd.slice 3 (Kd.int .i64)) 22 wr w.heap.size (fun k => k ≠ gd) (.slice (some ⟨gw, 0, none⟩) ww.length cw) ww) ∧ Aside0 (wr.heap[gb2]? = some (.cells #[.int .i64 N, .func (.func fo) #[] cb] 67 (0, 0))) ∧ Aside0 (wr.heap[gx]? = some (.cells cx 67 (0, 0))) ∧ Aside0 (Below w.heap.size w wr))
    case atStart => exact ⟨0, dist, ww, gw, cw, rfl, rfl, ⟨Nat.le_refl _⟩, H, HL, HDW, ⟨Kd.pR HD.out⟩, ⟨Kd.pS HW.out⟩, ⟨pk BK2.out⟩, ⟨pk BX.out⟩, ⟨(bb_ HB.out)⟩⟩
    case round =>
     clear H HL HD HW BK2 BX HB HDW q1 q1n
     obtain ⟨i, dist, ww, gw, cw, rfl, rfl, HM, H, HL, HDW, HD, HW, BK2, BX, HB⟩ := hrel
     cases gk with
     | zero => exact absurd H.out (by simp [frRun])
     | succ m2 =>
      have h := H.out
      simp only [frRun] at h
      rw [if_pos HDW.out] at h
      obtain ⟨vi, oki, hcell, hfrz, hRi, hok, hH⟩ := fr_lend HW.out (d : Int) (by omega) (by have := HDW.out; omega)
      rw [Int.toNat_natCast] at hcell hfrz hRi
      have d0 : (0 : Int) ≤ (d : Int) := by omega
      have d1 : (d : Int) < (ww.length : Int) := by have := HDW.out; omega
      replace d0 := eq_true d0
      replace d1 := eq_true d1
      obtain ⟨row, hrow⟩ : ∃ row, row = ww.getD d [] := ⟨_, rfl⟩
      rw [← hrow] at h hRi
      have HROW := ak_ hrow
      clear hok hH hfrz hrow
      by_cases hi : i < row.length
      ·obtain ⟨b, ci, rfl, -, -, -⟩ := Kd.R_form hRi (by omega)
       obtain ⟨hx, -⟩ := Kd.R_celln 0 hRi (i : Int) (by omega) (by omega)
       rw [Int.toNat_natCast] at hx
       rw [if_pos hi] at h
       obtain ⟨s, hs⟩ : ∃ s, s = rdOf 0 row (i : Int) := ⟨_, rfl⟩
       rw [← hs] at h hx
       by_cases hc : 0 ≤ s ∧ s < N ∧ i < 1000000 ∧ d < 1000000 ∧ (E s).length < 1000000
       rotate_left
       ·rw [if_neg hc] at h; exact absurd h (by simp)
       rw [if_pos hc] at h
       have i1 : decide ((i : Int) < (row.length : Int)) = true := decide_eq_true (by omega)
       have i1n : decide (i < row.length) = true := decide_eq_true hi
       have i0 : ((0 : Int) ≤ (i : Int)) = True := eq_true (by omega)
       have i1p : ((i : Int) < (row.length : Int)) = True := eq_true (by omega)
       have s0 : ((0 : Int) ≤ s) = True := eq_true hc.1
       have s1 : (s < (DL : Int)) = True := eq_true (by have := HN.out; omega)
       obtain ⟨hxs, hfs⟩ := Kd.R_celln 0 HD.out s hc.1 (by have := HN.out; omega)
       have hw8 : IntKind.i64.wrap ((i : Int) + 1) = ((i + 1 : Nat) : Int) := by rw [IntWalk.i64_in _ ⟨by omega, by omega⟩]; omega
       have HC := ak_ hc
       clear hi hc hs hRi
       by_cases hv : rdOf 0 dist s ≥ 0
       ·have v1 : decide (rdOf 0 dist s ≥ 0) = true := decide_eq_true hv
        have v2 : decide (0 ≤ rdOf 0 dist s) = true := decide_eq_true hv
        rw [if_pos hv] at h
        have H2 := ak_ h
        clear h hv H
        go_wp2
        go_roundg m2
        case measure => omega
        case rel => exact ⟨i + 1, dist, ww, gw, cw, rfl, (by first | rfl | (simp; done)), ⟨by have := HM.out; omega⟩, H2, HL, HDW, ⟨Kd.pR HD.out⟩, ⟨Kd.pS HW.out⟩, ⟨pk BK2.out⟩, ⟨pk BX.out⟩, ⟨(bb_ HB.out)⟩⟩
       ·have v1 : decide (rdOf 0 dist s ≥ 0) = false := decide_eq_false hv
        have v2 : decide (0 ≤ rdOf 0 dist s) = false := decide_eq_false hv
        rw [if_neg hv] at h
        obtain ⟨wf, h1, h2⟩ := Option.bind_eq_some_iff.mp h
        have H1 := ak_ h1
        have H2 := ak_ h2
        have hput := Kd.R_putg HD.out s (d : Int)
        have HPUT := ak_ hput
        obtain ⟨dist2, hd2⟩ : ∃ dist2, dist2 = dist.set s.toNat (d : Int) := ⟨_, rfl⟩
        have hL2 : dist2.length = DL := by rw [hd2, List.length_set]; exact HL.out
        rw [← hd2] at H1 H2 HPUT
        have HL2 := ak_ hL2
        clear h h1 h2 hv H hput hd2 hL2
        go_upto_region 11 with (fail)
        generalize hw : wr.setCell ⟨gd, s.toNat, none⟩ (.int .i64 (d : Int)) = w10
        have hg : wr.grownBy w10 (some gd) := (by rw [← hw]; exact HPUT.out.2)
        replace BK2 := ak_ (blk_grown BK2.out hg (Kd.R_ne HD.out BK2.out (by decide))); replace HW := ak_ (Kd.S_grown HW.out hg (fun k hk e => hk (Option.some.inj e))); replace HB := ak_ ((show Below w.heap.size w w10 from (by rw [← hw]; exact below_set HB.out HGD.out.2.2))); replace BX := ak_ (blk_grown BX.out hg (Kd.R_ne HD.out BX.out (by decide))); replace HD := ak_ ((show Kd.R (Kd.int .i64) 3 w10 w.heap.size (fun k => k = gd) (.slice (some ⟨gd, 0, none⟩) DL cd) dist2 from (by rw [← hw]; exact HPUT.out.1))); clear hg hw HPUT
        clear hcell hx hxs hfs
        have hc2_0 := (blk_cell BK2.out 0)
        have hc2_1 := (blk_cell BK2.out 1)
        simp at hc2_0
        simp at hc2_1
        go_wp2_with (go_at_fn fo; refine (HE.out _ s (bb_ HB.out) HC.out.1 HC.out.2.1).mono ?_; rintro e w11 ⟨v11, rfl, ho, hb⟩; obtain ⟨Ae, ce, rfl⟩ := Kd.S_slice ho; have HED := ak_ (frEd_of ho); replace BK2 := ak_ (blk_below (pk BK2.out) hb); replace HW := ak_ (Kd.S_below (Kd.pS HW.out) hb); replace HB := ak_ (bs_ (bb_ HB.out) hb); replace HD := ak_ (Kd.R_below (Kd.pR HD.out) hb); replace BX := ak_ (blk_below (pk BX.out) hb); clear hb ho)
        go_loopg [6, 54] (E s).length (fun gg v6 v54 wr2 => ∃ (j : Nat) (w1 : List (List Int)) (gw cw : Nat), v6 = .slice (some ⟨gw, 0, none⟩) w1.length cw ∧ v54 = .int .i64 (j : Int) ∧ Aside0 (j ≤ (E s).length ∧ (E s).length - j ≤ gg) ∧ Aside0 (frEdges d dist2 ((E s).drop j) w1 = some wf) ∧ Aside0 (d < w1.length) ∧ Aside0 (Kd.R (Kd.int .i64) 3 wr2 w.heap.size (fun k => k = gd) (.slice (some ⟨gd, 0, none⟩) DL cd) dist2) ∧ Aside0 (Kd.S (Kd.slice 3 (Kd.int .i64)) 22 wr2 w.heap.size (fun k => k ≠ gd) (.slice (some ⟨gw, 0, none⟩) w1.length cw) w1) ∧ Aside0 (frEd wr2 Ae (E s)) ∧ Aside0 (wr2.heap[gb2]? = some (.cells #[.int .i64 N, .func (.func fo) #[] cb] 67 (0, 0))) ∧ Aside0 (wr2.heap[gx]? = some (.cells cx 67 (0, 0))) ∧ Aside0 (Below w.heap.size w wr2))
        case atStart => exact ⟨0, ww, gw, cw, rfl, rfl, ⟨⟨Nat.zero_le _, Nat.le_refl _⟩⟩, H1, HDW, ⟨Kd.pR HD.out⟩, ⟨Kd.pS HW.out⟩, ⟨HED.out⟩, ⟨pk BK2.out⟩, ⟨pk BX.out⟩, ⟨(bb_ HB.out)⟩⟩
        case round =>
         clear H1 HDW HD HW HED BK2 BX HB
         obtain ⟨j, w1, gw, cw, rfl, rfl, HJ, H1, HDW, HD, HW, HED, BK2, BX, HB⟩ := hrel
         have hL2 := HL2.out
         by_cases hj : j < (E s).length
         ·have j1 : decide ((j : Int) < ((E s).length : Int)) = true := decide_eq_true (by omega)
          have j1n : decide (j < (E s).length) = true := decide_eq_true hj
          have j0p : ((0 : Int) ≤ (j : Int)) = True := eq_true (by omega)
          have j1p : ((j : Int) < ((E s).length : Int)) = True := eq_true (by omega)
          rcases HED.out with h0 | ⟨ge, cl, rfl, hbe, hcl⟩
          ·exact absurd h0 (by omega)
          have BKE := ak_ hbe
          have HCL := ak_ hcl
          obtain ⟨A2, n2, c2, he0, he1, he2⟩ := hcl (j : Int) (by omega) (by omega)
          rw [Int.toNat_natCast] at he0 he1 he2
          rw [← blk_cell hbe] at he0 he1 he2
          obtain ⟨e, he⟩ : ∃ e, e = rd_T90 (E s) (j : Int) := ⟨_, rfl⟩
          rw [← he] at he0 he1
          have h := H1.out
          rw [List.drop_eq_getElem_cons hj, show (E s)[j] = e from by rw [he]; unfold rd_T90; rw [Int.toNat_natCast, List.getD_eq_getElem?_getD, List.getElem?_eq_getElem hj]; rfl] at h
          simp only [frEdges] at h
          have HE1 := ak_ he
          clear hbe hcl he H1 HED
          by_cases hc : 0 ≤ e.f0 ∧ e.f0 < (dist2.length : Int)
          rotate_left
          ·rw [if_neg hc] at h; exact absurd h (by simp)
          rw [if_pos hc] at h
          rw [hL2] at hc
          obtain ⟨hxt, -⟩ := Kd.R_celln 0 HD.out e.f0 hc.1 (by omega)
          have t0 := eq_true hc.1
          have t1 := eq_true hc.2
          have hw54 : IntKind.i64.wrap ((j : Int) + 1) = ((j + 1 : Nat) : Int) := by have := HC.out; rw [IntWalk.i64_in _ ⟨by omega, by omega⟩]; omega
          clear hc
          have HJJ := ak_ hj
          clear hj
          go_upto_region 14 with (fail)
          obtain ⟨w14, hw14⟩ : ∃ W, W = wr.alloc (.cells #[.int .i64 e.f0, .int .i64 e.f1, .slice A2 n2 c2] 90) := ⟨_, rfl⟩
          have hb : Below wr.heap.size wr w14 := (by rw [hw14]; exact ba_ (Below.refl _ _) _)
          have hbk : w14.heap[wr.heap.size]? = some (.cells #[.int .i64 e.f0, .int .i64 e.f1, .slice A2 n2 c2] 90 (0, 0)) := (by rw [hw14]; exact blk_new wr _)
          have hgw : w.heap.size ≤ wr.heap.size := bz_ HB.out
          rw [← hw14]
          clear hw14 he0 he1 he2 hxt
          replace BK2 := ak_ (blk_below BK2.out hb); replace BKE := ak_ (blk_below BKE.out hb); replace HW := ak_ (Kd.S_below HW.out hb); replace HD := ak_ (Kd.R_below HD.out hb); replace HB := ak_ (bs_ HB.out hb); replace BX := ak_ (blk_below BX.out hb); clear hb
          obtain ⟨gb11, hg11⟩ : ∃ g, g = wr.heap.size := ⟨_, rfl⟩
          rw [← hg11] at hbk ⊢
          have BK11 := ak_ hbk
          clear hbk hg11 hgw
          have hz0 := (blk_cell BK11.out 0)
          have hz1 := (blk_cell BK11.out 1)
          simp at hz0
          simp at hz1
          obtain ⟨hxt, -⟩ := Kd.R_celln 0 HD.out e.f0 (of_eq_true t0) (by have := of_eq_true t1; omega)
          by_cases hv : rdOf 0 dist2 e.f0 ≥ 0
          ·have v1 : decide (rdOf 0 dist2 e.f0 ≥ 0) = true := decide_eq_true hv
           have v2 : decide (0 ≤ rdOf 0 dist2 e.f0) = true := decide_eq_true hv
           rw [if_pos hv] at h
           have H1 := ak_ h
           clear h hv
           go_wp2
           go_roundg ((E s).length - (j + 1))
           case measure => have := HJ.out; have := HJJ.out; omega
           case rel => exact ⟨j + 1, w1, gw, cw, rfl, (by first | rfl | (simp; done)), ⟨⟨by have := HJJ.out; omega, Nat.le_refl _⟩⟩, H1, HDW, ⟨Kd.pR HD.out⟩, ⟨Kd.pS HW.out⟩, ⟨.inr ⟨ge, cl, rfl, pk BKE.out, HCL.out⟩⟩, ⟨pk BK2.out⟩, ⟨pk BX.out⟩, ⟨(bb_ HB.out)⟩⟩
          ·have v1 : decide (rdOf 0 dist2 e.f0 ≥ 0) = false := decide_eq_false hv
           have v2 : decide (0 ≤ rdOf 0 dist2 e.f0) = false := decide_eq_false hv
           rw [if_neg hv] at h
           by_cases hc : 1 ≤ e.f1 ∧ (d : Int) + e.f1 < 1000000 ∧ ((frPad (d + e.f1.toNat) w1).getD (d + e.f1.toNat) []).length < 1000000 ∧ w1.length < 1000000
           rotate_left
           ·rw [if_neg hc] at h; exact absurd h (by simp)
           rw [if_pos hc] at h
           obtain ⟨q, hq⟩ : ∃ q, q = d + e.f1.toNat := ⟨_, rfl⟩
           rw [← hq] at h hc
           have hqi : (d : Int) + e.f1 = (q : Int) := by omega
           have hwq : IntKind.i64.wrap ((d : Int) + e.f1) = (q : Int) := by rw [hqi]; exact IntWalk.i64_in _ ⟨by omega, by omega⟩
           have H1 := ak_ h
           have HC2 := ak_ (And.intro (by omega : q < 1000000) (And.intro hc.2.2.1 hc.2.2.2))
           clear h hv hc hq hqi
           go_wp2
           go_loopg [6] (q + 1) (fun gg v6 wr3 => ∃ (t : Nat) (w2 : List (List Int)) (gw cw : Nat), v6 = .slice (some ⟨gw, 0, none⟩) w2.length cw ∧ Aside0 (w2 = w1 ++ List.replicate t [] ∧ (t = 0 ∨ w2.length ≤ q + 1) ∧ q + 1 - w2.length ≤ gg) ∧ Aside0 (Kd.R (Kd.int .i64) 3 wr3 w.heap.size (fun k => k = gd) (.slice (some ⟨gd, 0, none⟩) DL cd) dist2) ∧ Aside0 (Kd.S (Kd.slice 3 (Kd.int .i64)) 22 wr3 w.heap.size (fun k => k ≠ gd) (.slice (some ⟨gw, 0, none⟩) w2.length cw) w2) ∧ Aside0 (wr3.heap[ge]? = some (.cells cl 90 (0, 0))) ∧ Aside0 (wr3.heap[gb11]? = some (.cells #[.int .i64 e.f0, .int .i64 e.f1, .slice A2 n2 c2] 90 (0, 0))) ∧ Aside0 (wr3.heap[gb2]? = some (.cells #[.int .i64 N, .func (.func fo) #[] cb] 67 (0, 0))) ∧ Aside0 (wr3.heap[gx]? = some (.cells cx 67 (0, 0))) ∧ Aside0 (Below w.heap.size w wr3))
           case atStart => exact ⟨0, w1, gw, cw, rfl, ⟨⟨by simp, .inl rfl, by omega⟩⟩, ⟨Kd.pR HD.out⟩, ⟨Kd.pS HW.out⟩, ⟨pk BKE.out⟩, ⟨pk BK11.out⟩, ⟨pk BK2.out⟩, ⟨pk BX.out⟩, ⟨(bb_ HB.out)⟩⟩
           case round =>
            clear HD HW BKE BK11 BK2 BX HB hz0 hz1 hxt
            obtain ⟨t, w2, gw, cw, rfl, HT, HD, HW, BKE, BK11, BK2, BX, HB⟩ := hrel
            have hz0 := (blk_cell BK11.out 0)
            have hz1 := (blk_cell BK11.out 1)
            simp at hz0
            simp at hz1
            by_cases hl : w2.length ≤ q
            ·have l1 : decide ((w2.length : Int) ≤ (q : Int)) = true := decide_eq_true (by omega)
             have l1n : decide (w2.length ≤ q) = true := decide_eq_true hl
             have HLQ := ak_ hl
             clear hl
             go_wp2_with ((with_reducible refine gate_builtin (b := .append) (xs := #[.tmp 71, .tmp 72]) rfl ?_); at_builtin; refine Kd.S_append (Kd.slice 3 (Kd.int .i64)) (w0 := w) w.heap.size rfl (.tmp 71) (.tmp 72) 57 22 (.slice none 0 0) 24 rfl Try.underlying57 info22 rfl (by decide) (by omega) (.slice (some ⟨gw, 0, none⟩) w2.length cw) w2 [] [.slice none 0 0] (fun k => k ≠ gd) (fun _ => False) rfl rfl ?aP (fun _ hk => hk.elim) ?aF ?aO ?aB ?aS ?aL ?_; (case aP => exact ⟨.slice none 0 0, rfl, Kd.R_nil _ _ _ _ _⟩); (case aB => exact (bb_ HB.out)); (case aF => exact (fun k hk => by have h_ := Kd.R_lt HD.out gd rfl; omega)); (case aO => exact Kd.S_mono (Kd.pS HW.out) (fun k hk => ⟨hk, fun h => h⟩)); (case aS => exact bz_ (bb_ HB.out)); (case aL => have := HLQ.out; have := HC2.out; omega); intro v73 w73 ho hb hg hat; obtain ⟨gw3, cw3, rfl, -, -, -⟩ := Kd.S_form ho (by simp); replace BK2 := ak_ (blk_grown (pk BK2.out) hg (Kd.S_ne HW.out BK2.out (by decide))); replace BKE := ak_ (blk_grown (pk BKE.out) hg (Kd.S_ne HW.out BKE.out (by decide))); replace BK11 := ak_ (blk_grown (pk BK11.out) hg (Kd.S_ne HW.out BK11.out (by decide))); replace HD := ak_ (Kd.R_grown (Kd.pR HD.out) hg (fun k hk => by rw [hk]; exact Kd.S_away HW.out (fun k hk => hk))); replace HB := ak_ (hb); replace BX := ak_ (blk_grown (pk BX.out) hg (Kd.S_ne HW.out BX.out (by decide))); replace HW := ak_ (ho); clear hg hat)
             go_roundg (q + 1 - (w2.length + 1))
             case measure => have := HT.out; have := HLQ.out; omega
             case rel => exact ⟨t + 1, w2 ++ [[]], gw3, cw3, (by rw [List.length_append]; rfl), ⟨⟨by rw [HT.out.1, List.append_assoc, ← List.replicate_succ'], .inr (by have := HLQ.out; rw [List.length_append, List.length_singleton]; omega), by rw [List.length_append, List.length_singleton]; omega⟩⟩, ⟨Kd.pR HD.out⟩, ⟨Kd.pS HW.out⟩, ⟨pk BKE.out⟩, ⟨pk BK11.out⟩, ⟨pk BK2.out⟩, ⟨pk BX.out⟩, ⟨(bb_ HB.out)⟩⟩
            ·have l1 : decide ((w2.length : Int) ≤ (q : Int)) = false := decide_eq_false (by omega)
             have l1n : decide (w2.length ≤ q) = false := decide_eq_false hl
             have hw2 : w2 = frPad q w1 := frPad_of HT.out.1 (by have := HT.out.2.1; omega) (by omega)
             have HW2 := ak_ hw2
             have q0 : ((0 : Int) ≤ (q : Int)) = True := eq_true (by omega)
             have q1p : ((q : Int) < (w2.length : Int)) = True := eq_true (by omega)
             have q1d : decide ((q : Int) < (w2.length : Int)) = true := decide_eq_true (by omega)
             have HQ := ak_ (by omega : q < w2.length)
             clear hl hw2
             go_upto_region 17 with (fail)
             try go_wp2
             replace BK2 := ak_ (k1_ BK2.out); replace BKE := ak_ (k1_ BKE.out); replace BK11 := ak_ (k1_ BK11.out); replace HD := ak_ (Kd.R_drew HD.out); replace HW := ak_ (Kd.S_drew HW.out); replace HB := ak_ (b1_ HB.out); replace BX := ak_ (k1_ BX.out)
             obtain ⟨vi, oki, hcell, hfrz, hRi, hok, hH⟩ := fr_lend HW.out (q : Int) (by omega) (by have := HQ.out; omega)
             rw [Int.toNat_natCast] at hcell hfrz hRi
             have NEK := ak_ (And.intro (Kd.S_ne HW.out BKE.out (by decide)) (Kd.S_ne HW.out BK2.out (by decide)))
             have NEX := ak_ (Kd.S_ne HW.out BX.out (by decide))
             have HOK := ak_ hok
             have HH := ak_ hH
             have HRI := ak_ hRi
             clear hok hH hfrz hRi HW
             have HCE := ak_ hcell
             clear hcell hz0 hz1
             refine start_ (n := 18) (S := fun w' => w'.cell? ⟨gb11, 0, none⟩ = some (.int .i64 e.f0) ∧ w'.cell? ⟨gb11, 1, none⟩ = some (.int .i64 e.f1) ∧ w'.cell? ⟨gw, q, none⟩ = some vi) (ds := [17]) (mb_ 18 0) (by kernel_rfl) rfl rfl ⟨(blk_cell BK11.out 0).trans rfl, (blk_cell BK11.out 1).trans rfl, HCE.out⟩ (fun hHeld => ?_); refine with_tabW impl_graph_int_from.T17_ impl_graph_int_from.B17_ (fun HT_ HW_ => ?_)
             generalize wr.drew = w9 at HD BKE BK11 BK2 BX HB HCE HH HRI hHeld ⊢
             refine pu_ 0 74 18 1 ?_
             refine pu_ 1 75 18 3 ?_
             refine pu_ 2 76 18 7 ?_
             refine tk_ 3 77 18 15 ?_ (hy := by rintro w' ⟨s0, s1, s2⟩; go_simp; with_reducible rfl)
             refine pu_ 4 78 18 31 ?_
             refine pu_ 5 79 18 63 ?_
             refine pu_ 6 80 18 127 ?_
             refine pu_ 7 81 18 255 ?_
             refine tk_ 8 82 18 511 ?_ (hy := by rintro w' ⟨s0, s1, s2⟩; go_simp; with_reducible rfl)
             refine pu_ 9 83 18 1023 ?_
             refine pu_ 10 84 18 2047 ?_
             refine tk_ 11 85 18 4095 ?_ (hy := by rintro w' ⟨s0, s1, s2⟩; go_simp; with_reducible rfl)
             refine pu_ 12 86 18 8191 ?_
             refine tk_ 13 87 18 16383 ?_ (hy := by rintro w' ⟨s0, s1, s2⟩; go_simp; with_reducible rfl)
             refine on_ 14 88 18 32767 (fun K hK => ?_)
             refine Kd.R_lit_step (Kd.int .i64) _ 3 ?hg (N := 88) ?hd (xs := [e.f0]) (inner := [.int .i64 e.f0]) (ok := fun _ => True) (okp := fun _ => True) ?hr ?hp (fun _ hk => hk) trivial (Below.refl _ _) (Nat.le_refl _) (by simp) ?_; (case hd => rfl); (case hg => rfl); (case hr => go_simp <;> rfl); (case hp => exact (Reps.one (show Kd.M (Kd.int .i64) _ _ _ e.f0 [.int .i64 e.f0] from rfl) (Reps.none _ _)))
             intro s2 w10 ho0 hb0 hg_ hnew_
             clear hg_ hnew_
             obtain ⟨AL, cL, rfl⟩ := Kd.R_slice ho0
             have HLIT := ak_ (Kd.R_reads' ho0).2.2
             replace BK2 := ak_ (blk_below BK2.out hb0); replace BKE := ak_ (blk_below BKE.out hb0); replace BK11 := ak_ (blk_below BK11.out hb0); replace HD := ak_ (Kd.R_below HD.out hb0); replace HB := ak_ (bs_ HB.out hb0); replace HCE := ak_ (pw_cell_below hb0 HCE.out); replace HH := ak_ (Kd.H_below HH.out hb0); replace HRI := ak_ (Kd.R_below HRI.out hb0); replace BX := ak_ (blk_below BX.out hb0); clear hb0 ho0
             refine hK.out _ _ ⟨(blk_cell BK11.out 0).trans rfl, (blk_cell BK11.out 1).trans rfl, HCE.out⟩ (fun hHeld => ?_)
             clear hK K
             refine nm_ ?_
             refine on_ 15 89 18 65535 (fun K hK => ?_)
             refine Kd.R_append_rows_step (Kd.int .i64) (w0 := w) w.heap.size (by rfl) (.tmp 85) (.tmp 88) 22 3 (.int .i64 0) 8 rfl Try.underlying22 info3 rfl (by decide) (by omega) vi (w2.getD q []) [e.f0] AL 1 cL (fun _ => True) (fun _ => False) rfl rfl ?aO ?aR (fun _ _ h => h) (fun _ h => h.elim) ?aF ?aB ?aS ?aL ?_
             (case aO => exact Kd.R_mono HRI.out (fun _ _ => trivial))
             (case aR => exact HLIT.out)
             (case aB => exact HB.out)
             (case aF => exact (fun _ _ => trivial))
             (case aS => exact bz_ HB.out)
             (case aL => have := HC2.out.2.1; rw [← HW2.out] at this; omega)
             intro v3 w11 ho hb hg hat
             obtain ⟨A3, c3, rfl⟩ := Kd.R_slice ho
             generalize (w2.getD q [] ++ [e.f0]).length = n3 at ho hg hat ⊢
             have HD2 := ak_ HD.out
             have HN3 := ak_ ho
             have HGR := ak_ (And.intro hg hat)
             have hat_ := Kd.H_at (Kd.H_grown (Kd.H_widen HH.out) hg (fun k hk => .inl (HRI.out.1 k hk))) (by omega) (by have := HQ.out; omega)
             have hce_ : w11.cell? ⟨gw, q, none⟩ = some vi := (by have h_ := hat_.1 0 vi rfl; rw [Int.toNat_natCast, show q * (Kd.slice 3 (Kd.int .i64)).sz + 0 = q from (by show q * 1 + 0 = q; omega)] at h_; exact h_)
             have hfr_ : w11.frozen? ⟨gw, q, none⟩ = false := (by have h_ := hat_.2 0; rw [Int.toNat_natCast, show q * (Kd.slice 3 (Kd.int .i64)).sz + 0 = q from (by show q * 1 + 0 = q; omega)] at h_; exact h_)
             replace BK2 := ak_ (blk_grown BK2.out hg (Kd.R_ne HRI.out BK2.out (by decide))); replace BKE := ak_ (blk_grown BKE.out hg (Kd.R_ne HRI.out BKE.out (by decide))); replace BK11 := ak_ (blk_grown BK11.out hg (Kd.R_ne HRI.out BK11.out (by decide))); replace HD := ak_ (Kd.R_grown HD.out hg (fun k hk e_ => (HOK.out k (HRI.out.1 k e_.symm)).1 hk)); replace HB := ak_ (hb); replace HCE := ak_ (hce_); replace BX := ak_ (blk_grown BX.out hg (Kd.R_ne HRI.out BX.out (by decide))); clear hg hat ho hat_ hce_
             have HFR := ak_ hfr_
             clear hfr_
             refine hK.out _ _ ⟨(blk_cell BK11.out 0).trans rfl, (blk_cell BK11.out 1).trans rfl, HCE.out⟩ (fun hHeld => ?_)
             clear hK K
             refine nm_ ?_
             refine pu_ 16 90 18 131071 ?_
             refine last_ (i := 17) (N := none) (mb_ 18 262143) rfl rfl (one_of HT_.out (by kernel_rfl)) (by decide) (fun K hK => ?_)
             have hs_ := HCE.out
             have hf_ := HFR.out
             refine skip_ (w1 := ?_) (by rfl) rfl ?_ ?_
             rotate_left
             ·go_simp
              rfl
             refine hK.out _ _ ?_
             clear hK K
             refine done_ (done_of HT_.out (by kernel_rfl)) ?_
             try go_wp2
             have hB_ := fr_back HH.out (by omega) (by have := HQ.out; omega) (by have := Kd.R_lt HD2.out gd rfl; omega) HRI.out HGR.out.1 HGR.out.2 HN3.out
             rw [Int.toNat_natCast] at hB_
             have HBK := ak_ hB_
             clear hB_
             go_roundg ((E s).length - (j + 1))
             case measure => have := HJ.out; have := HJJ.out; omega
             case rel => exact ⟨j + 1, w2.set q (w2.getD q [] ++ [e.f0]), gw, cw, (by rw [List.length_set]), (by first | rfl | (simp; done)), ⟨⟨by have := HJJ.out; omega, Nat.le_refl _⟩⟩, ⟨by rw [HW2.out]; exact H1.out⟩, ⟨by rw [List.length_set, HW2.out]; exact Nat.lt_of_lt_of_le HDW.out (frPad_len q w1)⟩, ⟨Kd.R_grown HD.out HBK.out.2 (fun k hk => by rw [hk]; exact Kd.S_away HBK.out.1 (fun k hk => hk))⟩, ⟨by rw [List.length_set]; exact HBK.out.1⟩, ⟨.inr ⟨ge, cl, rfl, blk_grown BKE.out HBK.out.2 NEK.out.1, HCL.out⟩⟩, ⟨blk_grown BK2.out HBK.out.2 NEK.out.2⟩, ⟨blk_grown BX.out HBK.out.2 NEX.out⟩, ⟨fr_below HB.out HBK.out.2 (Kd.S_base HBK.out.1 gw rfl)⟩⟩
         ·have j1 : decide ((j : Int) < ((E s).length : Int)) = false := decide_eq_false (by omega)
          have j1n : decide (j < (E s).length) = false := decide_eq_false hj
          have h := H1.out
          rw [List.drop_of_length_le (by omega)] at h
          obtain rfl := Option.some.inj (show some w1 = some wf from h)
          clear h H1 hj
          go_wp2
          go_roundg m2
          case measure => omega
          case rel => exact ⟨i + 1, _, w1, gw, cw, rfl, (by first | rfl | (simp; done)), ⟨by have := HM.out; omega⟩, H2, HL2, HDW, ⟨Kd.pR HD.out⟩, ⟨Kd.pS HW.out⟩, ⟨pk BK2.out⟩, ⟨pk BX.out⟩, ⟨(bb_ HB.out)⟩⟩
      ·have i1 : decide ((i : Int) < (row.length : Int)) = false := decide_eq_false (by omega)
       have i1n : decide (i < row.length) = false := decide_eq_false hi
       rw [if_neg hi] at h
       by_cases hd2 : d < 1000000
       rotate_left
       ·rw [if_neg hd2] at h; exact absurd h (by simp)
       rw [if_pos hd2] at h
       have hw7 : IntKind.i64.wrap ((d : Int) + 1) = ((d + 1 : Nat) : Int) := by rw [IntWalk.i64_in _ ⟨by omega, by omega⟩]; omega
       obtain ⟨Ai, ci, rfl⟩ := Kd.R_slice hRi
       have H2 := ak_ h
       clear h hi hd2 H hRi
       go_wp2
       go_roundg m2
       case measure => have := HM.out; omega
       case rel => exact ⟨d + 1, dist, ww, gw, cw, rfl, (by first | rfl | (simp; done)), H2, HL, ⟨Kd.pR HD.out⟩, ⟨Kd.pS HW.out⟩, ⟨pk BK2.out⟩, ⟨pk BX.out⟩, ⟨(bb_ HB.out)⟩⟩
   ·have q1 : decide ((d : Int) < (ww.length : Int)) = false := decide_eq_false (by omega)
    have q1n : decide (d < ww.length) = false := decide_eq_false hd
    have h := H.out
    simp only [frRun] at h
    rw [if_neg hd] at h
    obtain rfl := Option.some.inj h
    clear h H hd
    go_wp2
    first | go_ret | go_ret2
    exact ⟨_, rfl, Kd.R_mono (Kd.R_below HD.out be_) (fun _ _ => trivial), pk BX.out, (bb_ HB.out)⟩
attribute [local go_sem] run_store_fn_
theorem GOut.up {fo : Nat} {cb : Array Value} {N : Int} {E : Int → List S90} {w w0 : World} (h : GOut fo cb N E w) (hb : Below w.heap.size w w0) : GOut fo cb N E w0 := fun W s hW => h W s (below_then hb hb.size hW)
theorem frRun_congr {E E' : Int → List S90} {N : Int} (h : ∀ s, 0 ≤ s → s < N → E s = E' s) : ∀ k d i dist w, frRun E N k d i dist w = frRun E' N k d i dist w
 | 0, _, _, _, _ => rfl
 | k + 1, d, i, dist, w => by
  rw [frRun.eq_2, frRun.eq_2]
  by_cases hs : 0 ≤ rdOf 0 (w.getD d []) (i : Int) ∧ rdOf 0 (w.getD d []) (i : Int) < N
  ·rw [h _ hs.1 hs.2]
   simp only [frRun_congr h k]
  ·have e1 : ¬ (0 ≤ rdOf 0 (w.getD d []) (i : Int) ∧ rdOf 0 (w.getD d []) (i : Int) < N ∧ i < 1000000 ∧ d < 1000000 ∧ (E (rdOf 0 (w.getD d []) (i : Int))).length < 1000000) := fun hc => hs ⟨hc.1, hc.2.1⟩
   have e2 : ¬ (0 ≤ rdOf 0 (w.getD d []) (i : Int) ∧ rdOf 0 (w.getD d []) (i : Int) < N ∧ i < 1000000 ∧ d < 1000000 ∧ (E' (rdOf 0 (w.getD d []) (i : Int))).length < 1000000) := fun hc => hs ⟨hc.1, hc.2.1⟩
   simp only [if_neg e1, if_neg e2, frRun_congr h k]
def grE (g : Int → Option (List S90)) : Int → List S90 := fun s => (g s).getD []
def grAll (g : Int → Option (List S90)) (N : Int) : Bool := (List.range N.toNat).all fun i => (g (i : Int)).isSome
theorem grAll_at {g : Int → Option (List S90)} {N : Int} (h : grAll g N = true) (s : Int) (s0 : 0 ≤ s) (s1 : s < N) : g s = some (grE g s) := by
 have h2 := List.all_eq_true.1 h s.toNat (List.mem_range.2 (by omega))
 rw [Int.toNat_of_nonneg s0] at h2
 unfold grE
 cases hg : g s with
 | none => rw [hg] at h2; exact absurd h2 (by simp)
 | some r => rfl
theorem grAll_le {g g' : Int → Option (List S90)} {N : Int} (hg : ∀ s, LeO (g s) (g' s)) (h : grAll g N = true) : grAll g' N = true ∧ ∀ s, 0 ≤ s → s < N → grE g s = grE g' s := by
 have h2 : ∀ s, 0 ≤ s → s < N → g' s = some (grE g s) := fun s s0 s1 => hg s _ (grAll_at h s s0 s1)
 refine ⟨List.all_eq_true.2 (fun i hi => ?_), fun s s0 s1 => ?_⟩
 ·rw [h2 i (by omega) (by rw [List.mem_range] at hi; omega)]; rfl
 ·show grE g s = (g' s).getD []
  rw [h2 s s0 s1]; rfl
def frG (g : Int → Option (List S90)) (k : Nat) (N : Int) (starts : List Int) : Option (List Int) := if grAll g N = true then impl_graph_int_from.f (grE g) k N starts else none
theorem GOut.of {fo : Nat} {cb : Array Value} {N : Int} {g : Int → Option (List S90)} {w0 : World} (ha : grAll g N = true)
  (h : ∀ (W : World) (s : Int) (es : List S90), Below w0.heap.size w0 W → g s = some es → Calls Try.prog fo (#[.int .i64 s] ++ cb) W fun e w' => ∃ v : Value, e = .returned v ∧ Kd.S k90 90 w' W.heap.size (fun _ => True) v es ∧ Below W.heap.size W w') : GOut fo cb N (grE g) w0 :=
 fun W s hW s0 s1 => h W s _ hW (grAll_at ha s s0 s1)
theorem gr_typ {W : World} {a b t u : Nat} {cs ds : Array Value} (h : W.heap[a]? = some (.cells cs t (0, 0))) (h2 : W.heap[b]? = some (.cells ds u (0, 0))) (ht : t ≠ u) : a ≠ b := by
 rintro rfl
 rw [h] at h2
 injection h2 with h2
 injection h2 with _ h2
 exact ht h2
def ngEnd (n j : Nat) : Int := wrap64 (wrap64 (((j : Int) + 1) * 2 ^ min n 64) - 1)
def ngEnds (n m : Nat) : List Int := (List.range m).map (ngEnd n)
theorem ngEnds_succ (n m : Nat) : ngEnds n (m + 1) = ngEnds n m ++ [ngEnd n m] := by simp [ngEnds, List.range_succ]
theorem ngEnds_length (n m : Nat) : (ngEnds n m).length = m := by simp [ngEnds]
def impl_Night_costs.f (k : Nat) (ts : List Int) (se tq : Int) (tm : Bool) : Option (List Int) := if 0 ≤ tq ∧ tq < 1000 then (frG (nightG k ts se tq tm) k (ngN tq ts.length) (ngEnds ts.length (tq + 1).toNat)).bind fun dist => if 0 < dist.length then some dist else none else none
def impl_Night_costs.T7 : Bool × List (List Nat × List Nat) := (true, [([], []), ([], []), ([], []), ([1, 2], [1, 2]), ([0, 3, 0], [0]), ([3, 4, 0, 1, 2, 3, 4], [3])])
def impl_Night_costs.B7 : List Nat := [0, 0, 0, 6, 15, 31]
theorem impl_Night_costs.T7_ : rtab .any (opsOf Try.f59 7) = impl_Night_costs.T7 := by kernel_rfl
theorem impl_Night_costs.B7_ : waitsOk impl_Night_costs.T7.2 impl_Night_costs.B7 = true := by kernel_rfl
theorem impl_Night_costs.calls (k : Nat) (At : Option Addr) (ct : Nat) (ts : List Int) (se tq : Int) (tm : Bool) (dist : List Int) (w : World) (ht : Kd.C (Kd.int .i64) w At ts.length ts) (hct : ts.length ≤ ct) (h : impl_Night_costs.f k ts se tq tm = some dist) :
  Calls Try.prog 59 #[.agg #[.slice At ts.length ct, .int .i64 se, .int .i64 tq], .bool tm] w fun e w' => ∃ (fo : Nat) (cb : Array Value) (gd cd : Nat), e = .returned (.tuple #[.agg #[.int .i64 (ngN tq ts.length), .func (.func fo) #[] cb], .slice (some ⟨gd, 0, none⟩) dist.length cd]) ∧
   (∀ args w, (callFunc fo args).run Try.prog w = .ok (.enter fo args) w) ∧ grAll (nightG k ts se tq tm) (ngN tq ts.length) = true ∧ GOut fo cb (ngN tq ts.length) (grE (nightG k ts se tq tm)) w' ∧ Kd.R (Kd.int .i64) 3 w' w.heap.size (fun _ => True) (.slice (some ⟨gd, 0, none⟩) dist.length cd) dist ∧ Below w.heap.size w w' := by
 have hu := Try.underlying33
 have hu2 := Try.underlying67
 unfold impl_Night_costs.f at h
 by_cases hq : 0 ≤ tq ∧ tq < 1000
 rotate_left
 ·rw [if_neg hq] at h; exact absurd h (by simp)
 rw [if_pos hq] at h
 obtain ⟨dist', h2, h⟩ := Option.bind_eq_some_iff.mp h
 by_cases hd : 0 < dist'.length
 rotate_left
 ·rw [if_neg hd] at h; exact absurd h (by simp)
 rw [if_pos hd] at h
 obtain rfl := Option.some.inj h
 unfold frG at h2
 by_cases ha : grAll (nightG k ts se tq tm) (ngN tq ts.length) = true
 rotate_left
 ·rw [if_neg ha] at h2; exact absurd h2 (by simp)
 rw [if_pos ha] at h2
 obtain ⟨m, hm⟩ : ∃ m, m = (tq + 1).toNat := ⟨_, rfl⟩
 rw [← hm] at h2
 have hw15 : IntKind.i64.wrap (tq + 1) = (m : Int) := by rw [IntWalk.i64_in _ ⟨by omega, by omega⟩]; omega
 have HM := ak_ (show 0 < m ∧ m ≤ 1000 from by omega)
 have A1 := ak_ fun (W : World) (hb : Below w.heap.size w W) => impl_Night_graph.calls At ct ts se tq tm W (Kd.C_below ht hb)
 have HE := ak_ fun (W : World) (hb : Below w.heap.size w W) (Bc Bl : Nat) (hB : W.heap[Bc]? = some (.cells #[.slice At ts.length ct, .int .i64 se, .int .i64 tq] 33 (0, 0)) ∧ W.heap[Bl]? = some (.cells #[.bool tm] 4 (0, 0))) => (GOut.of ha (fun W' s es hW' hs => impl_Night_graph.calls_1 k Bc Bl At ct ts se tq tm s es W' (blk_below hB.1 hW') (blk_below hB.2 hW') (Kd.C_below ht (bs_ hb hW')) hct hs) : GOut 76 #[.pointer (some ⟨Bc, 0, none⟩), .pointer (some ⟨Bl, 0, none⟩)] (ngN tq ts.length) (grE (nightG k ts se tq tm)) W)
 have A3 := ak_ fun (W W0 : World) (cb : Array Value) (hE : GOut 76 cb (ngN tq ts.length) (grE (nightG k ts se tq tm)) W) (bs cs : Nat) (hb0 : Below W.heap.size W W0) (gx : Nat) (cx : Array Value) (hX : W0.heap[gx]? = some (.cells cx 67 (0, 0))) (hs : Kd.R (Kd.int .i64) 3 W0 W.heap.size (fun _ => True) (.slice (some ⟨bs, 0, none⟩) (ngEnds ts.length m).length cs) (ngEnds ts.length m)) => impl_graph_int_from.calls 76 cb (ngN tq ts.length) (grE (nightG k ts se tq tm)) W W0 (enters_of Try.func76 (by kernel_rfl) rfl) hE k (ngEnds ts.length m) dist' bs cs hb0 gx cx hX hs h2
 have HA := ak_ ha
 have HD0 := ak_ hd
 have HB := ak_ (Below.refl w.heap.size w)
 clear h h2 hd ha ht hct hq hm
 go_enter Try.func59, Try.ntmps59
 go_upto_region 1 with (first | ((with_reducible refine gate_dst (N := 2) rfl ?_); refine bx_ 2 #[.slice At ts.length ct, .int .i64 se, .int .i64 tq] 33 ?_; intro gb2 hg w2 hbox hb; have nb_ := ak_ (bs_ (bb_ HB.out) hb); have nc_ := ak_ hbox; have nd_ := ak_ ((by rw [hg]; exact (bz_ (bb_ HB.out)) : w.heap.size ≤ gb2)); clear HB hb hbox hg; have HB := nb_; have BK2 := nc_; have GE2 := nd_; clear nb_ nc_ nd_; have hz2_0 := (blk_cell BK2.out 0); have hf2_0 := (blk_frozen BK2.out 0); simp at hz2_0; have hz2_1 := (blk_cell BK2.out 1); have hf2_1 := (blk_frozen BK2.out 1); simp at hz2_1; have hz2_2 := (blk_cell BK2.out 2); have hf2_2 := (blk_frozen BK2.out 2); simp at hz2_2; skip) | ((with_reducible refine gate_dst (N := 4) rfl ?_); refine bx_ 4 #[.int .i64 0, .nilFunc] 67 ?_; intro gb4 hg w4 hbox hb; have n0_ := ak_ (blk_below (pk BK2.out) hb); have m0_ := ak_ ((by rw [hg]; exact Nat.ne_of_lt (blk_lt (pk BK2.out)) : gb2 ≠ gb4)); have nb_ := ak_ (bs_ (bb_ HB.out) hb); have nc_ := ak_ hbox; have nd_ := ak_ ((by rw [hg]; exact (bz_ (bb_ HB.out)) : w.heap.size ≤ gb4)); clear HB hb hbox hg; clear BK2; have BK2 := n0_; have NE2_4 := m0_; have HB := nb_; have BK4 := nc_; have GE4 := nd_; clear nb_ nc_ nd_ n0_ m0_; have hz4_0 := (blk_cell BK4.out 0); have hf4_0 := (blk_frozen BK4.out 0); simp at hz4_0; have hz4_1 := (blk_cell BK4.out 1); have hf4_1 := (blk_frozen BK4.out 1); simp at hz4_1; skip))
 have hq0 := blk_cell BK2.out 0
 have hq1 := blk_cell BK2.out 1
 have hq2 := blk_cell BK2.out 2
 simp at hq0
 simp at hq1
 simp at hq2
 go_upto_region 2 with (first | (go_at_call 55; refine (A1.out _ (bb_ HB.out)).mono ?_; rintro e w11 ⟨Bc, Bl, rfl, hB, hb⟩; have HK := ak_ hB; clear hB A1 hq0 hq1 hq2; replace BK2 := ak_ (blk_below (pk BK2.out) hb); replace BK4 := ak_ (blk_below (pk BK4.out) hb); replace HB := ak_ (bs_ (bb_ HB.out) hb); clear hb; have B11 := ak_ (And.intro BK2.out (And.intro BK4.out (And.intro HK.out HB.out)))) | ((with_reducible refine gate_dst (N := 6) rfl ?_); refine bx_ 6 #[.int .i64 0, .nilFunc] 67 ?_; intro gb6 hg w6 hbox hb; have n0_ := ak_ (blk_below (pk BK2.out) hb); have m0_ := ak_ ((by rw [hg]; exact Nat.ne_of_lt (blk_lt (pk BK2.out)) : gb2 ≠ gb6)); have n1_ := ak_ (blk_below (pk BK4.out) hb); have m1_ := ak_ ((by rw [hg]; exact Nat.ne_of_lt (blk_lt (pk BK4.out)) : gb4 ≠ gb6)); have nb_ := ak_ (bs_ (bb_ HB.out) hb); have nc_ := ak_ hbox; have nd_ := ak_ ((by rw [hg]; exact (bz_ (bb_ HB.out)) : w.heap.size ≤ gb6)); have nk_ := ak_ (And.intro (blk_below (pk HK.out.1) hb) (blk_below (pk HK.out.2) hb)); have nr_ := ak_ (Kd.R_below (Kd.S_R (gp_lit0 (Kd.int .i64) 3 w11 (Nat.le_refl w11.heap.size))) hb); have ng_ := ak_ (bs_ (ba_ (Below.refl w11.heap.size w11) (.cells #[] 3)) hb); have nz_ := ak_ (by rw [hg]; exact bz_ (ba_ (Below.refl w11.heap.size w11) (.cells #[] 3)) : w11.heap.size ≤ gb6); clear HB hb hbox hg HK; have HK := nk_; have HS := nr_; have HBG := ng_; have GG6 := nz_; clear nk_ nr_ ng_ nz_; clear BK2 BK4; have BK2 := n0_; have NE2_6 := m0_; have BK4 := n1_; have NE4_6 := m1_; have HB := nb_; have BK6 := nc_; have GE6 := nd_; clear nb_ nc_ nd_ n0_ m0_ n1_ m1_; have hz6_0 := (blk_cell BK6.out 0); have hf6_0 := (blk_frozen BK6.out 0); simp at hz6_0; have hz6_1 := (blk_cell BK6.out 1); have hf6_1 := (blk_frozen BK6.out 1); simp at hz6_1; skip))
 generalize Value.slice (some ⟨w11.heap.size, 0, none⟩) 0 0 = v12 at HS ⊢
 have B61 := ak_ (blk_put (cs' := #[.int .i64 (ngN tq ts.length), .func (.func 76) #[] #[.pointer (some ⟨Bc, 0, none⟩), .pointer (some ⟨Bl, 0, none⟩)]]) (blk_put (cs' := #[.int .i64 (ngN tq ts.length), .nilFunc]) BK6.out 0 (.int .i64 (ngN tq ts.length)) rfl) 1 (.func (.func 76) #[] #[.pointer (some ⟨Bc, 0, none⟩), .pointer (some ⟨Bl, 0, none⟩)]) rfl)
 have B21 := ak_ (blk_far (p := ⟨gb6, 1, none⟩) (blk_far (p := ⟨gb6, 0, none⟩) BK2.out NE2_6.out (.int .i64 (ngN tq ts.length))) NE2_6.out (.func (.func 76) #[] #[.pointer (some ⟨Bc, 0, none⟩), .pointer (some ⟨Bl, 0, none⟩)]))
 have B41 := ak_ (blk_far (p := ⟨gb6, 1, none⟩) (blk_far (p := ⟨gb6, 0, none⟩) BK4.out NE4_6.out (.int .i64 (ngN tq ts.length))) NE4_6.out (.func (.func 76) #[] #[.pointer (some ⟨Bc, 0, none⟩), .pointer (some ⟨Bl, 0, none⟩)]))
 have K61 := ak_ (show ((w6.setCell ⟨gb6, 0, none⟩ (.int .i64 (ngN tq ts.length))).setCell ⟨gb6, 1, none⟩ (.func (.func 76) #[] #[.pointer (some ⟨Bc, 0, none⟩), .pointer (some ⟨Bl, 0, none⟩)])).heap[Bc]? = some (.cells #[.slice At ts.length ct, .int .i64 se, .int .i64 tq] 33 (0, 0)) ∧ ((w6.setCell ⟨gb6, 0, none⟩ (.int .i64 (ngN tq ts.length))).setCell ⟨gb6, 1, none⟩ (.func (.func 76) #[] #[.pointer (some ⟨Bc, 0, none⟩), .pointer (some ⟨Bl, 0, none⟩)])).heap[Bl]? = some (.cells #[.bool tm] 4 (0, 0)) from
  ⟨blk_far (blk_far HK.out.1 (gr_typ HK.out.1 BK6.out (by decide)) (.int .i64 (ngN tq ts.length))) (gr_typ HK.out.1 BK6.out (by decide)) (.func (.func 76) #[] #[.pointer (some ⟨Bc, 0, none⟩), .pointer (some ⟨Bl, 0, none⟩)]), blk_far (blk_far HK.out.2 (gr_typ HK.out.2 BK6.out (by decide)) (.int .i64 (ngN tq ts.length))) (gr_typ HK.out.2 BK6.out (by decide)) (.func (.func 76) #[] #[.pointer (some ⟨Bc, 0, none⟩), .pointer (some ⟨Bl, 0, none⟩)])⟩)
 have HB1 := ak_ (below_set (v := (.func (.func 76) #[] #[.pointer (some ⟨Bc, 0, none⟩), .pointer (some ⟨Bl, 0, none⟩)])) (j := 1) (below_set (v := (.int .i64 (ngN tq ts.length))) (j := 0) HB.out GE6.out) GE6.out)
 have HG1 := ak_ (below_set (v := (.func (.func 76) #[] #[.pointer (some ⟨Bc, 0, none⟩), .pointer (some ⟨Bl, 0, none⟩)])) (j := 1) (below_set (v := (.int .i64 (ngN tq ts.length))) (j := 0) HBG.out GG6.out) GG6.out)
 have HS1 := ak_ (Kd.R_set (Kd.R_set HS.out BK6.out (by decide) 0 (.int .i64 (ngN tq ts.length))) (blk_put (cs' := #[.int .i64 (ngN tq ts.length), .nilFunc]) BK6.out 0 (.int .i64 (ngN tq ts.length)) rfl) (by decide) 1 (.func (.func 76) #[] #[.pointer (some ⟨Bc, 0, none⟩), .pointer (some ⟨Bl, 0, none⟩)]))
 generalize (w6.setCell ⟨gb6, 0, none⟩ (.int .i64 (ngN tq ts.length))).setCell ⟨gb6, 1, none⟩ (.func (.func 76) #[] #[.pointer (some ⟨Bc, 0, none⟩), .pointer (some ⟨Bl, 0, none⟩)]) = w8 at B61 B21 B41 K61 HB1 HG1 HS1 ⊢
 clear BK2 BK4 BK6 HB HK HBG HS
 have BK2 := B21; have BK4 := B41; have BK6 := B61; have HB := HB1; have HK := K61; have HBG := HG1; have HS := HS1
 clear B21 B41 B61 HB1 K61 HG1 HS1
 clear hz2_0 hz2_1 hz2_2 hf2_0 hf2_1 hf2_2 hz4_0 hz4_1 hf4_0 hf4_1 hz6_0 hz6_1 hf6_0 hf6_1
 have hq2 := blk_cell BK2.out 2
 simp at hq2
 go_wp2
 go_loopg [7, 16] m (fun gg v7 v16 wr => ∃ (j : Nat), v16 = .int .i64 (j : Int) ∧ Aside0 (j ≤ m ∧ m - j ≤ gg) ∧ Aside0 (Kd.R (Kd.int .i64) 3 wr w11.heap.size (fun _ => True) v7 (ngEnds ts.length j)) ∧ Aside0 (Below w11.heap.size w11 wr) ∧ Aside0 (wr.heap[gb2]? = some (.cells #[.slice At ts.length ct, .int .i64 se, .int .i64 tq] 33 (0, 0))) ∧ Aside0 (wr.heap[gb4]? = some (.cells #[.int .i64 0, .nilFunc] 67 (0, 0))) ∧ Aside0 (wr.heap[gb6]? = some (.cells #[.int .i64 (ngN tq ts.length), .func (.func 76) #[] #[.pointer (some ⟨Bc, 0, none⟩), .pointer (some ⟨Bl, 0, none⟩)]] 67 (0, 0))) ∧ Aside0 (wr.heap[Bc]? = some (.cells #[.slice At ts.length ct, .int .i64 se, .int .i64 tq] 33 (0, 0)) ∧ wr.heap[Bl]? = some (.cells #[.bool tm] 4 (0, 0))) ∧ Aside0 (Below w.heap.size w wr))
 case atStart => exact ⟨0, rfl, ⟨⟨Nat.zero_le _, Nat.le_refl _⟩⟩, HS, HBG, BK2, BK4, BK6, HK, HB⟩
 case round =>
  clear HS HBG BK2 BK4 BK6 HK HB hq2
  obtain ⟨j, rfl, HJ, HS, HBG, BK2, BK4, BK6, HK, HB⟩ := hrel
  by_cases hj : j < m
  ·have j1 : decide ((j : Int) < (m : Int)) = true := decide_eq_true (by omega)
   have j1n : decide (j < m) = true := decide_eq_true hj
   obtain ⟨jn, hjn⟩ : ∃ x : Int, x = ((j + 1 : Nat) : Int) := ⟨_, rfl⟩
   have hw19 : IntKind.i64.wrap ((j : Int) + 1) = jn := by have := HM.out; rw [IntWalk.i64_in _ ⟨by omega, by omega⟩]; omega
   have HEN := ak_ (show wrap64 (wrap64 (jn * 2 ^ min ts.length 64) - 1) = ngEnd ts.length j from by rw [hjn]; rfl)
   have HJN := ak_ hjn
   have HJJ := ak_ hj
   have HEL := ak_ (ngEnds_length ts.length j)
   have hq0 := blk_cell BK2.out 0
   simp at hq0
   clear hj hjn
   go_wp2_with (first | ((with_reducible refine gate_builtin (b := .append) (xs := #[.tmp 19, .tmp 27]) rfl ?_); at_builtin; refine Kd.R_append (Kd.int .i64) (w0 := w11) w11.heap.size rfl (.tmp 19) (.tmp 27) 22 3 (.int .i64 0) 8 rfl Try.underlying22 info3 rfl (by decide) (by omega) u7 (ngEnds ts.length j) (ngEnd ts.length j) [.int .i64 (wrap64 (wrap64 (jn * 2 ^ min ts.length 64) - 1))] (fun _ => True) (fun _ => False) rfl rfl ?aP (fun _ hk => hk.elim) (fun _ _ => trivial) ?aO ?aB ?aS ?aL ?_; (case aP => (show _ = _; rw [HEN.out])); (case aO => exact Kd.pR HS.out); (case aB => exact (by repeat (first | (with_reducible first | exact HBG.out | apply ba_ | apply bN_ | apply b1_) | exact HBG.out))); (case aS => exact bz_ (by repeat (first | (with_reducible first | exact HBG.out | apply ba_ | apply bN_ | apply b1_) | exact HBG.out))); (case aL => have := HEL.out; have := HM.out; have := HJJ.out; omega); intro v28 w28 ho hb hg hat; rw [← ngEnds_succ] at ho; replace BK2 := ak_ (blk_grown (pk BK2.out) hg (Kd.R_ne HS.out BK2.out (by decide))); replace BK4 := ak_ (blk_grown (pk BK4.out) hg (Kd.R_ne HS.out BK4.out (by decide))); replace BK6 := ak_ (blk_grown (pk BK6.out) hg (Kd.R_ne HS.out BK6.out (by decide))); replace HK := ak_ (And.intro (blk_grown (pk HK.out.1) hg (Kd.R_ne HS.out HK.out.1 (by decide))) (blk_grown (pk HK.out.2) hg (Kd.R_ne HS.out HK.out.2 (by decide)))); replace HB := ak_ (below_then B11.out.2.2.2 (bz_ B11.out.2.2.2) hb); replace HBG := ak_ (hb); replace HS := ak_ (ho); clear hg hat hb ho hq0))
   go_roundg (m - (j + 1))
   case measure => have := HJ.out; have := HJJ.out; omega
   case rel => exact ⟨j + 1, (by rw [HJN.out]), ⟨⟨by have := HJJ.out; omega, Nat.le_refl _⟩⟩, ⟨Kd.pR HS.out⟩, ⟨(by repeat (first | (with_reducible first | exact HBG.out | apply ba_ | apply bN_ | apply b1_) | exact HBG.out))⟩, ⟨pk BK2.out⟩, ⟨pk BK4.out⟩, ⟨pk BK6.out⟩, ⟨⟨pk HK.out.1, pk HK.out.2⟩⟩, ⟨(bb_ HB.out)⟩⟩
  ·have j1 : decide ((j : Int) < (m : Int)) = false := decide_eq_false (by omega)
   have j1n : decide (j < m) = false := decide_eq_false hj
   obtain rfl : j = m := by have := HJ.out; omega
   obtain ⟨bs, cs, ev7, -, -, -⟩ := Kd.R_form HS.out (by have := HM.out; rw [ngEnds_length]; omega)
   subst ev7
   clear hj
   go_upto_region 7 with (fail)
   replace BK2 := ak_ (k1_ BK2.out); replace BK4 := ak_ (k1_ BK4.out); replace BK6 := ak_ (k1_ BK6.out); replace HK := ak_ (And.intro (k1_ HK.out.1) (k1_ HK.out.2)); replace HB := ak_ (b1_ HB.out); replace HBG := ak_ (b1_ HBG.out); replace HS := ak_ (Kd.R_drew HS.out)
   refine start_ (n := 6) (S := fun w' => w'.cell? ⟨gb6, 0, none⟩ = some (.int .i64 (ngN tq ts.length)) ∧ w'.cell? ⟨gb6, 1, none⟩ = some (.func (.func 76) #[] #[.pointer (some ⟨Bc, 0, none⟩), .pointer (some ⟨Bl, 0, none⟩)])) (ds := []) (mb_ 6 0) (by kernel_rfl) rfl rfl ⟨(blk_cell BK6.out 0).trans rfl, (blk_cell BK6.out 1).trans rfl⟩ (fun hHeld => ?_); refine with_tabW impl_Night_costs.T7_ impl_Night_costs.B7_ (fun HT_ HW_ => ?_)
   generalize wr.drew = w9 at BK2 BK4 BK6 HK HB HBG HS hHeld ⊢
   refine tk_ 0 30 6 1 ?_ (hy := by rintro w' ⟨s0, s1⟩; go_simp; with_reducible rfl)
   refine tk_ 1 31 6 3 ?_ (hy := by rintro w' ⟨s0, s1⟩; go_simp; with_reducible rfl)
   refine pu_ 2 32 6 7 ?_
   refine on_ 3 33 6 15 (fun K hK => ?_)
   refine goes_ Try.func80 (by kernel_rfl) rfl #[.agg #[.int .i64 (ngN tq ts.length), .func (.func 76) #[] #[.pointer (some ⟨Bc, 0, none⟩), .pointer (some ⟨Bl, 0, none⟩)]], .slice (some ⟨bs, 0, none⟩) (ngEnds ts.length j).length cs] (by rfl) rfl rfl rs_ ?_
   refine (A3.out w11 w9 _ (HE.out w11 B11.out.2.2.2 Bc Bl B11.out.2.2.1) bs cs HBG.out gb6 _ BK6.out HS.out).mono ?_
   rintro e_ w12 ⟨v12, rfl, hdi, hbx, hb⟩
   refine ⟨_, rfl, ?_⟩
   obtain ⟨gd, cd, rfl, -, -, -⟩ := Kd.R_form hdi HD0.out
   have HD := ak_ (Kd.R_lower hdi (bz_ B11.out.2.2.2))
   replace BK4 := ak_ (blk_below B11.out.2.1 hb); replace BK6 := ak_ (hbx); replace HK := ak_ (And.intro (blk_below B11.out.2.2.1.1 hb) (blk_below B11.out.2.2.1.2 hb)); replace HB := ak_ (bs_ B11.out.2.2.2 hb); clear hb hbx hdi BK2 HBG HS
   refine hK.out _ _ ⟨(blk_cell BK6.out 0).trans rfl, (blk_cell BK6.out 1).trans rfl⟩ (fun hHeld => ?_)
   clear hK K
   refine nm_ ?_
   refine one_ (i := 4) (N := none) (mb_ 6 31) rfl rfl (one_of HT_.out (by kernel_rfl)) (by decide) (fun K hK => ?_)
   have hz40 := blk_cell BK4.out 0
   have hz41 := blk_cell BK4.out 1
   have hf40 := blk_frozen BK4.out 0
   have hf41 := blk_frozen BK4.out 1
   simp at hz40
   simp at hz41
   have B41 := ak_ (blk_put (cs' := #[.int .i64 (ngN tq ts.length), .func (.func 76) #[] #[.pointer (some ⟨Bc, 0, none⟩), .pointer (some ⟨Bl, 0, none⟩)]]) (blk_put (cs' := #[.int .i64 (ngN tq ts.length), .nilFunc]) BK4.out 0 (.int .i64 (ngN tq ts.length)) rfl) 1 (.func (.func 76) #[] #[.pointer (some ⟨Bc, 0, none⟩), .pointer (some ⟨Bl, 0, none⟩)]) rfl)
   have B61 := ak_ (blk_far (p := ⟨gb4, 1, none⟩) (blk_far (p := ⟨gb4, 0, none⟩) BK6.out NE4_6.out.symm (.int .i64 (ngN tq ts.length))) NE4_6.out.symm (.func (.func 76) #[] #[.pointer (some ⟨Bc, 0, none⟩), .pointer (some ⟨Bl, 0, none⟩)]))
   have D1 := ak_ (Kd.R_set (Kd.R_set HD.out BK4.out (by decide) 0 (.int .i64 (ngN tq ts.length))) (blk_put (cs' := #[.int .i64 (ngN tq ts.length), .nilFunc]) BK4.out 0 (.int .i64 (ngN tq ts.length)) rfl) (by decide) 1 (.func (.func 76) #[] #[.pointer (some ⟨Bc, 0, none⟩), .pointer (some ⟨Bl, 0, none⟩)]))
   have HB1 := ak_ (below_set (v := (.func (.func 76) #[] #[.pointer (some ⟨Bc, 0, none⟩), .pointer (some ⟨Bl, 0, none⟩)])) (j := 1) (below_set (v := (.int .i64 (ngN tq ts.length))) (j := 0) HB.out GE4.out) GE4.out)
   have K1 := ak_ (And.intro (blk_far (p := ⟨gb4, 1, none⟩) (blk_far (p := ⟨gb4, 0, none⟩) HK.out.1 (gr_typ HK.out.1 BK4.out (by decide)) (.int .i64 (ngN tq ts.length))) (gr_typ HK.out.1 BK4.out (by decide)) (.func (.func 76) #[] #[.pointer (some ⟨Bc, 0, none⟩), .pointer (some ⟨Bl, 0, none⟩)])) (blk_far (p := ⟨gb4, 1, none⟩) (blk_far (p := ⟨gb4, 0, none⟩) HK.out.2 (gr_typ HK.out.2 BK4.out (by decide)) (.int .i64 (ngN tq ts.length))) (gr_typ HK.out.2 BK4.out (by decide)) (.func (.func 76) #[] #[.pointer (some ⟨Bc, 0, none⟩), .pointer (some ⟨Bl, 0, none⟩)])))
   refine skip_ (w1 := ?_) (by rfl) rfl ?_ ?_
   rotate_left
   ·go_simp
    rfl
   generalize (w12.setCell ⟨gb4, 0, none⟩ (.int .i64 (ngN tq ts.length))).setCell ⟨gb4, 1, none⟩ (.func (.func 76) #[] #[.pointer (some ⟨Bc, 0, none⟩), .pointer (some ⟨Bl, 0, none⟩)]) = w14 at B41 B61 D1 HB1 K1 ⊢
   refine hK.out _ _ ⟨(blk_cell B61.out 0).trans rfl, (blk_cell B61.out 1).trans rfl⟩ (fun hHeld => ?_)
   clear hK K
   refine pu_ 5 5 6 63 ?_
   refine done_ (done_of HT_.out (by kernel_rfl)) ?_
   try go_wp2
   refine bodyPost_ret (results_ct rfl _ _ gb4 67 #[.int .i64 (ngN tq ts.length), .func (.func 76) #[] #[.pointer (some ⟨Bc, 0, none⟩), .pointer (some ⟨Bl, 0, none⟩)]] (0, 0) _ rfl B41.out Try.underlying67 rfl (by kernel_rfl)) rfl ?_
   exact ⟨76, #[.pointer (some ⟨Bc, 0, none⟩), .pointer (some ⟨Bl, 0, none⟩)], gd, cd, rfl, enters_of Try.func76 (by kernel_rfl) rfl, HA.out, HE.out w14 HB1.out Bc Bl K1.out, D1.out, HB1.out⟩
end Go.Proofs.Ytmdbhpbogbekmaa.QNt
