/- What an argument of a type reads as, said in the words of the printed contracts: numbers, bools, strings, slices, structs. -/
import Derived.Test.YtmdbhpbogbekmaaRows
import Derived.WalkKit
import Derived.ProofKit
import Derived.OpenShut
import Derived.ShutString
import Derived.ChangeOld
import Derived.Below
import Derived.Deep.Slices
import Derived.Carry
import Derived.Test.YtmdbhpbogbekmaaWWords
namespace Go.Proofs.Ytmdbhpbogbekmaa.Opn
open Go.ChangeShapes Go.WideShapes Go.RowKit Go.Deep Go.Proofs.YtmdbhpbogbekmaaW.PrintWords
set_option linter.unusedVariables false
set_option linter.unusedSectionVars false

structure Op (P : Program) (t : TypeId) {α : Type} (d : Kd α) (ok : α → Prop) : Prop where
  sz : P.cellsOf t = d.sz
  out : ∀ {H : Type} {enc : TypeId × Value → H} {w : World} {base : Nat} {spare : Nat → Bool} {held : Bool} {fuel : Nat} {cs : List Value} {x : DataW H × List MemPlace},
    DataW.trod enc P w base spare held fuel t cs = some x → ∃ a, d.K w a cs ∧ ok a

def okI (n : Int) : Prop := -9223372036854775808 ≤ n ∧ n ≤ 9223372036854775807

theorem okI_of {n : Int} (h : (Lit.int .i64 n).wf = true) : okI n := by
  have h2 : -9223372036854775808 ≤ n ∧ n ≤ 9223372036854775807 := by simpa [Lit.wf, IntKind.min, IntKind.max, IntKind.signed, IntKind.bits] using h
  exact h2

variable {P : Program}

theorem op_int {t : TypeId} (ht : P.underlying t = some (.int .i64)) (hs : P.cellsOf t = 1) : Op P t (Kd.int .i64) okI :=
  ⟨hs, fun h => by
    obtain ⟨n, rfl, _, hw⟩ := DataW.trod_int ht h
    exact ⟨n, rfl, okI_of hw⟩⟩

theorem op_bool {t : TypeId} (ht : P.underlying t = some .bool) (hs : P.cellsOf t = 1) : Op P t Kd.bool (fun _ => True) :=
  ⟨hs, fun h => by
    obtain ⟨n, rfl, _⟩ := DataW.trod_bool ht h
    exact ⟨n, rfl, trivial⟩⟩

theorem op_string {t : TypeId} (ht : P.underlying t = some .string) (hs : P.cellsOf t = 1) : Op P t Kd.string (fun s => s.size ≤ 9223372036854775807) :=
  ⟨hs, fun h => by
    obtain ⟨s, rfl, _, hl⟩ := DataW.trod_string ht h
    exact ⟨s, rfl, by simpa [maxLen] using hl⟩⟩

theorem choose_list {α : Type} {n : Nat} {p : Nat → α → Prop} (h : ∀ i, i < n → ∃ x, p i x) : ∃ l : List α, l.length = n ∧ ∀ i x, l[i]? = some x → p i x := by
  induction n with
  | zero => exact ⟨[], rfl, fun i x hx => by simp at hx⟩
  | succ n ih =>
    obtain ⟨l, hl, hp⟩ := ih (fun i hi => h i (Nat.lt_succ_of_lt hi))
    obtain ⟨x, hx⟩ := h n (Nat.lt_succ_self n)
    refine ⟨l ++ [x], by rw [List.length_append, hl]; rfl, fun i y hy => ?_⟩
    rcases Nat.lt_or_ge i l.length with hi | hi
    · rw [List.getElem?_append_left hi] at hy
      exact hp i y hy
    · have hi' := (List.getElem?_eq_some_iff.1 hy).1
      rw [List.length_append, List.length_singleton] at hi'
      have : i = l.length := by omega
      subst this
      rw [List.getElem?_append_right (Nat.le_refl _), Nat.sub_self] at hy
      obtain rfl : x = y := by simpa using hy
      rw [hl]
      exact hx

theorem op_slice {t e : TypeId} {α : Type} {d : Kd α} {ok : α → Prop} (ht : P.underlying t = some (.slice e)) (hs : P.cellsOf t = 1) (he : Op P e d ok) : Op P t (Kd.slice e d) (fun xs => ∀ x ∈ xs, ok x) :=
  ⟨hs, fun {H enc w base spare held fuel cs x} h => by
    rcases open_slice ht h with ⟨rfl, _⟩ | ⟨a, len, cap, m, n, D, Pl, rfl, _, hl, hm, hmm, _, hx⟩
    · exact ⟨[], ⟨none, 0, rfl, Nat.le_refl _, Kd.C_nil d w⟩, fun x hx => by cases hx⟩
    · have hle : len ≤ m := by rw [hmm]; split <;> omega
      obtain ⟨l, hlen, hp⟩ := choose_list (α := α) (n := len) (p := fun i y => ok y ∧ ∃ c, d.K w y c ∧ ∀ j u, c[j]? = some u → w.cell? (a.add (i * d.sz + j)) = some u) (fun i hi => by
        obtain ⟨cs', hc, ht'⟩ := hx i (by omega)
        obtain ⟨y, hk, hok⟩ := he.out ht'
        obtain ⟨_, hcl, hat⟩ := World.cells?_some hc
        refine ⟨y, hok, cs', hk, fun j u hj => ?_⟩
        have hjl : j < cs'.length := (List.getElem?_eq_some_iff.1 hj).1
        have := hat j (by omega)
        rw [he.sz, Go.Deep.add_add] at this
        rw [this, hj])
      refine ⟨l, ⟨some a, cap, by rw [hlen], by omega, rfl, by rw [hlen]; exact Nat.le_trans (Nat.le_trans hl hm) (by decide), fun _ => ⟨a, rfl, fun j p hj => ?_⟩⟩, fun x hx => ?_⟩
      · obtain ⟨_, c, hk, hc⟩ := hp j p hj
        exact ⟨c, d.K_len hk, hk, hc⟩
      · obtain ⟨i, hi, rfl⟩ := List.getElem_of_mem hx
        exact (hp i _ (List.getElem?_eq_getElem hi)).1⟩

/-- The fields of a struct from the cell o on. -/
structure OpL (P : Program) (o : Nat) (fs : List Field) {α : Type} (d : Kd α) (ok : α → Prop) : Prop where
  out : ∀ {H : Type} {enc : TypeId × Value → H} {w : World} {base : Nat} {spare : Nat → Bool} {held : Bool} {fuel : Nat} {cs : List Value},
    (∀ f ∈ fs, ∃ x : DataW H × List MemPlace, DataW.trod enc P w base spare held fuel f.type ((cs.drop f.offset).take (P.cellsOf f.type)) = some x) → ∃ a, d.K w a ((cs.drop o).take d.sz) ∧ ok a

theorem opl_one {o : Nat} {f : Field} {α : Type} {d : Kd α} {ok : α → Prop} (ho : f.offset = o) (h : Op P f.type d ok) : OpL P o [f] d ok :=
  ⟨fun hf => by
    obtain ⟨x, hx⟩ := hf f (List.mem_singleton.2 rfl)
    rw [ho, h.sz] at hx
    exact h.out hx⟩

theorem opl_cons {o : Nat} {f : Field} {fs : List Field} {α β : Type} {d : Kd α} {db : Kd β} {ok : α → Prop} {okb : β → Prop} (ho : f.offset = o) (h : Op P f.type d ok) (hb : OpL P (o + d.sz) fs db okb) :
    OpL P o (f :: fs) (Kd.pair d db) (fun x => ok x.1 ∧ okb x.2) :=
  ⟨fun {H enc w base spare held fuel cs} hf => by
    obtain ⟨x, hx⟩ := hf f List.mem_cons_self
    rw [ho, h.sz] at hx
    obtain ⟨a, ha, hoa⟩ := h.out hx
    obtain ⟨b, hbk, hob⟩ := hb.out (fun g hg => hf g (List.mem_cons_of_mem _ hg))
    refine ⟨(a, b), ⟨_, _, ?_, ha, hbk⟩, hoa, hob⟩
    show (cs.drop o).take (d.sz + db.sz) = _
    rw [← List.drop_drop, ← List.take_add]⟩

theorem op_struct {t : TypeId} {fs : Array Field} {α : Type} {d : Kd α} {ok : α → Prop} (ht : P.underlying t = some (.struct fs)) (hs : P.cellsOf t = d.sz) (h : OpL P 0 fs.toList d ok) : Op P t d ok :=
  ⟨hs, fun {H enc w base spare held fuel cs x} hx => by
    obtain ⟨xs, n, _, _, hlen, hxl, hf⟩ := DataW.trod_struct ht hx
    obtain ⟨a, ha, hok⟩ := h.out (cs := cs) (fun f hfm => by
      obtain ⟨i, hi, rfl⟩ := List.getElem_of_mem hfm
      have h1 := hf i fs.toList[i] (by rw [← Array.getElem?_toList]; exact List.getElem?_eq_getElem hi)
      rw [List.getElem?_eq_getElem (show i < xs.length by rw [hxl, ← Array.length_toList]; exact hi)] at h1
      exact ⟨_, h1⟩)
    rw [List.drop_zero, ← hs, ← hlen, List.take_length] at ha
    exact ⟨a, ha, hok⟩⟩

theorem op_iso {t : TypeId} {α β : Type} {d : Kd α} {ok : α → Prop} (h : Op P t d ok) (f : β → α) (g : α → β) (hg : ∀ x, f (g x) = x) : Op P t (Kd.iso d f) (fun y => ok (f y)) :=
  ⟨h.sz, fun hx => by
    obtain ⟨a, ha, hok⟩ := h.out hx
    exact ⟨g a, by show d.K _ (f (g a)) _; rw [hg]; exact ha, by show ok (f (g a)); rw [hg]; exact hok⟩⟩

/-- A parameter of a struct type: its cells. -/
theorem arg_struct {H : Type} {enc : TypeId × Value → H} {w : World} {base : Nat} {spare : Nat → Bool} {held : Bool} {r : Reach} {b0 : Nat} {t : TypeId} {fs : Array Field} {v : Value} {dd : DataW H} {ps : List MemPlace} {α : Type} {d : Kd α} {ok : α → Prop}
    (ht : P.underlying t = some (.struct fs)) (hv : Value.okWide P w r b0 t v) (h : DataW.Trod enc P w base spare held t v dd ps) (ho : Op P t d ok) : ∃ cs : List Value, v = .agg cs.toArray ∧ ∃ a, d.K w a cs ∧ ok a := by
  obtain ⟨cs, rfl, _⟩ := okWide_struct ht hv
  obtain ⟨fuel, hf⟩ := h
  exact ⟨cs.toList, by simp, ho.out hf⟩

/-- A parameter of a slice type. -/
theorem arg_slice {H : Type} {enc : TypeId × Value → H} {w : World} {base : Nat} {spare : Nat → Bool} {held : Bool} {r : Reach} {b0 : Nat} {t e : TypeId} {v : Value} {dd : DataW H} {ps : List MemPlace} {α : Type} {d : Kd α} {ok : List α → Prop}
    (ht : P.underlying t = some (.slice e)) (hv : Value.okWide P w r b0 t v) (h : DataW.Trod enc P w base spare held t v dd ps) (ho : Op P t (Kd.slice e d) ok) :
    ∃ (A : Option Addr) (c : Nat) (l : List α), v = .slice A l.length c ∧ l.length ≤ c ∧ d.C w A l.length l ∧ ok l := by
  obtain ⟨a, len, cap, rfl⟩ := okWide_slice ht hv
  obtain ⟨fuel, hf⟩ := h
  obtain ⟨l, ⟨A, c, hcs, hl, hC⟩, hok⟩ := ho.out hf
  simp only [Value.cells] at hcs
  refine ⟨A, c, l, ?_, hl, hC, hok⟩
  simpa using hcs

end Go.Proofs.Ytmdbhpbogbekmaa.Opn
