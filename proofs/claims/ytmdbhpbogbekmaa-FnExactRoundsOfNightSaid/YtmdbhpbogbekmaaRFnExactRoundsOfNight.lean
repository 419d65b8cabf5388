/- FnExactRoundsOfNight: whatever the input, the law's function returns true, and its arguments read behind the call as before; out of the walked contract and the plain statement fnExactRoundsOfNight.pure. Conditions: none. -/
import Derived.Test.YtmdbhpbogbekmaaRows
import Derived.Test.YtmdbhpbogbekmaaQNtx12
import Derived.Test.YtmdbhpbogbekmaaOpnN
import Derived.Test.YtmdbhpbogbekmaaYFnExactRoundsOfNight
import Derived.WalkKit
import Derived.ProofKit
import Derived.OpenShut
import Derived.ShutString
import Derived.ChangeOld
import Derived.Below
import Derived.Carry
namespace Go.Proofs.Ytmdbhpbogbekmaa.fnExactRoundsOfNight
open Go.ChangeShapes Go.WideShapes Go.ChangeAt Go.RowKit
open Go.ChangeMaps (open_string shut_string)
open Go.Proofs.YtmdbhpbogbekmaaW.PrintWords Go.Proofs.Ytmdbhpbogbekmaa.QNt
set_option linter.unusedVariables false
theorem own : ownKnob Try.prog.godebug = none := by kernel_rfl
theorem laidOut : laidOutB Try.prog = true := by kernel_rfl
set_option maxRecDepth 100000 in
theorem lifted (os : Os) (started : os.Started) (H : Type) (enc : TypeId × Value → H) :
    ReturnsInHanded {} Try.checked os 3 .any (Rows.fnExactRoundsOfNightSpec.pre6 enc Try.prog Try.f3 Rows.fnExactRoundsOfNightRow.domain false) (Rows.fnExactRoundsOfNightSpec.post enc Try.prog Try.f3 false true false false) := by
  refine returnsInHanded_of_change (C := Try.checked) own started (by kernel_rfl) Try.func3
    (ChangeSpec.witness6 (enc := enc) (C := Try.checked) false ⟨#[], #[.agg #[.slice none 0 0, .int .i64 0, .int .i64 0], .agg #[.slice none 0 0, .int .i64 0]], []⟩ 8 (by kernel_rfl) (by kernel_rfl) (by kernel_rfl) (by kernel_rfl)) ?_
  intro W base args ds gs before hval0 hW hcnd _
  have hval : ∀ (j : Nat) t v, Try.f3.params[j]? = some t → args[j]? = some v → Value.okWide Try.prog W .any base t v := hval0
  have hW' := hW
  obtain ⟨p, q, hA0, hV, rfl, hfz, hnd⟩ := hW
  have hA : DataW.TrodAll enc Try.prog W 0 (fun _ => true) true Try.f3.params.toList args.toList ds p := hA0
  rw [Try.params3] at hA hval
  obtain ⟨v0, vs0, d0, ds0, p0, q0, hargs, rfl, rfl, h0, r0⟩ := trodAll_cons hA
  obtain ⟨v1, vs1, d1, ds1, p1, q1, rfl, rfl, rfl, h1, r1⟩ := trodAll_cons r0
  obtain ⟨rfl, rfl, rfl⟩ := trodAll_nil r1
  obtain rfl : args = #[v0, v1] := by cases args; simp_all
  obtain ⟨rfl, rfl⟩ := trodVars_none hV
  have k0 := h0
  have lt0 : ∀ x ∈ p0, x.block < W.heap.size := by obtain ⟨m, hm⟩ := k0; exact DataW.trod_lt m _ _ _ hm
  obtain ⟨cs0, rfl, ⟨l0_0, a0_1, a0_2⟩, ⟨_, _, rfl, ⟨A0_0, c0_0, rfl, hc0_0, hr0_0⟩, ⟨_, _, rfl, rfl, rfl⟩⟩, ⟨o0_0, o0_1, o0_2⟩⟩ := Opn.arg_struct Try.underlying24 (hval 0 24 v0 rfl rfl) h0 (Opn.op_struct Try.underlying24 (by kernel_rfl) (Opn.opl_cons rfl (Opn.op_slice Try.underlying22 (by kernel_rfl) (Opn.op_int Try.underlying3 (by kernel_rfl))) (Opn.opl_cons rfl (Opn.op_int Try.underlying3 (by kernel_rfl)) (Opn.opl_one rfl (Opn.op_int Try.underlying3 (by kernel_rfl))))))
  have k1 := h1
  have lt1 : ∀ x ∈ p1, x.block < W.heap.size := by obtain ⟨m, hm⟩ := k1; exact DataW.trod_lt m _ _ _ hm
  obtain ⟨cs1, rfl, ⟨l1_0, a1_1⟩, ⟨_, _, rfl, ⟨A1_0, c1_0, rfl, hc1_0, hr1_0⟩, rfl⟩, ⟨o1_0, o1_1⟩⟩ := Opn.arg_struct Try.underlying27 (hval 1 27 v1 rfl rfl) h1 (Opn.op_struct Try.underlying27 (by kernel_rfl) (Opn.opl_cons rfl (Opn.op_slice Try.underlying25 (by kernel_rfl) (Opn.op_bool Try.underlying4 (by kernel_rfl))) (Opn.opl_one rfl (Opn.op_int Try.underlying3 (by kernel_rfl)))))
  clear hA0 hval0
  obtain ⟨k, hk⟩ := pure l0_0 a0_1 a0_2 l1_0 a1_1 o0_0 hr0_0.2.1 o0_1 o0_2 o1_0 hr1_0.2.1 o1_1
  refine (laws_FnExactRoundsOfNight.calls k A0_0 c0_0 l0_0 a0_1 a0_2 A1_0 c1_0 l1_0 a1_1 true W hr0_0 hc0_0 hr1_0 hc1_0 hk).mono fun e W' ⟨he, bel0⟩ => ?_
  have bel : Below W.heap.size W W' := bel0
  subst he
  exact ⟨_, rfl, _, _, _, [], _, [], hW', trodAll_mk1 (shut_bool Try.underlying4 _), (trodAll_cons_mk (Below.trod laidOut (by kernel_rfl) (of_decide_eq_true (by kernel_rfl)) k0 bel lt0) (trodAll_cons_mk (Below.trod laidOut (by kernel_rfl) (of_decide_eq_true (by kernel_rfl)) k1 bel lt1) trodAll_mk0)), rfl, bel.frame _, fun h => by cases h⟩
theorem over : Rows.fnExactRoundsOfNightRow.holds Try.pinned (OpenSpec.ofChange Rows.fnExactRoundsOfNightSpec) :=
  OpenClaim.holds_of_wide 3 Try.f3 rfl rfl rfl rfl rfl rfl rfl ⟨rfl, rfl, rfl, rfl, rfl⟩ rfl rfl rfl rfl rfl (by kernel_rfl) Try.func3 (by kernel_rfl)
    (of_decide_eq_true (by kernel_rfl)) (by unfold Func.isWrapper; first | (rw [if_pos (by decide +kernel)]; kernel_rfl) | (rw [if_neg (by decide +kernel)]; exact ⟨rfl, rfl⟩))
    (fun os started H enc _ => lifted os started H enc)
theorem proved : Rows.FnExactRoundsOfNightSaid := over
#print axioms proved
end Go.Proofs.Ytmdbhpbogbekmaa.fnExactRoundsOfNight
namespace Go.Proofs.Ytmdbhpbogbekmaa
/-- The row, under a short name, for the claim. -/
theorem fnExactRoundsOfNight_holds : Rows.FnExactRoundsOfNightSaid := fnExactRoundsOfNight.proved
end Go.Proofs.Ytmdbhpbogbekmaa
