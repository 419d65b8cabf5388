/- FnExactDoesFit: whatever the input, the law's function returns true, and its arguments read behind the call as before; out of the walked contract and the plain statement fnExactDoesFit.pure. Conditions: none. -/
import Derived.Test.YtkgbahokhifojaaRows
import Derived.Test.YtkgbahokhifojaaQHidx11
import Derived.Test.YtkgbahokhifojaaOpnN
import Derived.Test.YtkgbahokhifojaaYFnExactDoesFit
import Derived.WalkKit
import Derived.ProofKit
import Derived.OpenShut
import Derived.ShutString
import Derived.ChangeOld
import Derived.Below
import Derived.Carry
namespace Go.Proofs.Ytkgbahokhifojaa.fnExactDoesFit
open Go.ChangeShapes Go.WideShapes Go.ChangeAt Go.RowKit
open Go.ChangeMaps (open_string shut_string)
open Go.Proofs.YtkgbahokhifojaaW.PrintWords Go.Proofs.Ytkgbahokhifojaa.QHid
set_option linter.unusedVariables false
theorem own : ownKnob Try.prog.godebug = none := by kernel_rfl
theorem laidOut : laidOutB Try.prog = true := by kernel_rfl
set_option maxRecDepth 100000 in
theorem lifted (os : Os) (started : os.Started) (H : Type) (enc : TypeId × Value → H) :
    ReturnsInHanded {} Try.checked os 5 .any (Rows.fnExactDoesFitSpec.pre6 enc Try.prog Try.f5 Rows.fnExactDoesFitRow.domain false) (Rows.fnExactDoesFitSpec.post enc Try.prog Try.f5 false true false false) := by
  refine returnsInHanded_of_change (C := Try.checked) own started (by kernel_rfl) Try.func5
    (ChangeSpec.witness6 (enc := enc) (C := Try.checked) false ⟨#[], #[.agg #[.int .i64 0, .int .i64 0, .int .i64 0], .slice none 0 0], []⟩ 8 (by kernel_rfl) (by kernel_rfl) (by kernel_rfl) (by kernel_rfl)) ?_
  intro W base args ds gs before hval0 hW hcnd _
  have hval : ∀ (j : Nat) t v, Try.f5.params[j]? = some t → args[j]? = some v → Value.okWide Try.prog W .any base t v := hval0
  have hW' := hW
  obtain ⟨p, q, hA0, hV, rfl, hfz, hnd⟩ := hW
  have hA : DataW.TrodAll enc Try.prog W 0 (fun _ => true) true Try.f5.params.toList args.toList ds p := hA0
  rw [Try.params5] at hA hval
  obtain ⟨v0, vs0, d0, ds0, p0, q0, hargs, rfl, rfl, h0, r0⟩ := trodAll_cons hA
  obtain ⟨v1, vs1, d1, ds1, p1, q1, rfl, rfl, rfl, h1, r1⟩ := trodAll_cons r0
  obtain ⟨rfl, rfl, rfl⟩ := trodAll_nil r1
  obtain rfl : args = #[v0, v1] := by cases args; simp_all
  obtain ⟨rfl, rfl⟩ := trodVars_none hV
  have k0 := h0
  have lt0 : ∀ x ∈ p0, x.block < W.heap.size := by obtain ⟨m, hm⟩ := k0; exact DataW.trod_lt m _ _ _ hm
  obtain ⟨cs0, rfl, ⟨a0_0, a0_1, a0_2⟩, ⟨_, _, rfl, rfl, ⟨_, _, rfl, rfl, rfl⟩⟩, ⟨o0_0, o0_1, o0_2⟩⟩ := Opn.arg_struct Try.underlying42 (hval 0 42 v0 rfl rfl) h0 (Opn.op_struct Try.underlying42 (by kernel_rfl) (Opn.opl_cons rfl (Opn.op_int Try.underlying3 (by kernel_rfl)) (Opn.opl_cons rfl (Opn.op_int Try.underlying3 (by kernel_rfl)) (Opn.opl_one rfl (Opn.op_int Try.underlying3 (by kernel_rfl))))))
  have k1 := h1
  have lt1 : ∀ x ∈ p1, x.block < W.heap.size := by obtain ⟨m, hm⟩ := k1; exact DataW.trod_lt m _ _ _ hm
  obtain ⟨A1, c1, l1, rfl, hc1, hr1, o1⟩ := Opn.arg_slice Try.underlying26 (hval 1 26 v1 rfl rfl) h1 (Opn.op_slice Try.underlying26 (by kernel_rfl) (Opn.op_int Try.underlying3 (by kernel_rfl)))
  clear hA0 hval0
  obtain ⟨k, hk⟩ := pure a0_0 a0_1 a0_2 l1 o0_0 o0_1 o0_2 o1 hr1.2.1
  refine (laws_FnExactDoesFit.calls k a0_0 a0_1 a0_2 A1 c1 l1 true W hr1 hc1 hk).mono fun e W' ⟨he, bel0⟩ => ?_
  have bel : Below W.heap.size W W' := bel0
  subst he
  exact ⟨_, rfl, _, _, _, [], _, [], hW', trodAll_mk1 (shut_bool Try.underlying4 _), (trodAll_cons_mk (Below.trod laidOut (by kernel_rfl) (of_decide_eq_true (by kernel_rfl)) k0 bel lt0) (trodAll_cons_mk (Below.trod laidOut (by kernel_rfl) (of_decide_eq_true (by kernel_rfl)) k1 bel lt1) trodAll_mk0)), rfl, bel.frame _, fun h => by cases h⟩
theorem over : Rows.fnExactDoesFitRow.holds Try.pinned (OpenSpec.ofChange Rows.fnExactDoesFitSpec) :=
  OpenClaim.holds_of_wide 5 Try.f5 rfl rfl rfl rfl rfl rfl rfl ⟨rfl, rfl, rfl, rfl, rfl⟩ rfl rfl rfl rfl rfl (by kernel_rfl) Try.func5 (by kernel_rfl)
    (of_decide_eq_true (by kernel_rfl)) (by unfold Func.isWrapper; first | (rw [if_pos (by decide +kernel)]; kernel_rfl) | (rw [if_neg (by decide +kernel)]; exact ⟨rfl, rfl⟩))
    (fun os started H enc _ => lifted os started H enc)
theorem proved : Rows.FnExactDoesFitSaid := over
#print axioms proved
end Go.Proofs.Ytkgbahokhifojaa.fnExactDoesFit
namespace Go.Proofs.Ytkgbahokhifojaa
/-- The row, under a short name, for the claim. -/
theorem fnExactDoesFit_holds : Rows.FnExactDoesFitSaid := fnExactDoesFit.proved
end Go.Proofs.Ytkgbahokhifojaa
