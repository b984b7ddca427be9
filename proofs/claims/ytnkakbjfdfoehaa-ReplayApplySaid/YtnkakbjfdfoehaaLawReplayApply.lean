/- ReplayApply: for every input the call of this statement returns true, and each argument reads afterwards as before. No condition. -/
import Derived.Test.YtnkakbjfdfoehaaRows
import Derived.Test.YtnkakbjfdfoehaaPartF
import Derived.WalkKit
import Derived.ProofKit
import Derived.OpenShut
import Derived.ShutString
import Derived.ChangeOld
import Derived.Below
import Derived.SizedLaws
import Derived.Carry
set_option linter.unusedVariables false
set_option linter.unusedSimpArgs false
namespace Go.Proofs.Ytnkakbjfdfoehaa.replayApply
open Go.ChangeShapes Go.WideShapes Go.ChangeAt Go.RowKit
set_option linter.unusedVariables false
theorem own : ownKnob Try.prog.godebug = none := by kernel_rfl
theorem laidOut : laidOutB Try.prog = true := by kernel_rfl
set_option maxRecDepth 100000 in
theorem lifted (walk : ∀ (W : World) (v0 : Value) (x0 : Clk.TC.den (.table)) (w0 : Clk.IsArg (.table) W v0 x0) (v1 : Value) (x1 : Clk.TC.den (.found)) (w1 : Clk.IsArg (.found) W v1 x1), Calls Try.prog 4 #[v0, v1] W fun e w' => e = .returned (.bool true) ∧ Below W.heap.size W w') (os : Os) (started : os.Started) (H : Type) (enc : TypeId × Value → H) :
    ReturnsInHanded {} Try.checked os 4 .any (Rows.replayApplySpec.pre6 enc Try.prog Try.f4 Rows.replayApplyRow.domain false) (Rows.replayApplySpec.post enc Try.prog Try.f4 false true false false) := by
  refine returnsInHanded_of_change_sized (C := Try.checked) own started (by kernel_rfl) Try.func4
    (ChangeSpec.witness6 (enc := enc) (C := Try.checked) false ⟨#[], #[.agg #[.slice none 0 0, .slice none 0 0], .agg #[.int .i64 0, .int .i64 0, .int .i64 0, .slice none 0 0, .slice none 0 0]], []⟩ 8 (by kernel_rfl) (by kernel_rfl) (by kernel_rfl) (by kernel_rfl)) ?_
  intro W base args ds gs before hval0 hW hcnd hsz0 _
  have hval : ∀ (j : Nat) t v, Try.f4.params[j]? = some t → args[j]? = some v → Value.okWide Try.prog W .any base t v := hval0
  have hW' := hW
  obtain ⟨p, q, hA0, hV, rfl, hfz, hnd⟩ := hW
  have hA : DataW.TrodAll enc Try.prog W 0 (fun _ => true) true Try.f4.params.toList args.toList ds p := hA0
  rw [Try.params4] at hA hval
  obtain ⟨v0, vs0, d0, ds0, p0, q0, hargs, rfl, rfl, h0, r0⟩ := trodAll_cons hA
  obtain ⟨v1, vs1, d1, ds1, p1, q1, rfl, rfl, rfl, h1, r1⟩ := trodAll_cons r0
  obtain ⟨rfl, rfl, rfl⟩ := trodAll_nil r1
  obtain rfl : args = #[v0, v1] := by cases args; simp_all
  obtain ⟨rfl, rfl⟩ := trodVars_none hV
  have k0 := h0
  have lt0 : ∀ x ∈ p0, x.block < W.heap.size := by obtain ⟨m, hm⟩ := k0; exact DataW.trod_lt m _ _ _ hm
  obtain ⟨x0, w0⟩ : ∃ x, Clk.IsArg (.table) W v0 x := Clk.open_any (n := 8) (t := 26) (by kernel_rfl) (by obtain ⟨cs, e, _⟩ := okWide_struct Try.underlying26 (hval 0 26 v0 rfl rfl); exact .inl ⟨rfl, cs, e⟩) h0
  have k1 := h1
  have lt1 : ∀ x ∈ p1, x.block < W.heap.size := by obtain ⟨m, hm⟩ := k1; exact DataW.trod_lt m _ _ _ hm
  obtain ⟨x1, w1⟩ : ∃ x, Clk.IsArg (.found) W v1 x := Clk.open_any (n := 8) (t := 32) (by kernel_rfl) (by obtain ⟨cs, e, _⟩ := okWide_struct Try.underlying32 (hval 1 32 v1 rfl rfl); exact .inl ⟨rfl, cs, e⟩) h1
  clear hA0 hval0 hsz0
  refine (walk W v0 x0 w0 v1 x1 w1).mono fun e W' ⟨he, bel⟩ => ?_
  subst he
  exact ⟨_, rfl, _, _, _, [], _, [], hW', trodAll_mk1 (shut_bool Try.underlying4 _), (trodAll_cons_mk (Below.trod laidOut (by kernel_rfl) (of_decide_eq_true (by kernel_rfl)) k0 bel lt0) (trodAll_cons_mk (Below.trod laidOut (by kernel_rfl) (of_decide_eq_true (by kernel_rfl)) k1 bel lt1) trodAll_mk0)), rfl, bel.frame _, fun h => by cases h⟩
theorem over (walk : ∀ (W : World) (v0 : Value) (x0 : Clk.TC.den (.table)) (w0 : Clk.IsArg (.table) W v0 x0) (v1 : Value) (x1 : Clk.TC.den (.found)) (w1 : Clk.IsArg (.found) W v1 x1), Calls Try.prog 4 #[v0, v1] W fun e w' => e = .returned (.bool true) ∧ Below W.heap.size W w') : Rows.replayApplyRow.holds Try.pinned (OpenSpec.ofChange Rows.replayApplySpec) :=
  OpenClaim.holds_of_wide 4 Try.f4 rfl rfl rfl rfl rfl rfl rfl ⟨rfl, rfl, rfl, rfl, rfl⟩ rfl rfl rfl rfl rfl (by kernel_rfl) Try.func4 (by kernel_rfl)
    (of_decide_eq_true (by kernel_rfl)) (by unfold Func.isWrapper; first | (rw [if_pos (by decide +kernel)]; kernel_rfl) | (rw [if_neg (by decide +kernel)]; exact ⟨rfl, rfl⟩))
    (fun os started H enc _ => lifted walk os started H enc)
theorem holds : Rows.ReplayApplySaid := over fun W v0 x0 w0 v1 x1 w1 => Clk.spec_calls (s := ⟨[.table, .found], [.bool], Clk.S_law07_ReplayApply⟩) Clk.Ytnkakbjfdfoehaa.ok_law07_ReplayApply (by kernel_rfl) (x := (x0, x1)) (y := true) (Clk.law_ReplayApply x0 x1) rfl (Clk.IRel.cons w0.1 (.cons w1.1 .nil))
end Go.Proofs.Ytnkakbjfdfoehaa.replayApply
