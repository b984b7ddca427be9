/- ScanOne: for every input the call of this statement returns true, and each argument reads afterwards as before. No condition. -/
import Derived.Test.YtpncgjcflkhemaaRows
import Derived.Test.YtpncgjcflkhemaaPartF
import Derived.WalkKit
import Derived.ProofKit
import Derived.OpenShut
import Derived.ShutString
import Derived.ChangeOld
import Derived.Below
import Derived.SizedLaws
import Derived.Carry
set_option linter.unusedVariables false
set_option linter.unusedSimpArgs false
namespace Go.Proofs.Ytpncgjcflkhemaa.scanOne
open Go.ChangeShapes Go.WideShapes Go.ChangeAt Go.RowKit
set_option linter.unusedVariables false
theorem own : ownKnob Try.prog.godebug = none := by kernel_rfl
theorem laidOut : laidOutB Try.prog = true := by kernel_rfl
set_option maxRecDepth 100000 in
theorem lifted (walk : ∀ (W : World) (v0 : Value) (x0 : Clk.TC.den ((.list (.int .u16)))) (w0 : Clk.IsArg ((.list (.int .u16))) W v0 x0) (v1 : Value) (x1 : Clk.TC.den ((.int .u8))) (w1 : Clk.IsArg ((.int .u8)) W v1 x1) (v2 : Value) (x2 : Clk.TC.den ((.list (.int .u16)))) (w2 : Clk.IsArg ((.list (.int .u16))) W v2 x2) (v3 : Value) (x3 : Clk.TC.den (.bool)) (w3 : Clk.IsArg (.bool) W v3 x3), Calls Try.prog 4 #[v0, v1, v2, v3] W fun e w' => e = .returned (.bool true) ∧ Below W.heap.size W w') (os : Os) (started : os.Started) (H : Type) (enc : TypeId × Value → H) :
    ReturnsInHanded {} Try.checked os 4 .any (Rows.scanOneSpec.pre6 enc Try.prog Try.f4 Rows.scanOneRow.domain false) (Rows.scanOneSpec.post enc Try.prog Try.f4 false true false false) := by
  refine returnsInHanded_of_change_sized (C := Try.checked) own started (by kernel_rfl) Try.func4
    (ChangeSpec.witness6 (enc := enc) (C := Try.checked) false ⟨#[], #[.slice none 0 0, .int .u8 0, .slice none 0 0, .bool false], []⟩ 8 (by kernel_rfl) (by kernel_rfl) (by kernel_rfl) (by kernel_rfl)) ?_
  intro W base args ds gs before hval0 hW hcnd hsz0 _
  have hval : ∀ (j : Nat) t v, Try.f4.params[j]? = some t → args[j]? = some v → Value.okWide Try.prog W .any base t v := hval0
  have hW' := hW
  obtain ⟨p, q, hA0, hV, rfl, hfz, hnd⟩ := hW
  have hA : DataW.TrodAll enc Try.prog W 0 (fun _ => true) true Try.f4.params.toList args.toList ds p := hA0
  rw [Try.params4] at hA hval
  obtain ⟨v0, vs0, d0, ds0, p0, q0, hargs, rfl, rfl, h0, r0⟩ := trodAll_cons hA
  obtain ⟨v1, vs1, d1, ds1, p1, q1, rfl, rfl, rfl, h1, r1⟩ := trodAll_cons r0
  obtain ⟨v2, vs2, d2, ds2, p2, q2, rfl, rfl, rfl, h2, r2⟩ := trodAll_cons r1
  obtain ⟨v3, vs3, d3, ds3, p3, q3, rfl, rfl, rfl, h3, r3⟩ := trodAll_cons r2
  obtain ⟨rfl, rfl, rfl⟩ := trodAll_nil r3
  obtain rfl : args = #[v0, v1, v2, v3] := by cases args; simp_all
  obtain ⟨rfl, rfl⟩ := trodVars_none hV
  have k0 := h0
  have lt0 : ∀ x ∈ p0, x.block < W.heap.size := by obtain ⟨m, hm⟩ := k0; exact DataW.trod_lt m _ _ _ hm
  obtain ⟨x0, w0⟩ : ∃ x, Clk.IsArg ((.list (.int .u16))) W v0 x := Clk.open_any (n := 8) (t := 32) (by kernel_rfl) (by obtain ⟨a, len, cap, rfl⟩ := okWide_slice Try.underlying32 (hval 0 32 v0 rfl rfl); exact .inr ⟨rfl, rfl⟩) h0
  have k1 := h1
  have lt1 : ∀ x ∈ p1, x.block < W.heap.size := by obtain ⟨m, hm⟩ := k1; exact DataW.trod_lt m _ _ _ hm
  obtain ⟨x1, w1⟩ : ∃ x, Clk.IsArg ((.int .u8)) W v1 x := Clk.open_any (n := 8) (t := 5) (by kernel_rfl) (by obtain ⟨m, rfl⟩ := okWide_int Try.underlying5 (hval 1 5 v1 rfl rfl); exact .inr ⟨rfl, rfl⟩) h1
  have k2 := h2
  have lt2 : ∀ x ∈ p2, x.block < W.heap.size := by obtain ⟨m, hm⟩ := k2; exact DataW.trod_lt m _ _ _ hm
  obtain ⟨x2, w2⟩ : ∃ x, Clk.IsArg ((.list (.int .u16))) W v2 x := Clk.open_any (n := 8) (t := 32) (by kernel_rfl) (by obtain ⟨a, len, cap, rfl⟩ := okWide_slice Try.underlying32 (hval 2 32 v2 rfl rfl); exact .inr ⟨rfl, rfl⟩) h2
  have k3 := h3
  have lt3 : ∀ x ∈ p3, x.block < W.heap.size := by obtain ⟨m, hm⟩ := k3; exact DataW.trod_lt m _ _ _ hm
  obtain ⟨x3, w3⟩ : ∃ x, Clk.IsArg (.bool) W v3 x := Clk.open_any (n := 8) (t := 4) (by kernel_rfl) (by obtain ⟨m, rfl⟩ := okWide_bool Try.underlying4 (hval 3 4 v3 rfl rfl); exact .inr ⟨rfl, rfl⟩) h3
  clear hA0 hval0 hsz0
  refine (walk W v0 x0 w0 v1 x1 w1 v2 x2 w2 v3 x3 w3).mono fun e W' ⟨he, bel⟩ => ?_
  subst he
  exact ⟨_, rfl, _, _, _, [], _, [], hW', trodAll_mk1 (shut_bool Try.underlying4 _), (trodAll_cons_mk (Below.trod laidOut (by kernel_rfl) (of_decide_eq_true (by kernel_rfl)) k0 bel lt0) (trodAll_cons_mk (Below.trod laidOut (by kernel_rfl) (of_decide_eq_true (by kernel_rfl)) k1 bel lt1) (trodAll_cons_mk (Below.trod laidOut (by kernel_rfl) (of_decide_eq_true (by kernel_rfl)) k2 bel lt2) (trodAll_cons_mk (Below.trod laidOut (by kernel_rfl) (of_decide_eq_true (by kernel_rfl)) k3 bel lt3) trodAll_mk0)))), rfl, bel.frame _, fun h => by cases h⟩
theorem over (walk : ∀ (W : World) (v0 : Value) (x0 : Clk.TC.den ((.list (.int .u16)))) (w0 : Clk.IsArg ((.list (.int .u16))) W v0 x0) (v1 : Value) (x1 : Clk.TC.den ((.int .u8))) (w1 : Clk.IsArg ((.int .u8)) W v1 x1) (v2 : Value) (x2 : Clk.TC.den ((.list (.int .u16)))) (w2 : Clk.IsArg ((.list (.int .u16))) W v2 x2) (v3 : Value) (x3 : Clk.TC.den (.bool)) (w3 : Clk.IsArg (.bool) W v3 x3), Calls Try.prog 4 #[v0, v1, v2, v3] W fun e w' => e = .returned (.bool true) ∧ Below W.heap.size W w') : Rows.scanOneRow.holds Try.pinned (OpenSpec.ofChange Rows.scanOneSpec) :=
  OpenClaim.holds_of_wide 4 Try.f4 rfl rfl rfl rfl rfl rfl rfl ⟨rfl, rfl, rfl, rfl, rfl⟩ rfl rfl rfl rfl rfl (by kernel_rfl) Try.func4 (by kernel_rfl)
    (of_decide_eq_true (by kernel_rfl)) (by unfold Func.isWrapper; first | (rw [if_pos (by decide +kernel)]; kernel_rfl) | (rw [if_neg (by decide +kernel)]; exact ⟨rfl, rfl⟩))
    (fun os started H enc _ => lifted walk os started H enc)
theorem holds : Rows.ScanOneSaid := over fun W v0 x0 w0 v1 x1 w1 v2 x2 w2 v3 x3 w3 => Clk.spec_calls (s := ⟨[(.list (.int .u16)), (.int .u8), (.list (.int .u16)), .bool], [.bool], Clk.S_law06_ScanOne⟩) Clk.Ytpncgjcflkhemaa.ok_law06_ScanOne (by kernel_rfl) (x := (x0, x1, x2, x3)) (y := true) (Clk.law_ScanOne (Clk.arg_u16s w0).1 (Clk.arg_u16s w0).2 (Clk.arg_u8 w1) (Clk.arg_u16s w2).1 (Clk.arg_u16s w2).2 x3) rfl (Clk.IRel.cons w0.1 (.cons w1.1 (.cons w2.1 (.cons w3.1 .nil))))
end Go.Proofs.Ytpncgjcflkhemaa.scanOne
