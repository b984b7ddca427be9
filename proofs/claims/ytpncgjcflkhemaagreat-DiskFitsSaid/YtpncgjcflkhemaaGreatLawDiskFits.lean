/- DiskFits: for every input the call of this statement returns true, and each argument reads afterwards as before. No condition. -/
import Derived.Test.YtpncgjcflkhemaaGreatRows
import Derived.Test.YtpncgjcflkhemaaGreatPartF
import Derived.WalkKit
import Derived.ProofKit
import Derived.OpenShut
import Derived.ShutString
import Derived.ChangeOld
import Derived.Below
import Derived.SizedLaws
import Derived.Carry
set_option linter.unusedVariables false
set_option linter.unusedSimpArgs false
set_option maxRecDepth 1000000
namespace Go.Proofs.YtpncgjcflkhemaaGreat.diskFits
open Go.ChangeShapes Go.WideShapes Go.ChangeAt Go.RowKit
set_option linter.unusedVariables false
theorem own : ownKnob Tryz.prog.godebug = none := by kernel_rfl
theorem laidOut : laidOutB Tryz.prog = true := by kernel_rfl
set_option maxRecDepth 100000 in
theorem lifted (walk : ∀ (W : World) (v0 : Value) (x0 : Clk.TC.den ((.int .u8))) (w0 : Clk.IsArg ((.int .u8)) W v0 x0) (v1 : Value) (x1 : Clk.TC.den ((.int .u8))) (w1 : Clk.IsArg ((.int .u8)) W v1 x1) (v2 : Value) (x2 : Clk.TC.den ((.int .u8))) (w2 : Clk.IsArg ((.int .u8)) W v2 x2) (v3 : Value) (x3 : Clk.TC.den ((.int .u8))) (w3 : Clk.IsArg ((.int .u8)) W v3 x3) (v4 : Value) (x4 : Clk.TC.den ((.list (.int .u8)))) (w4 : Clk.IsArg ((.list (.int .u8))) W v4 x4), Calls Tryz.prog 3 #[v0, v1, v2, v3, v4] W fun e w' => e = .returned (.bool true) ∧ Below W.heap.size W w') (os : Os) (started : os.Started) (H : Type) (enc : TypeId × Value → H) :
    ReturnsInHanded {} Tryz.checked os 3 .any (Rows.diskFitsSpec.pre6 enc Tryz.prog Tryz.f3 Rows.diskFitsRow.domain false) (Rows.diskFitsSpec.post enc Tryz.prog Tryz.f3 false true false false) := by
  refine returnsInHanded_of_change_sized (C := Tryz.checked) own started (by kernel_rfl) Tryz.func3
    (ChangeSpec.witness6 (enc := enc) (C := Tryz.checked) false ⟨#[], #[.int .u8 0, .int .u8 0, .int .u8 0, .int .u8 0, .slice none 0 0], []⟩ 8 (by kernel_rfl) (by kernel_rfl) (by kernel_rfl) (by kernel_rfl)) ?_
  intro W base args ds gs before hval0 hW hcnd hsz0 _
  have hval : ∀ (j : Nat) t v, Tryz.f3.params[j]? = some t → args[j]? = some v → Value.okWide Tryz.prog W .any base t v := hval0
  have hW' := hW
  obtain ⟨p, q, hA0, hV, rfl, hfz, hnd⟩ := hW
  have hA : DataW.TrodAll enc Tryz.prog W 0 (fun _ => true) true Tryz.f3.params.toList args.toList ds p := hA0
  rw [Tryz.params3] at hA hval
  obtain ⟨v0, vs0, d0, ds0, p0, q0, hargs, rfl, rfl, h0, r0⟩ := trodAll_cons hA
  obtain ⟨v1, vs1, d1, ds1, p1, q1, rfl, rfl, rfl, h1, r1⟩ := trodAll_cons r0
  obtain ⟨v2, vs2, d2, ds2, p2, q2, rfl, rfl, rfl, h2, r2⟩ := trodAll_cons r1
  obtain ⟨v3, vs3, d3, ds3, p3, q3, rfl, rfl, rfl, h3, r3⟩ := trodAll_cons r2
  obtain ⟨v4, vs4, d4, ds4, p4, q4, rfl, rfl, rfl, h4, r4⟩ := trodAll_cons r3
  obtain ⟨rfl, rfl, rfl⟩ := trodAll_nil r4
  obtain rfl : args = #[v0, v1, v2, v3, v4] := by cases args; simp_all
  obtain ⟨rfl, rfl⟩ := trodVars_none hV
  have k0 := h0
  have lt0 : ∀ x ∈ p0, x.block < W.heap.size := by obtain ⟨m, hm⟩ := k0; exact DataW.trod_lt m _ _ _ hm
  obtain ⟨x0, w0⟩ : ∃ x, Clk.IsArg ((.int .u8)) W v0 x := Clk.zg6 (n := 8) (t := 5) (by kernel_rfl) (by obtain ⟨m, rfl⟩ := okWide_int Tryz.underlying5 (hval 0 5 v0 rfl rfl); exact .inr ⟨rfl, rfl⟩) h0
  have k1 := h1
  have lt1 : ∀ x ∈ p1, x.block < W.heap.size := by obtain ⟨m, hm⟩ := k1; exact DataW.trod_lt m _ _ _ hm
  obtain ⟨x1, w1⟩ : ∃ x, Clk.IsArg ((.int .u8)) W v1 x := Clk.zg6 (n := 8) (t := 5) (by kernel_rfl) (by obtain ⟨m, rfl⟩ := okWide_int Tryz.underlying5 (hval 1 5 v1 rfl rfl); exact .inr ⟨rfl, rfl⟩) h1
  have k2 := h2
  have lt2 : ∀ x ∈ p2, x.block < W.heap.size := by obtain ⟨m, hm⟩ := k2; exact DataW.trod_lt m _ _ _ hm
  obtain ⟨x2, w2⟩ : ∃ x, Clk.IsArg ((.int .u8)) W v2 x := Clk.zg6 (n := 8) (t := 5) (by kernel_rfl) (by obtain ⟨m, rfl⟩ := okWide_int Tryz.underlying5 (hval 2 5 v2 rfl rfl); exact .inr ⟨rfl, rfl⟩) h2
  have k3 := h3
  have lt3 : ∀ x ∈ p3, x.block < W.heap.size := by obtain ⟨m, hm⟩ := k3; exact DataW.trod_lt m _ _ _ hm
  obtain ⟨x3, w3⟩ : ∃ x, Clk.IsArg ((.int .u8)) W v3 x := Clk.zg6 (n := 8) (t := 5) (by kernel_rfl) (by obtain ⟨m, rfl⟩ := okWide_int Tryz.underlying5 (hval 3 5 v3 rfl rfl); exact .inr ⟨rfl, rfl⟩) h3
  have k4 := h4
  have lt4 : ∀ x ∈ p4, x.block < W.heap.size := by obtain ⟨m, hm⟩ := k4; exact DataW.trod_lt m _ _ _ hm
  obtain ⟨x4, w4⟩ : ∃ x, Clk.IsArg ((.list (.int .u8))) W v4 x := Clk.zg6 (n := 8) (t := 22) (by kernel_rfl) (by obtain ⟨a, len, cap, rfl⟩ := okWide_slice Tryz.underlying22 (hval 4 22 v4 rfl rfl); exact .inr ⟨rfl, rfl⟩) h4
  clear hA0 hval0 hsz0
  refine (walk W v0 x0 w0 v1 x1 w1 v2 x2 w2 v3 x3 w3 v4 x4 w4).mono fun e W' ⟨he, bel⟩ => ?_
  subst he
  exact ⟨_, rfl, _, _, _, [], _, [], hW', trodAll_mk1 (shut_bool Tryz.underlying4 _), (trodAll_cons_mk (Below.trod laidOut (by kernel_rfl) (of_decide_eq_true (by kernel_rfl)) k0 bel lt0) (trodAll_cons_mk (Below.trod laidOut (by kernel_rfl) (of_decide_eq_true (by kernel_rfl)) k1 bel lt1) (trodAll_cons_mk (Below.trod laidOut (by kernel_rfl) (of_decide_eq_true (by kernel_rfl)) k2 bel lt2) (trodAll_cons_mk (Below.trod laidOut (by kernel_rfl) (of_decide_eq_true (by kernel_rfl)) k3 bel lt3) (trodAll_cons_mk (Below.trod laidOut (by kernel_rfl) (of_decide_eq_true (by kernel_rfl)) k4 bel lt4) trodAll_mk0))))), rfl, bel.frame _, fun h => by cases h⟩
theorem over (walk : ∀ (W : World) (v0 : Value) (x0 : Clk.TC.den ((.int .u8))) (w0 : Clk.IsArg ((.int .u8)) W v0 x0) (v1 : Value) (x1 : Clk.TC.den ((.int .u8))) (w1 : Clk.IsArg ((.int .u8)) W v1 x1) (v2 : Value) (x2 : Clk.TC.den ((.int .u8))) (w2 : Clk.IsArg ((.int .u8)) W v2 x2) (v3 : Value) (x3 : Clk.TC.den ((.int .u8))) (w3 : Clk.IsArg ((.int .u8)) W v3 x3) (v4 : Value) (x4 : Clk.TC.den ((.list (.int .u8)))) (w4 : Clk.IsArg ((.list (.int .u8))) W v4 x4), Calls Tryz.prog 3 #[v0, v1, v2, v3, v4] W fun e w' => e = .returned (.bool true) ∧ Below W.heap.size W w') : Rows.diskFitsRow.holds Tryz.pinned (OpenSpec.ofChange Rows.diskFitsSpec) :=
  OpenClaim.holds_of_wide 3 Tryz.f3 rfl rfl rfl rfl rfl rfl rfl ⟨rfl, rfl, rfl, rfl, rfl⟩ rfl rfl rfl rfl rfl (by kernel_rfl) Tryz.func3 (by kernel_rfl)
    (of_decide_eq_true (by kernel_rfl)) (by unfold Func.isWrapper; first | (rw [if_pos (by decide +kernel)]; kernel_rfl) | (rw [if_neg (by decide +kernel)]; exact ⟨rfl, rfl⟩))
    (fun os started H enc _ => lifted walk os started H enc)
theorem holds : Rows.DiskFitsSaid := over fun W v0 x0 w0 v1 x1 w1 v2 x2 w2 v3 x3 w3 v4 x4 w4 => Clk.zyh (s := ⟨[(.int .u8), (.int .u8), (.int .u8), (.int .u8), (.list (.int .u8))], [.bool], Clk.z5d⟩) Clk.YtpncgjcflkhemaaGreat.zhz (by kernel_rfl) (x := (x0, x1, x2, x3, x4)) (y := true) (Clk.ztk x0 x1 x2 x3 x4) rfl (Clk.IRel.cons w0.1 (.cons w1.1 (.cons w2.1 (.cons w3.1 (.cons w4.1 .nil)))))
end Go.Proofs.YtpncgjcflkhemaaGreat.diskFits
