/- A part of the proof of ScanErase: an evaluator of the program's code that the kernel runs, its soundness, what the functions compute. -/
import Derived.Test.YtpncgjcflkhemaaPartD
set_option linter.unusedVariables false
set_option linter.unusedSimpArgs false
namespace Clk
open Go
set_option linter.unusedVariables false
noncomputable def G_ref03_Same (a0 : Record) (a1 : Record) : Option (Bool) :=
 cond (decide (a0.kind = a1.kind))
  (cond (decide (a0.seq = a1.seq))
    (Option.bind (S_ref02_Same (a0.keys, a1.keys)) fun r1 =>
    cond r1
     (Option.bind (S_ref02_Same (a0.values, a1.values)) fun r2 =>
     some r2)
     (some false))
    (some false))
  (some false)
noncomputable def S_ref03_Same (x : Record × Record) : Option (Bool) := G_ref03_Same x.1 x.2
noncomputable def G_ref06_Same_L1 (ih0 : ((List Found) × (List Found) × Int) → Option (Bool)) (v1 : (List Found)) (v2 : (List Found)) (v3 : Int) : Option (Bool) :=
 cond (decide (v3 < ((v1.length : Nat) : Int)))
  (cond (decide (0 ≤ v3)) (cond (decide (v3 < ((v1.length : Nat) : Int))) (cond (decide (0 ≤ v3)) (cond (decide (v3 < ((v2.length : Nat) : Int))) (cond (!(decide ((v1.getD (Int.toNat v3) default).place = (v2.getD (Int.toNat v3) default).place)))
    (some false)
    (cond (decide (0 ≤ v3)) (cond (decide (v3 < ((v1.length : Nat) : Int))) (cond (decide (0 ≤ v3)) (cond (decide (v3 < ((v2.length : Nat) : Int))) (Option.bind (S_ref03_Same ((v1.getD (Int.toNat v3) default).record, (v2.getD (Int.toNat v3) default).record)) fun r4 =>
    cond (!r4)
     (some false)
     (ih0 (v1, v2, (w64 (v3 + 1))))) none) none) none) none)) none) none) none) none)
  (some true)
noncomputable def F_ref06_Same_L1 : (((List Found) × (List Found) × Int) → Option (Bool)) → ((List Found) × (List Found) × Int) → Option (Bool) := fun ih x => G_ref06_Same_L1 ih x.1 x.2.1 x.2.2
theorem F_ref06_Same_L1_eq (ih : ((List Found) × (List Found) × Int) → Option (Bool)) (x : (List Found) × (List Found) × Int) : F_ref06_Same_L1 ih x = G_ref06_Same_L1 ih x.1 x.2.1 x.2.2 := rfl
noncomputable def G_ref06_Same (N : Nat) (a0 : (List Found)) (a1 : (List Found)) : Option (Bool) :=
 cond (!(decide (((a0.length : Nat) : Int) = ((a1.length : Nat) : Int))))
  (some false)
  (iterF F_ref06_Same_L1 N (a0, a1, 0))
noncomputable def S_ref06_Same (x : (List Found) × (List Found)) : Option (Bool) := lim fun N => G_ref06_Same N x.1 x.2
noncomputable def G_law06_ScanErase_L1 (ih0 : (Bool × Int × (List Found) × Int × Chip × (List Found)) → Option (Bool)) (v1 : Bool) (v2 : Int) (v3 : (List Found)) (v4 : Int) (v5 : Chip) (v6 : (List Found)) : Option (Bool) :=
 cond (decide (v4 < ((v3.length : Nat) : Int)))
  (cond (decide (0 ≤ v4)) (cond (decide (v4 < ((v3.length : Nat) : Int))) (cond (!(decide ((w64 (Int.tdiv (v3.getD (Int.toNat v4) default).place 16)) = v2)))
    (cond (decide (0 ≤ v4)) (cond (decide (v4 < ((v3.length : Nat) : Int))) (cond (decide ((v6.length + [(v3.getD (Int.toNat v4) default)].length) * 72 ≤ 70368744177664)) (cond (decide (v6.length + [(v3.getD (Int.toNat v4) default)].length ≤ 70368744177664)) (ih0 (v1, v2, v3, (w64 (v4 + 1)), v5, (v6 ++ [(v3.getD (Int.toNat v4) default)]))) none) none) none) none)
    (ih0 (v1, v2, v3, (w64 (v4 + 1)), v5, v6))) none) none)
  (cond v1
    (Option.bind (S_scan_All v5) fun r7 =>
    Option.bind (S_ref06_Same (r7, v6)) fun r8 =>
    some r8)
    (some false))
noncomputable def F_law06_ScanErase_L1 : ((Bool × Int × (List Found) × Int × Chip × (List Found)) → Option (Bool)) → (Bool × Int × (List Found) × Int × Chip × (List Found)) → Option (Bool) := fun ih x => G_law06_ScanErase_L1 ih x.1 x.2.1 x.2.2.1 x.2.2.2.1 x.2.2.2.2.1 x.2.2.2.2.2
theorem F_law06_ScanErase_L1_eq (ih : (Bool × Int × (List Found) × Int × Chip × (List Found)) → Option (Bool)) (x : Bool × Int × (List Found) × Int × Chip × (List Found)) : F_law06_ScanErase_L1 ih x = G_law06_ScanErase_L1 ih x.1 x.2.1 x.2.2.1 x.2.2.2.1 x.2.2.2.2.1 x.2.2.2.2.2 := rfl
noncomputable def G_law06_ScanErase (N : Nat) (a0 : (List Int)) (a1 : Int) : Option (Bool) :=
 Option.bind (S_law06_awake ()) fun r1 =>
 cond (!r1)
  (some false)
  (Option.bind (S_law06_Made (a0, 4, 5)) fun r2 =>
  Option.bind (S_ref05_Erase (r2, (Int.tmod (w64 a1) 4), (Fate.mk 0 [] [] 0))) fun r3 =>
  cond (!(decide (r3.2 = 0)))
   (some r1)
   (Option.bind (S_scan_All r2) fun r4 =>
   iterF F_law06_ScanErase_L1 N (r1, (Int.tmod (w64 a1) 4), r4, 0, r3.1, [])))
noncomputable def S_law06_ScanErase (x : (List Int) × Int) : Option (Bool) := lim fun N => G_law06_ScanErase N x.1 x.2
end Clk
