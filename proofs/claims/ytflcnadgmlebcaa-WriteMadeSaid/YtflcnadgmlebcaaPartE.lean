/- A part of the proof of WriteMade: an evaluator of the program's code that the kernel runs, its soundness, what the functions compute. -/
import Derived.Test.YtflcnadgmlebcaaPartD
import Derived.Test.YtflcnadgmlebcaaProg
import Derived.KernelRfl
set_option linter.unusedVariables false
set_option linter.unusedSimpArgs false
namespace Clk
open Go
set_option linter.unusedVariables false
noncomputable def G_ref14_Fits (a0 : Geometry) : Option (Bool) :=
  cond (decide (1 ≤ a0.blocks))
    (cond (decide (a0.blocks ≤ 32))
      (cond (decide (2 ≤ a0.pages))
        (cond (decide (a0.pages ≤ 16))
          (cond (decide (1 ≤ a0.sectors))
            (cond (decide (a0.sectors ≤ 64))
              (cond (decide (0 ≤ a0.spare))
                (cond (decide (a0.spare ≤ 32))
                  (some (decide ((w64 (2 * a0.sectors)) < (w64 ((w64 ((w64 (a0.blocks - (w64 (2 * a0.spare)))) - 3)) * a0.pages)))))
                  (some false))
                (some false))
              (some false))
            (some false))
          (some false))
        (some false))
      (some false))
    (some false)
noncomputable def S_ref14_Fits (x : Geometry) : Option (Bool) := G_ref14_Fits x
noncomputable def G_ref07_Apply_L1 (ih0 : (Int × Found × (List Int) × (List Int)) → Option (Table)) (v1 : Int) (v2 : Found) (v3 : (List Int)) (v4 : (List Int)) : Option (Table) :=
  cond (decide (v1 < ((v2.record.keys.length : Nat) : Int)))
    (cond (decide (0 ≤ v1)) (cond (decide (v1 < ((v2.record.keys.length : Nat) : Int))) (cond (decide ((v2.record.keys.getD (Int.toNat v1) 0) < 0))
      (ih0 ((w64 (v1 + 1)), v2, v3, v4))
      (cond (decide (((v3.length : Nat) : Int) ≤ (v2.record.keys.getD (Int.toNat v1) 0)))
        (ih0 ((w64 (v1 + 1)), v2, v3, v4))
        (cond (decide (((v4.length : Nat) : Int) ≤ (v2.record.keys.getD (Int.toNat v1) 0)))
          (ih0 ((w64 (v1 + 1)), v2, v3, v4))
          (cond (decide (v2.record.kind = 1))
            (cond (decide (0 ≤ (v2.record.keys.getD (Int.toNat v1) 0))) (cond (decide ((v2.record.keys.getD (Int.toNat v1) 0) < ((v3.length : Nat) : Int))) (cond (decide ((Int.toNat (v2.record.keys.getD (Int.toNat v1) 0)) < v3.length)) (cond (decide (0 ≤ (v2.record.keys.getD (Int.toNat v1) 0))) (cond (decide ((v2.record.keys.getD (Int.toNat v1) 0) < ((v4.length : Nat) : Int))) (cond (decide ((Int.toNat (v2.record.keys.getD (Int.toNat v1) 0)) < v4.length)) (ih0 ((w64 (v1 + 1)), v2, (v3.set (Int.toNat (v2.record.keys.getD (Int.toNat v1) 0)) v2.place), (v4.set (Int.toNat (v2.record.keys.getD (Int.toNat v1) 0)) v2.place))) none) none) none) none) none) none)
            (cond (decide (v2.record.kind = 2))
              (cond (decide (v1 < ((v2.record.values.length : Nat) : Int)))
                (cond (decide (0 ≤ v1)) (cond (decide (v1 < ((v2.record.values.length : Nat) : Int))) (cond (decide (0 ≤ (v2.record.keys.getD (Int.toNat v1) 0))) (cond (decide ((v2.record.keys.getD (Int.toNat v1) 0) < ((v3.length : Nat) : Int))) (cond (decide ((Int.toNat (v2.record.keys.getD (Int.toNat v1) 0)) < v3.length)) (cond (decide (0 ≤ (v2.record.keys.getD (Int.toNat v1) 0))) (cond (decide ((v2.record.keys.getD (Int.toNat v1) 0) < ((v4.length : Nat) : Int))) (cond (decide ((Int.toNat (v2.record.keys.getD (Int.toNat v1) 0)) < v4.length)) (ih0 ((w64 (v1 + 1)), v2, (v3.set (Int.toNat (v2.record.keys.getD (Int.toNat v1) 0)) (v2.record.values.getD (Int.toNat v1) 0)), (v4.set (Int.toNat (v2.record.keys.getD (Int.toNat v1) 0)) v2.place))) none) none) none) none) none) none) none) none)
                (ih0 ((w64 (v1 + 1)), v2, v3, v4)))
              (ih0 ((w64 (v1 + 1)), v2, v3, v4))))))) none) none)
    (some (Table.mk v3 v4))
noncomputable def F_ref07_Apply_L1 : ((Int × Found × (List Int) × (List Int)) → Option (Table)) → (Int × Found × (List Int) × (List Int)) → Option (Table) := fun ih x => G_ref07_Apply_L1 ih x.1 x.2.1 x.2.2.1 x.2.2.2
theorem F_ref07_Apply_L1_eq (ih : (Int × Found × (List Int) × (List Int)) → Option (Table)) (x : Int × Found × (List Int) × (List Int)) : F_ref07_Apply_L1 ih x = G_ref07_Apply_L1 ih x.1 x.2.1 x.2.2.1 x.2.2.2 := rfl
noncomputable def G_ref07_Apply (N : Nat) (a0 : Table) (a1 : Found) : Option (Table) :=
  cond (decide ((0 + a0.map.length) * 8 ≤ 70368744177664)) (cond (decide (0 + a0.map.length ≤ 70368744177664)) (cond (decide ((0 + a0.by_.length) * 8 ≤ 70368744177664)) (cond (decide (0 + a0.by_.length ≤ 70368744177664)) (iterF F_ref07_Apply_L1 N (0, a1, ([] ++ a0.map), ([] ++ a0.by_))) none) none) none) none
noncomputable def S_ref07_Apply (x : Table × Found) : Option (Table) := lim fun N => G_ref07_Apply N x.1 x.2
noncomputable def G_ref07_New_L1 (ih0 : (Int × Int × (List Int) × (List Int)) → Option (Table)) (v1 : Int) (v2 : Int) (v3 : (List Int)) (v4 : (List Int)) : Option (Table) :=
  cond (decide (v2 < v1))
    (cond (decide (v2 < 64))
      (cond (decide ((v3.length + [(-1)].length) * 8 ≤ 70368744177664)) (cond (decide (v3.length + [(-1)].length ≤ 70368744177664)) (cond (decide ((v4.length + [(-1)].length) * 8 ≤ 70368744177664)) (cond (decide (v4.length + [(-1)].length ≤ 70368744177664)) (ih0 (v1, (w64 (v2 + 1)), (v3 ++ [(-1)]), (v4 ++ [(-1)]))) none) none) none) none)
      (some (Table.mk v3 v4)))
    (some (Table.mk v3 v4))
noncomputable def F_ref07_New_L1 : ((Int × Int × (List Int) × (List Int)) → Option (Table)) → (Int × Int × (List Int) × (List Int)) → Option (Table) := fun ih x => G_ref07_New_L1 ih x.1 x.2.1 x.2.2.1 x.2.2.2
theorem F_ref07_New_L1_eq (ih : (Int × Int × (List Int) × (List Int)) → Option (Table)) (x : Int × Int × (List Int) × (List Int)) : F_ref07_New_L1 ih x = G_ref07_New_L1 ih x.1 x.2.1 x.2.2.1 x.2.2.2 := rfl
noncomputable def G_ref07_New (N : Nat) (a0 : Int) : Option (Table) :=
  iterF F_ref07_New_L1 N (a0, 0, [], [])
noncomputable def S_ref07_New (x : Int) : Option (Table) := lim fun N => G_ref07_New N x
noncomputable def G_ref03_keys_L1 (ih0 : ((List Int) × Int) → Option (Bool)) (v1 : (List Int)) (v2 : Int) : Option (Bool) :=
  cond (decide (v2 < ((v1.length : Nat) : Int)))
    (cond (decide (0 ≤ v2)) (cond (decide (v2 < ((v1.length : Nat) : Int))) (cond (decide ((v1.getD (Int.toNat v2) 0) < 0))
      (some false)
      (cond (decide (0 ≤ v2)) (cond (decide (v2 < ((v1.length : Nat) : Int))) (cond (decide (64 ≤ (v1.getD (Int.toNat v2) 0)))
        (some false)
        (cond (decide (0 < v2))
          (cond (decide (0 ≤ v2)) (cond (decide (v2 < ((v1.length : Nat) : Int))) (cond (decide (0 ≤ (w64 (v2 - 1)))) (cond (decide ((w64 (v2 - 1)) < ((v1.length : Nat) : Int))) (cond (decide ((v1.getD (Int.toNat v2) 0) ≤ (v1.getD (Int.toNat (w64 (v2 - 1))) 0)))
            (some false)
            (ih0 (v1, (w64 (v2 + 1))))) none) none) none) none)
          (ih0 (v1, (w64 (v2 + 1)))))) none) none)) none) none)
    (cond (decide (0 < ((v1.length : Nat) : Int)))
      (some (decide (((v1.length : Nat) : Int) ≤ 8)))
      (some false))
noncomputable def F_ref03_keys_L1 : (((List Int) × Int) → Option (Bool)) → ((List Int) × Int) → Option (Bool) := fun ih x => G_ref03_keys_L1 ih x.1 x.2
theorem F_ref03_keys_L1_eq (ih : ((List Int) × Int) → Option (Bool)) (x : (List Int) × Int) : F_ref03_keys_L1 ih x = G_ref03_keys_L1 ih x.1 x.2 := rfl
noncomputable def G_ref03_keys (N : Nat) (a0 : (List Int)) : Option (Bool) :=
  iterF F_ref03_keys_L1 N (a0, 0)
noncomputable def S_ref03_keys (x : (List Int)) : Option (Bool) := lim fun N => G_ref03_keys N x
noncomputable def G_ref03_Right_L1 (ih0 : (Int × Record) → Option (Bool)) (v1 : Int) (v2 : Record) : Option (Bool) :=
  cond (decide (v1 < ((v2.values.length : Nat) : Int)))
    (cond (decide (0 ≤ v1)) (cond (decide (v1 < ((v2.values.length : Nat) : Int))) (cond (decide ((v2.values.getD (Int.toNat v1) 0) < (-1)))
      (some false)
      (cond (decide (0 ≤ v1)) (cond (decide (v1 < ((v2.values.length : Nat) : Int))) (cond (decide (512 ≤ (v2.values.getD (Int.toNat v1) 0)))
        (some false)
        (ih0 ((w64 (v1 + 1)), v2))) none) none)) none) none)
    (cond (decide (v2.kind = 2))
      (some (decide (((v2.values.length : Nat) : Int) = ((v2.keys.length : Nat) : Int))))
      (some false))
noncomputable def F_ref03_Right_L1 : ((Int × Record) → Option (Bool)) → (Int × Record) → Option (Bool) := fun ih x => G_ref03_Right_L1 ih x.1 x.2
theorem F_ref03_Right_L1_eq (ih : (Int × Record) → Option (Bool)) (x : Int × Record) : F_ref03_Right_L1 ih x = G_ref03_Right_L1 ih x.1 x.2 := rfl
noncomputable def G_ref03_Right (N : Nat) (a0 : Record) : Option (Bool) :=
  cond (decide (a0.seq < 0))
    (some false)
    (cond (decide (1099511627776 < a0.seq))
      (some false)
      (Option.bind (S_ref03_keys a0.keys) fun r1 =>
      cond (!r1)
        (some false)
        (cond (decide (a0.kind = 1))
          (some (decide (((a0.values.length : Nat) : Int) = 0)))
          (iterF F_ref03_Right_L1 N (0, a0)))))
noncomputable def S_ref03_Right (x : Record) : Option (Bool) := lim fun N => G_ref03_Right N x
noncomputable def G_ref02_Put_L1 (ih0 : (Int × Str) → Option (Str)) (v1 : Int) (v2 : Str) : Option (Str) :=
  cond (decide (127 < v1))
    (cond (decide (v2.length + (bytesOf [(Go.IntKind.u8.wrap (w64 (128 + (Int.tmod v1 128))))]).length ≤ 9223372036854775807)) (ih0 ((w64 (Int.tdiv v1 128)), (v2 ++ (bytesOf [(Go.IntKind.u8.wrap (w64 (128 + (Int.tmod v1 128))))])))) none)
    (cond (decide (v2.length + (bytesOf [(Go.IntKind.u8.wrap v1)]).length ≤ 9223372036854775807)) (some (v2 ++ (bytesOf [(Go.IntKind.u8.wrap v1)]))) none)
noncomputable def F_ref02_Put_L1 : ((Int × Str) → Option (Str)) → (Int × Str) → Option (Str) := fun ih x => G_ref02_Put_L1 ih x.1 x.2
theorem F_ref02_Put_L1_eq (ih : (Int × Str) → Option (Str)) (x : Int × Str) : F_ref02_Put_L1 ih x = G_ref02_Put_L1 ih x.1 x.2 := rfl
noncomputable def G_ref02_Put (N : Nat) (a0 : Int) : Option (Str) :=
  cond (decide (a0 < 0))
    (some [])
    (cond (decide (1099511627776 < a0))
      (some [])
      (iterF F_ref02_Put_L1 N (a0, [])))
noncomputable def S_ref02_Put (x : Int) : Option (Str) := lim fun N => G_ref02_Put N x
noncomputable def G_ref02_Pack_L1 (ih0 : ((List Int) × Str × Int) → Option (Str × Int)) (v1 : (List Int)) (v2 : Str) (v3 : Int) : Option (Str × Int) :=
  cond (decide (v3 < ((v1.length : Nat) : Int)))
    (cond (decide (0 ≤ v3)) (cond (decide (v3 < ((v1.length : Nat) : Int))) (Option.bind (S_ref02_Put (v1.getD (Int.toNat v3) 0)) fun r4 =>
    cond (decide (r4 = []))
      (some ([], 1))
      (cond (decide (v2.length + r4.length ≤ 9223372036854775807)) (ih0 (v1, (v2 ++ r4), (w64 (v3 + 1)))) none)) none) none)
    (some (v2, 0))
noncomputable def F_ref02_Pack_L1 : (((List Int) × Str × Int) → Option (Str × Int)) → ((List Int) × Str × Int) → Option (Str × Int) := fun ih x => G_ref02_Pack_L1 ih x.1 x.2.1 x.2.2
theorem F_ref02_Pack_L1_eq (ih : ((List Int) × Str × Int) → Option (Str × Int)) (x : (List Int) × Str × Int) : F_ref02_Pack_L1 ih x = G_ref02_Pack_L1 ih x.1 x.2.1 x.2.2 := rfl
noncomputable def G_ref02_Pack (N : Nat) (a0 : (List Int)) : Option (Str × Int) :=
  Option.bind (S_ref02_Put ((a0.length : Nat) : Int)) fun r1 =>
  iterF F_ref02_Pack_L1 N (a0, r1, 0)
noncomputable def S_ref02_Pack (x : (List Int)) : Option (Str × Int) := lim fun N => G_ref02_Pack N x
noncomputable def G_ref03_body_L1 (ih0 : (Int × Record × (List Int) × (List Int)) → Option (Str)) (v1 : Int) (v2 : Record) (v3 : (List Int)) (v4 : (List Int)) : Option (Str) :=
  cond (decide (v1 < ((v2.values.length : Nat) : Int)))
    (cond (decide (0 ≤ v1)) (cond (decide (v1 < ((v2.values.length : Nat) : Int))) (cond (decide ((v4.length + [(w64 ((v2.values.getD (Int.toNat v1) 0) + 1))].length) * 8 ≤ 70368744177664)) (cond (decide (v4.length + [(w64 ((v2.values.getD (Int.toNat v1) 0) + 1))].length ≤ 70368744177664)) (ih0 ((w64 (v1 + 1)), v2, v3, (v4 ++ [(w64 ((v2.values.getD (Int.toNat v1) 0) + 1))]))) none) none) none) none)
    (Option.bind (S_ref02_Pack v3) fun r5 =>
    Option.bind (S_ref02_Pack v2.keys) fun r6 =>
    Option.bind (S_ref02_Pack v4) fun r7 =>
    cond (decide (r5.1.length + r6.1.length ≤ 9223372036854775807)) (cond (decide ((r5.1 ++ r6.1).length + r7.1.length ≤ 9223372036854775807)) (some ((r5.1 ++ r6.1) ++ r7.1)) none) none)
noncomputable def F_ref03_body_L1 : ((Int × Record × (List Int) × (List Int)) → Option (Str)) → (Int × Record × (List Int) × (List Int)) → Option (Str) := fun ih x => G_ref03_body_L1 ih x.1 x.2.1 x.2.2.1 x.2.2.2
theorem F_ref03_body_L1_eq (ih : (Int × Record × (List Int) × (List Int)) → Option (Str)) (x : Int × Record × (List Int) × (List Int)) : F_ref03_body_L1 ih x = G_ref03_body_L1 ih x.1 x.2.1 x.2.2.1 x.2.2.2 := rfl
noncomputable def G_ref03_body (N : Nat) (a0 : Record) : Option (Str) :=
  iterF F_ref03_body_L1 N (0, a0, [a0.kind, a0.seq], [])
noncomputable def S_ref03_body (x : Record) : Option (Str) := lim fun N => G_ref03_body N x
noncomputable def G_ref01_Bytes (a0 : Int) : Option (Str) :=
  cond (decide (a0 < 0))
    (some [])
    (cond (decide (4294967295 < a0))
      (some [])
      (some (bytesOf [(Go.IntKind.u8.wrap (Int.tmod a0 256)), (Go.IntKind.u8.wrap (Int.tmod (w64 (Int.tdiv a0 256)) 256)), (Go.IntKind.u8.wrap (Int.tmod (w64 (Int.tdiv a0 65536)) 256)), (Go.IntKind.u8.wrap (w64 (Int.tdiv a0 16777216)))])))
noncomputable def S_ref01_Bytes (x : Int) : Option (Str) := G_ref01_Bytes x
noncomputable def G_ref01_step (a0 : Int) : Option (Int) :=
  cond (decide ((Int.tmod a0 2) = 1))
    (some (w64 (bXor .i64 (w64 (Int.tdiv a0 2)) 3988292384)))
    (some (w64 (Int.tdiv a0 2)))
noncomputable def S_ref01_step (x : Int) : Option (Int) := G_ref01_step x
noncomputable def G_ref01_Sum_L2 (ih0 : (Str × Int × Int) → Option (Int)) (ih1 : (Str × Int × Int × Int) → Option (Int)) (v2 : Str) (v3 : Int) (v4 : Int) (v5 : Int) : Option (Int) :=
  cond (decide (v5 < 8))
    (Option.bind (S_ref01_step v3) fun r6 =>
    ih1 (v2, r6, v4, (w64 (v5 + 1))))
    (ih0 (v2, v3, (w64 (v4 + 1))))
noncomputable def F_ref01_Sum_L2 (ih4 : (Str × Int × Int) → Option (Int)) : ((Str × Int × Int × Int) → Option (Int)) → (Str × Int × Int × Int) → Option (Int) := fun ih x => G_ref01_Sum_L2 ih4 ih x.1 x.2.1 x.2.2.1 x.2.2.2
noncomputable def G_ref01_Sum_L1 (N : Nat) (ih0 : (Str × Int × Int) → Option (Int)) (v1 : Str) (v2 : Int) (v3 : Int) : Option (Int) :=
  cond (decide (v3 < ((v1.length : Nat) : Int)))
    (cond (decide (0 ≤ v3)) (cond (decide (v3 < ((v1.length : Nat) : Int))) (iterF (F_ref01_Sum_L2 ih0) N (v1, (w64 (bXor .i64 v2 (w64 ((v1.getD (Int.toNat v3) 0).toNat : Int)))), v3, 0)) none) none)
    (some (w64 (bXor .i64 v2 4294967295)))
noncomputable def F_ref01_Sum_L1 (N : Nat) : ((Str × Int × Int) → Option (Int)) → (Str × Int × Int) → Option (Int) := fun ih x => G_ref01_Sum_L1 N ih x.1 x.2.1 x.2.2
noncomputable def G_ref01_Sum (N : Nat) (a0 : Str) : Option (Int) :=
  iterF (F_ref01_Sum_L1 N) N (a0, 4294967295, 0)
noncomputable def S_ref01_Sum (x : Str) : Option (Int) := lim fun N => G_ref01_Sum N x
noncomputable def G_ref03_Encode (a0 : Record) (a1 : Str) : Option (Str × Int) :=
  Option.bind (S_ref03_Right a0) fun r1 =>
  cond (!r1)
    (some ([], 1))
    (cond (decide (16 < ((a1.length : Nat) : Int)))
      (some ([], 1))
      (Option.bind (S_ref03_body a0) fun r2 =>
      cond (decide (r2.length + a1.length ≤ 9223372036854775807)) (Option.bind (S_ref01_Sum (r2 ++ a1)) fun r3 =>
      Option.bind (S_ref01_Bytes r3) fun r4 =>
      cond (decide (r2.length + r4.length ≤ 9223372036854775807)) (some ((r2 ++ r4), 0)) none) none))
noncomputable def S_ref03_Encode (x : Record × Str) : Option (Str × Int) := G_ref03_Encode x.1 x.2
noncomputable def G_ref02_Take_L1 (ih0 : (Str × Int × Int × Int) → Option (Int × Str × Bool)) (v1 : Str) (v2 : Int) (v3 : Int) (v4 : Int) : Option (Int × Str × Bool) :=
  cond (decide (v4 < ((v1.length : Nat) : Int)))
    (cond (decide (v4 < 6))
      (cond (decide (0 ≤ v4)) (cond (decide (v4 < ((v1.length : Nat) : Int))) (cond (decide ((w64 ((v1.getD (Int.toNat v4) 0).toNat : Int)) < 128))
        (cond (decide (1099511627776 < (w64 (v2 + (w64 ((Int.tmod (w64 ((v1.getD (Int.toNat v4) 0).toNat : Int)) 128) * v3))))))
          (some (0, [], false))
          (cond (decide (0 < v4))
            (cond (decide ((w64 ((v1.getD (Int.toNat v4) 0).toNat : Int)) = 0))
              (some (0, [], false))
              (cond (decide (0 ≤ (w64 (v4 + 1)))) (cond (decide ((w64 (v4 + 1)) ≤ ((v1.length : Nat) : Int))) (some ((w64 (v2 + (w64 ((Int.tmod (w64 ((v1.getD (Int.toNat v4) 0).toNat : Int)) 128) * v3)))), (v1.drop (Int.toNat (w64 (v4 + 1)))), true)) none) none))
            (cond (decide (0 ≤ (w64 (v4 + 1)))) (cond (decide ((w64 (v4 + 1)) ≤ ((v1.length : Nat) : Int))) (some ((w64 (v2 + (w64 ((Int.tmod (w64 ((v1.getD (Int.toNat v4) 0).toNat : Int)) 128) * v3)))), (v1.drop (Int.toNat (w64 (v4 + 1)))), true)) none) none)))
        (ih0 (v1, (w64 (v2 + (w64 ((Int.tmod (w64 ((v1.getD (Int.toNat v4) 0).toNat : Int)) 128) * v3)))), (w64 (v3 * 128)), (w64 (v4 + 1))))) none) none)
      (some (0, [], false)))
    (some (0, [], false))
noncomputable def F_ref02_Take_L1 : ((Str × Int × Int × Int) → Option (Int × Str × Bool)) → (Str × Int × Int × Int) → Option (Int × Str × Bool) := fun ih x => G_ref02_Take_L1 ih x.1 x.2.1 x.2.2.1 x.2.2.2
theorem F_ref02_Take_L1_eq (ih : (Str × Int × Int × Int) → Option (Int × Str × Bool)) (x : Str × Int × Int × Int) : F_ref02_Take_L1 ih x = G_ref02_Take_L1 ih x.1 x.2.1 x.2.2.1 x.2.2.2 := rfl
noncomputable def G_ref02_Take (N : Nat) (a0 : Str) : Option (Int × Str × Bool) :=
  iterF F_ref02_Take_L1 N (a0, 0, 1, 0)
noncomputable def S_ref02_Take (x : Str) : Option (Int × Str × Bool) := lim fun N => G_ref02_Take N x
noncomputable def G_ref02_Unpack_L1 (ih0 : (Int × Str × Int × (List Int)) → Option ((List Int) × Str × Int)) (v1 : Int) (v2 : Str) (v3 : Int) (v4 : (List Int)) : Option ((List Int) × Str × Int) :=
  cond (decide (v3 < v1))
    (Option.bind (S_ref02_Take v2) fun r5 =>
    cond (!r5.2.2)
      (some ([], [], 20))
      (cond (decide ((v4.length + [r5.1].length) * 8 ≤ 70368744177664)) (cond (decide (v4.length + [r5.1].length ≤ 70368744177664)) (ih0 (v1, r5.2.1, (w64 (v3 + 1)), (v4 ++ [r5.1]))) none) none))
    (some (v4, v2, 0))
noncomputable def F_ref02_Unpack_L1 : ((Int × Str × Int × (List Int)) → Option ((List Int) × Str × Int)) → (Int × Str × Int × (List Int)) → Option ((List Int) × Str × Int) := fun ih x => G_ref02_Unpack_L1 ih x.1 x.2.1 x.2.2.1 x.2.2.2
theorem F_ref02_Unpack_L1_eq (ih : (Int × Str × Int × (List Int)) → Option ((List Int) × Str × Int)) (x : Int × Str × Int × (List Int)) : F_ref02_Unpack_L1 ih x = G_ref02_Unpack_L1 ih x.1 x.2.1 x.2.2.1 x.2.2.2 := rfl
noncomputable def G_ref02_Unpack (N : Nat) (a0 : Str) : Option ((List Int) × Str × Int) :=
  Option.bind (S_ref02_Take a0) fun r1 =>
  cond (!r1.2.2)
    (some ([], [], 20))
    (cond (decide (((r1.2.1.length : Nat) : Int) < r1.1))
      (some ([], [], 20))
      (iterF F_ref02_Unpack_L1 N (r1.1, r1.2.1, 0, [])))
noncomputable def S_ref02_Unpack (x : Str) : Option ((List Int) × Str × Int) := lim fun N => G_ref02_Unpack N x
noncomputable def G_ref03_Decode_L1 (ih0 : (Str × Str × (List Int) × Int × Int × Int × (List Int) × (List Int)) → Option (Record × Int)) (v1 : Str) (v2 : Str) (v3 : (List Int)) (v4 : Int) (v5 : Int) (v6 : Int) (v7 : (List Int)) (v8 : (List Int)) : Option (Record × Int) :=
  cond (decide (v4 < ((v3.length : Nat) : Int)))
    (cond (decide (0 ≤ v4)) (cond (decide (v4 < ((v3.length : Nat) : Int))) (cond (decide ((v8.length + [(w64 ((v3.getD (Int.toNat v4) 0) - 1))].length) * 8 ≤ 70368744177664)) (cond (decide (v8.length + [(w64 ((v3.getD (Int.toNat v4) 0) - 1))].length ≤ 70368744177664)) (ih0 (v1, v2, v3, (w64 (v4 + 1)), v5, v6, v7, (v8 ++ [(w64 ((v3.getD (Int.toNat v4) 0) - 1))]))) none) none) none) none)
    (Option.bind (S_ref03_Encode ((Record.mk v5 v6 v7 v8), v2)) fun r9 =>
    cond (!(decide (r9.2 = 0)))
      (some ((Record.mk 0 0 [] []), 30))
      (cond (!(decide (r9.1 = v1)))
        (some ((Record.mk 0 0 [] []), 30))
        (some ((Record.mk v5 v6 v7 v8), 0))))
noncomputable def F_ref03_Decode_L1 : ((Str × Str × (List Int) × Int × Int × Int × (List Int) × (List Int)) → Option (Record × Int)) → (Str × Str × (List Int) × Int × Int × Int × (List Int) × (List Int)) → Option (Record × Int) := fun ih x => G_ref03_Decode_L1 ih x.1 x.2.1 x.2.2.1 x.2.2.2.1 x.2.2.2.2.1 x.2.2.2.2.2.1 x.2.2.2.2.2.2.1 x.2.2.2.2.2.2.2
theorem F_ref03_Decode_L1_eq (ih : (Str × Str × (List Int) × Int × Int × Int × (List Int) × (List Int)) → Option (Record × Int)) (x : Str × Str × (List Int) × Int × Int × Int × (List Int) × (List Int)) : F_ref03_Decode_L1 ih x = G_ref03_Decode_L1 ih x.1 x.2.1 x.2.2.1 x.2.2.2.1 x.2.2.2.2.1 x.2.2.2.2.2.1 x.2.2.2.2.2.2.1 x.2.2.2.2.2.2.2 := rfl
noncomputable def G_ref03_Decode (N : Nat) (a0 : Str) (a1 : Str) : Option (Record × Int) :=
  Option.bind (S_ref02_Unpack a0) fun r1 =>
  Option.bind (S_ref02_Unpack r1.2.1) fun r2 =>
  Option.bind (S_ref02_Unpack r2.2.1) fun r3 =>
  cond (!(decide (r1.2.2 = 0)))
    (some ((Record.mk 0 0 [] []), 30))
    (cond (!(decide (r2.2.2 = 0)))
      (some ((Record.mk 0 0 [] []), 30))
      (cond (!(decide (r3.2.2 = 0)))
        (some ((Record.mk 0 0 [] []), 30))
        (cond (!(decide (((r1.1.length : Nat) : Int) = 2)))
          (some ((Record.mk 0 0 [] []), 30))
          (cond (decide (0 < ((r1.1.length : Nat) : Int))) (cond (decide (1 < ((r1.1.length : Nat) : Int))) (iterF F_ref03_Decode_L1 N (a0, a1, r3.1, 0, (r1.1.getD 0 0), (r1.1.getD 1 0), r2.1, [])) none) none))))
noncomputable def S_ref03_Decode (x : Str × Str) : Option (Record × Int) := lim fun N => G_ref03_Decode N x.1 x.2
noncomputable def G_ref04_Look (a0 : Page) : Option (Int × Record) :=
  cond (!a0.written)
    (some (0, (Record.mk 0 0 [] [])))
    (Option.bind (S_ref03_Decode (a0.tag, a0.data)) fun r1 =>
    cond (!(decide (r1.2 = 0)))
      (some (2, (Record.mk 0 0 [] [])))
      (some (1, r1.1)))
noncomputable def S_ref04_Look (x : Page) : Option (Int × Record) := G_ref04_Look x
noncomputable def G_ref06_Place (a0 : Int) (a1 : Int) : Option (Int) :=
  cond (decide (a0 < 0))
    (some (-1))
    (cond (decide (32 ≤ a0))
      (some (-1))
      (cond (decide (a1 < 0))
        (some (-1))
        (cond (decide (16 ≤ a1))
          (some (-1))
          (some (w64 ((w64 (a0 * 16)) + a1))))))
noncomputable def S_ref06_Place (x : Int × Int) : Option (Int) := G_ref06_Place x.1 x.2
noncomputable def G_ref06_ahead (a0 : Found) (a1 : Found) : Option (Bool) :=
  cond (decide (a0.record.seq < a1.record.seq))
    (some true)
    (cond (decide (a0.record.seq = a1.record.seq))
      (some (decide (a0.place < a1.place)))
      (some false))
noncomputable def S_ref06_ahead (x : Found × Found) : Option (Bool) := G_ref06_ahead x.1 x.2
noncomputable def G_ref06_put_L1 (ih0 : ((List Found) × Bool × Int × Found × (List Found)) → Option ((List Found))) (v1 : (List Found)) (v2 : Bool) (v3 : Int) (v4 : Found) (v5 : (List Found)) : Option ((List Found)) :=
  cond (decide (v3 < ((v1.length : Nat) : Int)))
    (cond (!v2)
      (cond (decide (0 ≤ v3)) (cond (decide (v3 < ((v1.length : Nat) : Int))) (Option.bind (S_ref06_ahead (v4, (v1.getD (Int.toNat v3) default))) fun r6 =>
      cond r6
        (cond (decide ((v5.length + [v4].length) * 72 ≤ 70368744177664)) (cond (decide (v5.length + [v4].length ≤ 70368744177664)) (cond (decide (0 ≤ v3)) (cond (decide (v3 < ((v1.length : Nat) : Int))) (cond (decide (((v5 ++ [v4]).length + [(v1.getD (Int.toNat v3) default)].length) * 72 ≤ 70368744177664)) (cond (decide ((v5 ++ [v4]).length + [(v1.getD (Int.toNat v3) default)].length ≤ 70368744177664)) (ih0 (v1, true, (w64 (v3 + 1)), v4, ((v5 ++ [v4]) ++ [(v1.getD (Int.toNat v3) default)]))) none) none) none) none) none) none)
        (cond (decide (0 ≤ v3)) (cond (decide (v3 < ((v1.length : Nat) : Int))) (cond (decide ((v5.length + [(v1.getD (Int.toNat v3) default)].length) * 72 ≤ 70368744177664)) (cond (decide (v5.length + [(v1.getD (Int.toNat v3) default)].length ≤ 70368744177664)) (ih0 (v1, v2, (w64 (v3 + 1)), v4, (v5 ++ [(v1.getD (Int.toNat v3) default)]))) none) none) none) none)) none) none)
      (cond (decide (0 ≤ v3)) (cond (decide (v3 < ((v1.length : Nat) : Int))) (cond (decide ((v5.length + [(v1.getD (Int.toNat v3) default)].length) * 72 ≤ 70368744177664)) (cond (decide (v5.length + [(v1.getD (Int.toNat v3) default)].length ≤ 70368744177664)) (ih0 (v1, v2, (w64 (v3 + 1)), v4, (v5 ++ [(v1.getD (Int.toNat v3) default)]))) none) none) none) none))
    (cond (!v2)
      (cond (decide ((v5.length + [v4].length) * 72 ≤ 70368744177664)) (cond (decide (v5.length + [v4].length ≤ 70368744177664)) (some (v5 ++ [v4])) none) none)
      (some v5))
noncomputable def F_ref06_put_L1 : (((List Found) × Bool × Int × Found × (List Found)) → Option ((List Found))) → ((List Found) × Bool × Int × Found × (List Found)) → Option ((List Found)) := fun ih x => G_ref06_put_L1 ih x.1 x.2.1 x.2.2.1 x.2.2.2.1 x.2.2.2.2
theorem F_ref06_put_L1_eq (ih : ((List Found) × Bool × Int × Found × (List Found)) → Option ((List Found))) (x : (List Found) × Bool × Int × Found × (List Found)) : F_ref06_put_L1 ih x = G_ref06_put_L1 ih x.1 x.2.1 x.2.2.1 x.2.2.2.1 x.2.2.2.2 := rfl
noncomputable def G_ref06_put (N : Nat) (a0 : (List Found)) (a1 : Found) : Option ((List Found)) :=
  iterF F_ref06_put_L1 N (a0, false, 0, a1, [])
noncomputable def S_ref06_put (x : (List Found) × Found) : Option ((List Found)) := lim fun N => G_ref06_put N x.1 x.2
noncomputable def G_ref06_All_L2 (ih0 : ((List Found) × Int × Chip) → Option ((List Found))) (ih1 : ((List Found) × Int × Int × Chip) → Option ((List Found))) (v2 : (List Found)) (v3 : Int) (v4 : Int) (v5 : Chip) : Option ((List Found)) :=
  cond (decide (0 ≤ v3)) (cond (decide (v3 < ((v5.blocks.length : Nat) : Int))) (cond (decide (v4 < (((v5.blocks.getD (Int.toNat v3) default).pages.length : Nat) : Int)))
    (cond (decide (0 ≤ v3)) (cond (decide (v3 < ((v5.blocks.length : Nat) : Int))) (cond (decide (0 ≤ v4)) (cond (decide (v4 < (((v5.blocks.getD (Int.toNat v3) default).pages.length : Nat) : Int))) (Option.bind (S_ref04_Look ((v5.blocks.getD (Int.toNat v3) default).pages.getD (Int.toNat v4) default)) fun r6 =>
    Option.bind (S_ref06_Place (v3, v4)) fun r7 =>
    cond (decide (r6.1 = 1))
      (cond (decide (0 ≤ r7))
        (Option.bind (S_ref06_put (v2, (Found.mk r7 r6.2))) fun r8 =>
        ih1 (r8, v3, (w64 (v4 + 1)), v5))
        (ih1 (v2, v3, (w64 (v4 + 1)), v5)))
      (ih1 (v2, v3, (w64 (v4 + 1)), v5))) none) none) none) none)
    (ih0 (v2, (w64 (v3 + 1)), v5))) none) none
noncomputable def F_ref06_All_L2 (ih4 : ((List Found) × Int × Chip) → Option ((List Found))) : (((List Found) × Int × Int × Chip) → Option ((List Found))) → ((List Found) × Int × Int × Chip) → Option ((List Found)) := fun ih x => G_ref06_All_L2 ih4 ih x.1 x.2.1 x.2.2.1 x.2.2.2
theorem F_ref06_All_L2_eq (ih4 : ((List Found) × Int × Chip) → Option ((List Found))) (ih : ((List Found) × Int × Int × Chip) → Option ((List Found))) (x : (List Found) × Int × Int × Chip) : F_ref06_All_L2 ih4 ih x = G_ref06_All_L2 ih4 ih x.1 x.2.1 x.2.2.1 x.2.2.2 := rfl
noncomputable def G_ref06_All_L1 (N : Nat) (ih0 : ((List Found) × Int × Chip) → Option ((List Found))) (v1 : (List Found)) (v2 : Int) (v3 : Chip) : Option ((List Found)) :=
  cond (decide (v2 < ((v3.blocks.length : Nat) : Int)))
    (iterF (F_ref06_All_L2 ih0) N (v1, v2, 0, v3))
    (some v1)
noncomputable def F_ref06_All_L1 (N : Nat) : (((List Found) × Int × Chip) → Option ((List Found))) → ((List Found) × Int × Chip) → Option ((List Found)) := fun ih x => G_ref06_All_L1 N ih x.1 x.2.1 x.2.2
theorem F_ref06_All_L1_eq (N : Nat) (ih : ((List Found) × Int × Chip) → Option ((List Found))) (x : (List Found) × Int × Chip) : F_ref06_All_L1 N ih x = G_ref06_All_L1 N ih x.1 x.2.1 x.2.2 := rfl
noncomputable def G_ref06_All (N : Nat) (a0 : Chip) : Option ((List Found)) :=
  iterF (F_ref06_All_L1 N) N ([], 0, a0)
noncomputable def S_ref06_All (x : Chip) : Option ((List Found)) := lim fun N => G_ref06_All N x
noncomputable def G_ref07_Replay_L1 (ih0 : ((List Found) × Int × Int × Table) → Option (Table × Int)) (v1 : (List Found)) (v2 : Int) (v3 : Int) (v4 : Table) : Option (Table × Int) :=
  cond (decide (v3 < ((v1.length : Nat) : Int)))
    (cond (decide (0 ≤ v3)) (cond (decide (v3 < ((v1.length : Nat) : Int))) (Option.bind (S_ref07_Apply (v4, (v1.getD (Int.toNat v3) default))) fun r5 =>
    cond (decide (0 ≤ v3)) (cond (decide (v3 < ((v1.length : Nat) : Int))) (ih0 (v1, (max v2 (w64 ((v1.getD (Int.toNat v3) default).record.seq + 1))), (w64 (v3 + 1)), r5)) none) none) none) none)
    (some (v4, v2))
noncomputable def F_ref07_Replay_L1 : (((List Found) × Int × Int × Table) → Option (Table × Int)) → ((List Found) × Int × Int × Table) → Option (Table × Int) := fun ih x => G_ref07_Replay_L1 ih x.1 x.2.1 x.2.2.1 x.2.2.2
theorem F_ref07_Replay_L1_eq (ih : ((List Found) × Int × Int × Table) → Option (Table × Int)) (x : (List Found) × Int × Int × Table) : F_ref07_Replay_L1 ih x = G_ref07_Replay_L1 ih x.1 x.2.1 x.2.2.1 x.2.2.2 := rfl
noncomputable def G_ref07_Replay (N : Nat) (a0 : Chip) (a1 : Int) : Option (Table × Int) :=
  Option.bind (S_ref07_New a1) fun r1 =>
  Option.bind (S_ref06_All a0) fun r2 =>
  iterF F_ref07_Replay_L1 N (r2, 0, 0, r1)
noncomputable def S_ref07_Replay (x : Chip × Int) : Option (Table × Int) := lim fun N => G_ref07_Replay N x.1 x.2
noncomputable def G_ref05_On_L1 (ih0 : (Int × Chip × (List Block)) → Option (Chip)) (v1 : Int) (v2 : Chip) (v3 : (List Block)) : Option (Chip) :=
  cond (decide (v1 < ((v2.blocks.length : Nat) : Int)))
    (cond (decide (0 ≤ v1)) (cond (decide (v1 < ((v2.blocks.length : Nat) : Int))) (cond (decide ((0 + (v2.blocks.getD (Int.toNat v1) default).pages.length) * 40 ≤ 70368744177664)) (cond (decide (0 + (v2.blocks.getD (Int.toNat v1) default).pages.length ≤ 70368744177664)) (cond (decide ((v3.length + 1) * 48 ≤ 70368744177664)) (cond (decide (v3.length + 1 ≤ 70368744177664)) (ih0 ((w64 (v1 + 1)), v2, (bPages (v3 ++ [(Block.mk [] (v2.blocks.getD (Int.toNat v1) default).next (v2.blocks.getD (Int.toNat v1) default).erases (v2.blocks.getD (Int.toNat v1) default).bad)]) v3.length ([] ++ (v2.blocks.getD (Int.toNat v1) default).pages)))) none) none) none) none) none) none)
    (some (Chip.mk v3 v2.broken false v2.ops))
noncomputable def F_ref05_On_L1 : ((Int × Chip × (List Block)) → Option (Chip)) → (Int × Chip × (List Block)) → Option (Chip) := fun ih x => G_ref05_On_L1 ih x.1 x.2.1 x.2.2
theorem F_ref05_On_L1_eq (ih : (Int × Chip × (List Block)) → Option (Chip)) (x : Int × Chip × (List Block)) : F_ref05_On_L1 ih x = G_ref05_On_L1 ih x.1 x.2.1 x.2.2 := rfl
noncomputable def G_ref05_On (N : Nat) (a0 : Chip) : Option (Chip) :=
  iterF F_ref05_On_L1 N (0, a0, [])
noncomputable def S_ref05_On (x : Chip) : Option (Chip) := lim fun N => G_ref05_On N x
noncomputable def G_ref14_Mount_L1 (ih0 : (Int × Int × Geometry × Chip) → Option (Device × Int)) (v1 : Int) (v2 : Int) (v3 : Geometry) (v4 : Chip) : Option (Device × Int) :=
  cond (decide (v2 < ((v4.blocks.length : Nat) : Int)))
    (cond (decide (0 ≤ v2)) (cond (decide (v2 < ((v4.blocks.length : Nat) : Int))) (cond (!(decide ((((v4.blocks.getD (Int.toNat v2) default).pages.length : Nat) : Int) = v3.pages)))
      (some ((Device.mk (Geometry.mk 0 0 0 0) (Chip.mk [] false false 0) (Table.mk [] []) 0 0), 1))
      (cond (decide (v1 < 0))
        (cond (!(v4.blocks.getD (Int.toNat v2) default).bad)
          (cond (decide (0 < (v4.blocks.getD (Int.toNat v2) default).next))
            (cond (decide ((v4.blocks.getD (Int.toNat v2) default).next < v3.pages))
              (ih0 (v2, (w64 (v2 + 1)), v3, v4))
              (ih0 (v1, (w64 (v2 + 1)), v3, v4)))
            (ih0 (v1, (w64 (v2 + 1)), v3, v4)))
          (ih0 (v1, (w64 (v2 + 1)), v3, v4)))
        (ih0 (v1, (w64 (v2 + 1)), v3, v4)))) none) none)
    (Option.bind (S_ref07_Replay (v4, v3.sectors)) fun r5 =>
    Option.bind (S_ref05_On v4) fun r6 =>
    some ((Device.mk v3 r6 r5.1 r5.2 v1), 0))
noncomputable def F_ref14_Mount_L1 : ((Int × Int × Geometry × Chip) → Option (Device × Int)) → (Int × Int × Geometry × Chip) → Option (Device × Int) := fun ih x => G_ref14_Mount_L1 ih x.1 x.2.1 x.2.2.1 x.2.2.2
theorem F_ref14_Mount_L1_eq (ih : (Int × Int × Geometry × Chip) → Option (Device × Int)) (x : Int × Int × Geometry × Chip) : F_ref14_Mount_L1 ih x = G_ref14_Mount_L1 ih x.1 x.2.1 x.2.2.1 x.2.2.2 := rfl
noncomputable def G_ref14_Mount (N : Nat) (a0 : Geometry) (a1 : Chip) : Option (Device × Int) :=
  Option.bind (S_ref14_Fits a0) fun r1 =>
  cond (!r1)
    (some ((Device.mk (Geometry.mk 0 0 0 0) (Chip.mk [] false false 0) (Table.mk [] []) 0 0), 1))
    (cond (!(decide (((a1.blocks.length : Nat) : Int) = a0.blocks)))
      (some ((Device.mk (Geometry.mk 0 0 0 0) (Chip.mk [] false false 0) (Table.mk [] []) 0 0), 1))
      (iterF F_ref14_Mount_L1 N ((-1), 0, a0, a1)))
noncomputable def S_ref14_Mount (x : Geometry × Chip) : Option (Device × Int) := lim fun N => G_ref14_Mount N x.1 x.2
noncomputable def G_law14_Small (a0 : Int) : Option (Geometry) :=
  cond (!(decide ((([(Geometry.mk 8 4 5 1), (Geometry.mk 5 4 3 0), (Geometry.mk 12 3 5 2), (Geometry.mk 6 6 8 0), (Geometry.mk 16 2 4 3), (Geometry.mk 10 5 12 1)].length : Nat) : Int) = 0))) (cond (decide (0 ≤ (Int.tmod (w64 a0) (([(Geometry.mk 8 4 5 1), (Geometry.mk 5 4 3 0), (Geometry.mk 12 3 5 2), (Geometry.mk 6 6 8 0), (Geometry.mk 16 2 4 3), (Geometry.mk 10 5 12 1)].length : Nat) : Int)))) (cond (decide ((Int.tmod (w64 a0) (([(Geometry.mk 8 4 5 1), (Geometry.mk 5 4 3 0), (Geometry.mk 12 3 5 2), (Geometry.mk 6 6 8 0), (Geometry.mk 16 2 4 3), (Geometry.mk 10 5 12 1)].length : Nat) : Int)) < (([(Geometry.mk 8 4 5 1), (Geometry.mk 5 4 3 0), (Geometry.mk 12 3 5 2), (Geometry.mk 6 6 8 0), (Geometry.mk 16 2 4 3), (Geometry.mk 10 5 12 1)].length : Nat) : Int))) (cond (decide ((Int.toNat (Int.tmod (w64 a0) (([(Geometry.mk 8 4 5 1), (Geometry.mk 5 4 3 0), (Geometry.mk 12 3 5 2), (Geometry.mk 6 6 8 0), (Geometry.mk 16 2 4 3), (Geometry.mk 10 5 12 1)].length : Nat) : Int))) < [(Geometry.mk 8 4 5 1), (Geometry.mk 5 4 3 0), (Geometry.mk 12 3 5 2), (Geometry.mk 6 6 8 0), (Geometry.mk 16 2 4 3), (Geometry.mk 10 5 12 1)].length)) (some ([(Geometry.mk 8 4 5 1), (Geometry.mk 5 4 3 0), (Geometry.mk 12 3 5 2), (Geometry.mk 6 6 8 0), (Geometry.mk 16 2 4 3), (Geometry.mk 10 5 12 1)].getD (Int.toNat (Int.tmod (w64 a0) (([(Geometry.mk 8 4 5 1), (Geometry.mk 5 4 3 0), (Geometry.mk 12 3 5 2), (Geometry.mk 6 6 8 0), (Geometry.mk 16 2 4 3), (Geometry.mk 10 5 12 1)].length : Nat) : Int))) default)) none) none) none) none
noncomputable def S_law14_Small (x : Int) : Option (Geometry) := G_law14_Small x
noncomputable def G_ref05_there (a0 : Chip) (a1 : Int) (a2 : Int) : Option (Bool) :=
  cond (decide (0 ≤ a1))
    (cond (decide (a1 < ((a0.blocks.length : Nat) : Int)))
      (cond (decide (0 ≤ a2))
        (cond (decide (0 ≤ a1)) (cond (decide (a1 < ((a0.blocks.length : Nat) : Int))) (some (decide (a2 < (((a0.blocks.getD (Int.toNat a1) default).pages.length : Nat) : Int)))) none) none)
        (some false))
      (some false))
    (some false)
noncomputable def S_ref05_there (x : Chip × Int × Int) : Option (Bool) := G_ref05_there x.1 x.2.1 x.2.2
noncomputable def G_ref05_broken_L1 (ih0 : (Int × Chip × (List Block)) → Option (Chip × Int)) (v1 : Int) (v2 : Chip) (v3 : (List Block)) : Option (Chip × Int) :=
  cond (decide (v1 < ((v2.blocks.length : Nat) : Int)))
    (cond (decide (0 ≤ v1)) (cond (decide (v1 < ((v2.blocks.length : Nat) : Int))) (cond (decide ((0 + (v2.blocks.getD (Int.toNat v1) default).pages.length) * 40 ≤ 70368744177664)) (cond (decide (0 + (v2.blocks.getD (Int.toNat v1) default).pages.length ≤ 70368744177664)) (cond (decide ((v3.length + 1) * 48 ≤ 70368744177664)) (cond (decide (v3.length + 1 ≤ 70368744177664)) (ih0 ((w64 (v1 + 1)), v2, (bPages (v3 ++ [(Block.mk [] (v2.blocks.getD (Int.toNat v1) default).next (v2.blocks.getD (Int.toNat v1) default).erases (v2.blocks.getD (Int.toNat v1) default).bad)]) v3.length ([] ++ (v2.blocks.getD (Int.toNat v1) default).pages)))) none) none) none) none) none) none)
    (some ((Chip.mk v3 true v2.off v2.ops), 1))
noncomputable def F_ref05_broken_L1 : ((Int × Chip × (List Block)) → Option (Chip × Int)) → (Int × Chip × (List Block)) → Option (Chip × Int) := fun ih x => G_ref05_broken_L1 ih x.1 x.2.1 x.2.2
theorem F_ref05_broken_L1_eq (ih : (Int × Chip × (List Block)) → Option (Chip × Int)) (x : Int × Chip × (List Block)) : F_ref05_broken_L1 ih x = G_ref05_broken_L1 ih x.1 x.2.1 x.2.2 := rfl
noncomputable def G_ref05_broken (N : Nat) (a0 : Chip) : Option (Chip × Int) :=
  iterF F_ref05_broken_L1 N (0, a0, [])
noncomputable def S_ref05_broken (x : Chip) : Option (Chip × Int) := lim fun N => G_ref05_broken N x
noncomputable def G_ref05_Program_L1 (ih0 : (Int × Chip × (List Block)) → Option (Chip × Int)) (v1 : Int) (v2 : Chip) (v3 : (List Block)) : Option (Chip × Int) :=
  cond (decide (v1 < ((v2.blocks.length : Nat) : Int)))
    (cond (decide (0 ≤ v1)) (cond (decide (v1 < ((v2.blocks.length : Nat) : Int))) (cond (decide ((0 + (v2.blocks.getD (Int.toNat v1) default).pages.length) * 40 ≤ 70368744177664)) (cond (decide (0 + (v2.blocks.getD (Int.toNat v1) default).pages.length ≤ 70368744177664)) (cond (decide ((v3.length + 1) * 48 ≤ 70368744177664)) (cond (decide (v3.length + 1 ≤ 70368744177664)) (ih0 ((w64 (v1 + 1)), v2, (bPages (v3 ++ [(Block.mk [] (v2.blocks.getD (Int.toNat v1) default).next (v2.blocks.getD (Int.toNat v1) default).erases (v2.blocks.getD (Int.toNat v1) default).bad)]) v3.length ([] ++ (v2.blocks.getD (Int.toNat v1) default).pages)))) none) none) none) none) none) none)
    (some ((Chip.mk v3 v2.broken v2.off v2.ops), 52))
noncomputable def F_ref05_Program_L1 : ((Int × Chip × (List Block)) → Option (Chip × Int)) → (Int × Chip × (List Block)) → Option (Chip × Int) := fun ih x => G_ref05_Program_L1 ih x.1 x.2.1 x.2.2
theorem F_ref05_Program_L1_eq (ih : (Int × Chip × (List Block)) → Option (Chip × Int)) (x : Int × Chip × (List Block)) : F_ref05_Program_L1 ih x = G_ref05_Program_L1 ih x.1 x.2.1 x.2.2 := rfl
noncomputable def G_ref05_Program_L2 (a1 : Int) (a2 : Int) (ih0 : (Int × Page × Fate × Chip × (List Block)) → Option (Chip × Int)) (v1 : Int) (v2 : Page) (v3 : Fate) (v4 : Chip) (v5 : (List Block)) : Option (Chip × Int) :=
  cond (decide (v1 < ((v4.blocks.length : Nat) : Int)))
    (cond (decide (0 ≤ v1)) (cond (decide (v1 < ((v4.blocks.length : Nat) : Int))) (cond (decide ((0 + (v4.blocks.getD (Int.toNat v1) default).pages.length) * 40 ≤ 70368744177664)) (cond (decide (0 + (v4.blocks.getD (Int.toNat v1) default).pages.length ≤ 70368744177664)) (cond (decide ((v5.length + 1) * 48 ≤ 70368744177664)) (cond (decide (v5.length + 1 ≤ 70368744177664)) (ih0 ((w64 (v1 + 1)), v2, v3, v4, (bPages (v5 ++ [(Block.mk [] (v4.blocks.getD (Int.toNat v1) default).next (v4.blocks.getD (Int.toNat v1) default).erases (v4.blocks.getD (Int.toNat v1) default).bad)]) v5.length ([] ++ (v4.blocks.getD (Int.toNat v1) default).pages)))) none) none) none) none) none) none)
    (cond (decide (0 ≤ a1)) (cond (decide (a1 < ((v5.length : Nat) : Int))) (cond (decide ((Int.toNat a1) < v5.length)) (cond (decide (0 ≤ a1)) (cond (decide (a1 < ((v5.length : Nat) : Int))) (cond (decide ((Int.toNat a1) < v5.length)) (cond (!(decide (v3.kind = 0)))
      (cond (decide (v3.kind = 1))
        (cond (decide (0 ≤ a1)) (cond (decide (a1 < (((bNext v5 (Int.toNat a1) (w64 ((v5.getD (Int.toNat a1) default).next + 1))).length : Nat) : Int))) (cond (decide ((Int.toNat a1) < (bNext v5 (Int.toNat a1) (w64 ((v5.getD (Int.toNat a1) default).next + 1))).length)) (cond (decide (v3.kind = 2))
          (cond (decide ((Int.toNat a1) < (bBad (bNext v5 (Int.toNat a1) (w64 ((v5.getD (Int.toNat a1) default).next + 1))) (Int.toNat a1) true).length)) (cond (decide (0 ≤ a1)) (cond (decide (a1 < (((bBad (bNext v5 (Int.toNat a1) (w64 ((v5.getD (Int.toNat a1) default).next + 1))) (Int.toNat a1) true).length : Nat) : Int))) (cond (decide ((Int.toNat a1) < (bBad (bNext v5 (Int.toNat a1) (w64 ((v5.getD (Int.toNat a1) default).next + 1))) (Int.toNat a1) true).length)) (cond (decide ((Int.toNat a1) = (Int.toNat a1))) (cond (decide (0 ≤ a2)) (cond (decide (a2 < ((((bBad (bNext v5 (Int.toNat a1) (w64 ((v5.getD (Int.toNat a1) default).next + 1))) (Int.toNat a1) true).getD (Int.toNat a1) default).pages.length : Nat) : Int))) (cond (decide ((Int.toNat a2) < ((bBad (bNext v5 (Int.toNat a1) (w64 ((v5.getD (Int.toNat a1) default).next + 1))) (Int.toNat a1) true).getD (Int.toNat a1) default).pages.length)) (some ((Chip.mk (bPages (bBad (bNext v5 (Int.toNat a1) (w64 ((v5.getD (Int.toNat a1) default).next + 1))) (Int.toNat a1) true) (Int.toNat a1) (((bBad (bNext v5 (Int.toNat a1) (w64 ((v5.getD (Int.toNat a1) default).next + 1))) (Int.toNat a1) true).getD (Int.toNat a1) default).pages.set (Int.toNat a2) (Page.mk true v3.data v3.tag))) v4.broken true (w64 (v4.ops + 1))), 52)) none) none) none) none) none) none) none) none)
          (cond (decide ((Int.toNat a1) < (bBad (bNext v5 (Int.toNat a1) (w64 ((v5.getD (Int.toNat a1) default).next + 1))) (Int.toNat a1) true).length)) (cond (decide (0 ≤ a1)) (cond (decide (a1 < (((bBad (bNext v5 (Int.toNat a1) (w64 ((v5.getD (Int.toNat a1) default).next + 1))) (Int.toNat a1) true).length : Nat) : Int))) (cond (decide ((Int.toNat a1) < (bBad (bNext v5 (Int.toNat a1) (w64 ((v5.getD (Int.toNat a1) default).next + 1))) (Int.toNat a1) true).length)) (cond (decide ((Int.toNat a1) = (Int.toNat a1))) (cond (decide (0 ≤ a2)) (cond (decide (a2 < ((((bBad (bNext v5 (Int.toNat a1) (w64 ((v5.getD (Int.toNat a1) default).next + 1))) (Int.toNat a1) true).getD (Int.toNat a1) default).pages.length : Nat) : Int))) (cond (decide ((Int.toNat a2) < ((bBad (bNext v5 (Int.toNat a1) (w64 ((v5.getD (Int.toNat a1) default).next + 1))) (Int.toNat a1) true).getD (Int.toNat a1) default).pages.length)) (some ((Chip.mk (bPages (bBad (bNext v5 (Int.toNat a1) (w64 ((v5.getD (Int.toNat a1) default).next + 1))) (Int.toNat a1) true) (Int.toNat a1) (((bBad (bNext v5 (Int.toNat a1) (w64 ((v5.getD (Int.toNat a1) default).next + 1))) (Int.toNat a1) true).getD (Int.toNat a1) default).pages.set (Int.toNat a2) (Page.mk true v3.data v3.tag))) v4.broken v4.off (w64 (v4.ops + 1))), 53)) none) none) none) none) none) none) none) none)) none) none) none)
        (cond (decide (v3.kind = 2))
          (cond (decide ((Int.toNat a1) < (bNext v5 (Int.toNat a1) (w64 ((v5.getD (Int.toNat a1) default).next + 1))).length)) (cond (decide (0 ≤ a1)) (cond (decide (a1 < (((bNext v5 (Int.toNat a1) (w64 ((v5.getD (Int.toNat a1) default).next + 1))).length : Nat) : Int))) (cond (decide ((Int.toNat a1) < (bNext v5 (Int.toNat a1) (w64 ((v5.getD (Int.toNat a1) default).next + 1))).length)) (cond (decide ((Int.toNat a1) = (Int.toNat a1))) (cond (decide (0 ≤ a2)) (cond (decide (a2 < ((((bNext v5 (Int.toNat a1) (w64 ((v5.getD (Int.toNat a1) default).next + 1))).getD (Int.toNat a1) default).pages.length : Nat) : Int))) (cond (decide ((Int.toNat a2) < ((bNext v5 (Int.toNat a1) (w64 ((v5.getD (Int.toNat a1) default).next + 1))).getD (Int.toNat a1) default).pages.length)) (some ((Chip.mk (bPages (bNext v5 (Int.toNat a1) (w64 ((v5.getD (Int.toNat a1) default).next + 1))) (Int.toNat a1) (((bNext v5 (Int.toNat a1) (w64 ((v5.getD (Int.toNat a1) default).next + 1))).getD (Int.toNat a1) default).pages.set (Int.toNat a2) (Page.mk true v3.data v3.tag))) v4.broken true (w64 (v4.ops + 1))), 52)) none) none) none) none) none) none) none) none)
          (cond (decide ((Int.toNat a1) < (bNext v5 (Int.toNat a1) (w64 ((v5.getD (Int.toNat a1) default).next + 1))).length)) (cond (decide (0 ≤ a1)) (cond (decide (a1 < (((bNext v5 (Int.toNat a1) (w64 ((v5.getD (Int.toNat a1) default).next + 1))).length : Nat) : Int))) (cond (decide ((Int.toNat a1) < (bNext v5 (Int.toNat a1) (w64 ((v5.getD (Int.toNat a1) default).next + 1))).length)) (cond (decide ((Int.toNat a1) = (Int.toNat a1))) (cond (decide (0 ≤ a2)) (cond (decide (a2 < ((((bNext v5 (Int.toNat a1) (w64 ((v5.getD (Int.toNat a1) default).next + 1))).getD (Int.toNat a1) default).pages.length : Nat) : Int))) (cond (decide ((Int.toNat a2) < ((bNext v5 (Int.toNat a1) (w64 ((v5.getD (Int.toNat a1) default).next + 1))).getD (Int.toNat a1) default).pages.length)) (some ((Chip.mk (bPages (bNext v5 (Int.toNat a1) (w64 ((v5.getD (Int.toNat a1) default).next + 1))) (Int.toNat a1) (((bNext v5 (Int.toNat a1) (w64 ((v5.getD (Int.toNat a1) default).next + 1))).getD (Int.toNat a1) default).pages.set (Int.toNat a2) (Page.mk true v3.data v3.tag))) v4.broken v4.off (w64 (v4.ops + 1))), 53)) none) none) none) none) none) none) none) none)))
      (cond (decide (v3.kind = 1))
        (cond (decide (0 ≤ a1)) (cond (decide (a1 < (((bNext v5 (Int.toNat a1) (w64 ((v5.getD (Int.toNat a1) default).next + 1))).length : Nat) : Int))) (cond (decide ((Int.toNat a1) < (bNext v5 (Int.toNat a1) (w64 ((v5.getD (Int.toNat a1) default).next + 1))).length)) (cond (decide (v3.kind = 2))
          (cond (decide ((Int.toNat a1) < (bBad (bNext v5 (Int.toNat a1) (w64 ((v5.getD (Int.toNat a1) default).next + 1))) (Int.toNat a1) true).length)) (cond (decide (0 ≤ a1)) (cond (decide (a1 < (((bBad (bNext v5 (Int.toNat a1) (w64 ((v5.getD (Int.toNat a1) default).next + 1))) (Int.toNat a1) true).length : Nat) : Int))) (cond (decide ((Int.toNat a1) < (bBad (bNext v5 (Int.toNat a1) (w64 ((v5.getD (Int.toNat a1) default).next + 1))) (Int.toNat a1) true).length)) (cond (decide ((Int.toNat a1) = (Int.toNat a1))) (cond (decide (0 ≤ a2)) (cond (decide (a2 < ((((bBad (bNext v5 (Int.toNat a1) (w64 ((v5.getD (Int.toNat a1) default).next + 1))) (Int.toNat a1) true).getD (Int.toNat a1) default).pages.length : Nat) : Int))) (cond (decide ((Int.toNat a2) < ((bBad (bNext v5 (Int.toNat a1) (w64 ((v5.getD (Int.toNat a1) default).next + 1))) (Int.toNat a1) true).getD (Int.toNat a1) default).pages.length)) (some ((Chip.mk (bPages (bBad (bNext v5 (Int.toNat a1) (w64 ((v5.getD (Int.toNat a1) default).next + 1))) (Int.toNat a1) true) (Int.toNat a1) (((bBad (bNext v5 (Int.toNat a1) (w64 ((v5.getD (Int.toNat a1) default).next + 1))) (Int.toNat a1) true).getD (Int.toNat a1) default).pages.set (Int.toNat a2) (Page.mk true v2.data v2.tag))) v4.broken true (w64 (v4.ops + 1))), 52)) none) none) none) none) none) none) none) none)
          (cond (decide ((Int.toNat a1) < (bBad (bNext v5 (Int.toNat a1) (w64 ((v5.getD (Int.toNat a1) default).next + 1))) (Int.toNat a1) true).length)) (cond (decide (0 ≤ a1)) (cond (decide (a1 < (((bBad (bNext v5 (Int.toNat a1) (w64 ((v5.getD (Int.toNat a1) default).next + 1))) (Int.toNat a1) true).length : Nat) : Int))) (cond (decide ((Int.toNat a1) < (bBad (bNext v5 (Int.toNat a1) (w64 ((v5.getD (Int.toNat a1) default).next + 1))) (Int.toNat a1) true).length)) (cond (decide ((Int.toNat a1) = (Int.toNat a1))) (cond (decide (0 ≤ a2)) (cond (decide (a2 < ((((bBad (bNext v5 (Int.toNat a1) (w64 ((v5.getD (Int.toNat a1) default).next + 1))) (Int.toNat a1) true).getD (Int.toNat a1) default).pages.length : Nat) : Int))) (cond (decide ((Int.toNat a2) < ((bBad (bNext v5 (Int.toNat a1) (w64 ((v5.getD (Int.toNat a1) default).next + 1))) (Int.toNat a1) true).getD (Int.toNat a1) default).pages.length)) (some ((Chip.mk (bPages (bBad (bNext v5 (Int.toNat a1) (w64 ((v5.getD (Int.toNat a1) default).next + 1))) (Int.toNat a1) true) (Int.toNat a1) (((bBad (bNext v5 (Int.toNat a1) (w64 ((v5.getD (Int.toNat a1) default).next + 1))) (Int.toNat a1) true).getD (Int.toNat a1) default).pages.set (Int.toNat a2) (Page.mk true v2.data v2.tag))) v4.broken v4.off (w64 (v4.ops + 1))), 0)) none) none) none) none) none) none) none) none)) none) none) none)
        (cond (decide (v3.kind = 2))
          (cond (decide ((Int.toNat a1) < (bNext v5 (Int.toNat a1) (w64 ((v5.getD (Int.toNat a1) default).next + 1))).length)) (cond (decide (0 ≤ a1)) (cond (decide (a1 < (((bNext v5 (Int.toNat a1) (w64 ((v5.getD (Int.toNat a1) default).next + 1))).length : Nat) : Int))) (cond (decide ((Int.toNat a1) < (bNext v5 (Int.toNat a1) (w64 ((v5.getD (Int.toNat a1) default).next + 1))).length)) (cond (decide ((Int.toNat a1) = (Int.toNat a1))) (cond (decide (0 ≤ a2)) (cond (decide (a2 < ((((bNext v5 (Int.toNat a1) (w64 ((v5.getD (Int.toNat a1) default).next + 1))).getD (Int.toNat a1) default).pages.length : Nat) : Int))) (cond (decide ((Int.toNat a2) < ((bNext v5 (Int.toNat a1) (w64 ((v5.getD (Int.toNat a1) default).next + 1))).getD (Int.toNat a1) default).pages.length)) (some ((Chip.mk (bPages (bNext v5 (Int.toNat a1) (w64 ((v5.getD (Int.toNat a1) default).next + 1))) (Int.toNat a1) (((bNext v5 (Int.toNat a1) (w64 ((v5.getD (Int.toNat a1) default).next + 1))).getD (Int.toNat a1) default).pages.set (Int.toNat a2) (Page.mk true v2.data v2.tag))) v4.broken true (w64 (v4.ops + 1))), 52)) none) none) none) none) none) none) none) none)
          (cond (decide ((Int.toNat a1) < (bNext v5 (Int.toNat a1) (w64 ((v5.getD (Int.toNat a1) default).next + 1))).length)) (cond (decide (0 ≤ a1)) (cond (decide (a1 < (((bNext v5 (Int.toNat a1) (w64 ((v5.getD (Int.toNat a1) default).next + 1))).length : Nat) : Int))) (cond (decide ((Int.toNat a1) < (bNext v5 (Int.toNat a1) (w64 ((v5.getD (Int.toNat a1) default).next + 1))).length)) (cond (decide ((Int.toNat a1) = (Int.toNat a1))) (cond (decide (0 ≤ a2)) (cond (decide (a2 < ((((bNext v5 (Int.toNat a1) (w64 ((v5.getD (Int.toNat a1) default).next + 1))).getD (Int.toNat a1) default).pages.length : Nat) : Int))) (cond (decide ((Int.toNat a2) < ((bNext v5 (Int.toNat a1) (w64 ((v5.getD (Int.toNat a1) default).next + 1))).getD (Int.toNat a1) default).pages.length)) (some ((Chip.mk (bPages (bNext v5 (Int.toNat a1) (w64 ((v5.getD (Int.toNat a1) default).next + 1))) (Int.toNat a1) (((bNext v5 (Int.toNat a1) (w64 ((v5.getD (Int.toNat a1) default).next + 1))).getD (Int.toNat a1) default).pages.set (Int.toNat a2) (Page.mk true v2.data v2.tag))) v4.broken v4.off (w64 (v4.ops + 1))), 0)) none) none) none) none) none) none) none) none)))) none) none) none) none) none) none)
noncomputable def F_ref05_Program_L2 (a1 : Int) (a2 : Int) : ((Int × Page × Fate × Chip × (List Block)) → Option (Chip × Int)) → (Int × Page × Fate × Chip × (List Block)) → Option (Chip × Int) := fun ih x => G_ref05_Program_L2 a1 a2 ih x.1 x.2.1 x.2.2.1 x.2.2.2.1 x.2.2.2.2
theorem F_ref05_Program_L2_eq (a1 : Int) (a2 : Int) (ih : (Int × Page × Fate × Chip × (List Block)) → Option (Chip × Int)) (x : Int × Page × Fate × Chip × (List Block)) : F_ref05_Program_L2 a1 a2 ih x = G_ref05_Program_L2 a1 a2 ih x.1 x.2.1 x.2.2.1 x.2.2.2.1 x.2.2.2.2 := rfl
noncomputable def G_ref05_Program (N : Nat) (a0 : Chip) (a1 : Int) (a2 : Int) (a3 : Page) (a4 : Fate) : Option (Chip × Int) :=
  cond a0.off
    (iterF F_ref05_Program_L1 N (0, a0, []))
    (Option.bind (S_ref05_there (a0, a1, a2)) fun r5 =>
    cond (!r5)
      (Option.bind (S_ref05_broken a0) fun r6 =>
      some (r6.1, r6.2))
      (cond (decide (0 ≤ a1)) (cond (decide (a1 < ((a0.blocks.length : Nat) : Int))) (cond (a0.blocks.getD (Int.toNat a1) default).bad
        (Option.bind (S_ref05_broken a0) fun r7 =>
        some (r7.1, r7.2))
        (cond (decide (0 ≤ a1)) (cond (decide (a1 < ((a0.blocks.length : Nat) : Int))) (cond (!(decide ((a0.blocks.getD (Int.toNat a1) default).next = a2)))
          (Option.bind (S_ref05_broken a0) fun r8 =>
          some (r8.1, r8.2))
          (cond (decide (a4.kind < 0))
            (Option.bind (S_ref05_broken a0) fun r9 =>
            some (r9.1, r9.2))
            (cond (decide (2 < a4.kind))
              (Option.bind (S_ref05_broken a0) fun r10 =>
              some (r10.1, r10.2))
              (iterF (F_ref05_Program_L2 a1 a2) N (0, a3, a4, a0, []))))) none) none)) none) none))
noncomputable def S_ref05_Program (x : Chip × Int × Int × Page × Fate) : Option (Chip × Int) := lim fun N => G_ref05_Program N x.1 x.2.1 x.2.2.1 x.2.2.2.1 x.2.2.2.2
noncomputable def G_ref05_New_L2 (ih0 : (Int × (List Int) × Int × Bool × Bool × Int × (List Block)) → Option (Chip × Int)) (v1 : Int) (v2 : (List Int)) (v3 : Int) (v4 : Bool) (v5 : Bool) (v6 : Int) (v7 : (List Block)) : Option (Chip × Int) :=
  cond (decide (v3 < ((v2.length : Nat) : Int)))
    (cond (decide (0 ≤ v3)) (cond (decide (v3 < ((v2.length : Nat) : Int))) (cond (decide ((v2.getD (Int.toNat v3) 0) < 0))
      (some ((Chip.mk [] false false 0), 1))
      (cond (decide (0 ≤ v3)) (cond (decide (v3 < ((v2.length : Nat) : Int))) (cond (decide (v1 ≤ (v2.getD (Int.toNat v3) 0)))
        (some ((Chip.mk [] false false 0), 1))
        (cond (decide (0 ≤ v3)) (cond (decide (v3 < ((v2.length : Nat) : Int))) (cond (decide (0 ≤ (v2.getD (Int.toNat v3) 0))) (cond (decide ((v2.getD (Int.toNat v3) 0) < ((v7.length : Nat) : Int))) (cond (decide ((Int.toNat (v2.getD (Int.toNat v3) 0)) < v7.length)) (ih0 (v1, v2, (w64 (v3 + 1)), v4, v5, v6, (bBad v7 (Int.toNat (v2.getD (Int.toNat v3) 0)) true))) none) none) none) none) none)) none) none)) none) none)
    (some ((Chip.mk v7 v4 v5 v6), 0))
noncomputable def F_ref05_New_L2 : ((Int × (List Int) × Int × Bool × Bool × Int × (List Block)) → Option (Chip × Int)) → (Int × (List Int) × Int × Bool × Bool × Int × (List Block)) → Option (Chip × Int) := fun ih x => G_ref05_New_L2 ih x.1 x.2.1 x.2.2.1 x.2.2.2.1 x.2.2.2.2.1 x.2.2.2.2.2.1 x.2.2.2.2.2.2
theorem F_ref05_New_L2_eq (ih : (Int × (List Int) × Int × Bool × Bool × Int × (List Block)) → Option (Chip × Int)) (x : Int × (List Int) × Int × Bool × Bool × Int × (List Block)) : F_ref05_New_L2 ih x = G_ref05_New_L2 ih x.1 x.2.1 x.2.2.1 x.2.2.2.1 x.2.2.2.2.1 x.2.2.2.2.2.1 x.2.2.2.2.2.2 := rfl
noncomputable def G_ref05_New_L1 (N : Nat) (ih0 : (Int × Int × (List Int) × Int × Bool × Bool × Int × (List Block)) → Option (Chip × Int)) (v1 : Int) (v2 : Int) (v3 : (List Int)) (v4 : Int) (v5 : Bool) (v6 : Bool) (v7 : Int) (v8 : (List Block)) : Option (Chip × Int) :=
  cond (decide (v4 < v1))
    (cond (decide (0 ≤ v2)) (cond (decide (v2 ≤ v2)) (cond (decide ((v2 * 40) ≤ 70368744177664)) (cond (decide (v2 ≤ 70368744177664)) (cond (decide ((v8.length + 1) * 48 ≤ 70368744177664)) (cond (decide (v8.length + 1 ≤ 70368744177664)) (ih0 (v1, v2, v3, (w64 (v4 + 1)), v5, v6, v7, (bPages (v8 ++ [(Block.mk [] 0 0 false)]) v8.length (List.replicate (Int.toNat v2) (default : Page))))) none) none) none) none) none) none)
    (iterF F_ref05_New_L2 N (v1, v3, 0, v5, v6, v7, v8))
noncomputable def F_ref05_New_L1 (N : Nat) : ((Int × Int × (List Int) × Int × Bool × Bool × Int × (List Block)) → Option (Chip × Int)) → (Int × Int × (List Int) × Int × Bool × Bool × Int × (List Block)) → Option (Chip × Int) := fun ih x => G_ref05_New_L1 N ih x.1 x.2.1 x.2.2.1 x.2.2.2.1 x.2.2.2.2.1 x.2.2.2.2.2.1 x.2.2.2.2.2.2.1 x.2.2.2.2.2.2.2
theorem F_ref05_New_L1_eq (N : Nat) (ih : (Int × Int × (List Int) × Int × Bool × Bool × Int × (List Block)) → Option (Chip × Int)) (x : Int × Int × (List Int) × Int × Bool × Bool × Int × (List Block)) : F_ref05_New_L1 N ih x = G_ref05_New_L1 N ih x.1 x.2.1 x.2.2.1 x.2.2.2.1 x.2.2.2.2.1 x.2.2.2.2.2.1 x.2.2.2.2.2.2.1 x.2.2.2.2.2.2.2 := rfl
noncomputable def G_ref05_New (N : Nat) (a0 : Int) (a1 : Int) (a2 : (List Int)) : Option (Chip × Int) :=
  cond (decide (a0 < 1))
    (some ((Chip.mk [] false false 0), 1))
    (cond (decide (32 < a0))
      (some ((Chip.mk [] false false 0), 1))
      (cond (decide (a1 < 1))
        (some ((Chip.mk [] false false 0), 1))
        (cond (decide (16 < a1))
          (some ((Chip.mk [] false false 0), 1))
          (iterF (F_ref05_New_L1 N) N (a0, a1, a2, 0, false, false, 0, [])))))
noncomputable def S_ref05_New (x : Int × Int × (List Int)) : Option (Chip × Int) := lim fun N => G_ref05_New N x.1 x.2.1 x.2.2
noncomputable def G_law03_Made_L1 (ih0 : (Int × Int × (List Int) × Int × Int × Int × (List Int) × (List Int)) → Option (Record)) (v1 : Int) (v2 : Int) (v3 : (List Int)) (v4 : Int) (v5 : Int) (v6 : Int) (v7 : (List Int)) (v8 : (List Int)) : Option (Record) :=
  cond (decide (0 ≤ v2))
    (cond (decide (v1 < 64))
      (cond (decide ((v7.length + [v1].length) * 8 ≤ 70368744177664)) (cond (decide (v7.length + [v1].length ≤ 70368744177664)) (cond (decide (((v3.length : Nat) : Int) < (w64 (v6 + 1))))
        (cond (decide (v4 = 2))
          (cond (decide (((v3.length : Nat) : Int) < (w64 ((w64 (v6 + 1)) + 1))))
            (cond (decide ((v8.length + [(-1)].length) * 8 ≤ 70368744177664)) (cond (decide (v8.length + [(-1)].length ≤ 70368744177664)) (ih0 ((w64 ((w64 (v1 + 1)) + 0)), (w64 (v2 - 1)), v3, v4, v5, (w64 ((w64 (v6 + 1)) + 1)), (v7 ++ [v1]), (v8 ++ [(-1)]))) none) none)
            (cond (decide (0 ≤ (w64 ((w64 ((w64 (v6 + 1)) + 1)) - 1)))) (cond (decide ((w64 ((w64 ((w64 (v6 + 1)) + 1)) - 1)) < ((v3.length : Nat) : Int))) (cond (decide ((v8.length + [(w64 ((Int.tmod (w64 (v3.getD (Int.toNat (w64 ((w64 ((w64 (v6 + 1)) + 1)) - 1))) 0)) 513) - 1))].length) * 8 ≤ 70368744177664)) (cond (decide (v8.length + [(w64 ((Int.tmod (w64 (v3.getD (Int.toNat (w64 ((w64 ((w64 (v6 + 1)) + 1)) - 1))) 0)) 513) - 1))].length ≤ 70368744177664)) (ih0 ((w64 ((w64 (v1 + 1)) + 0)), (w64 (v2 - 1)), v3, v4, v5, (w64 ((w64 (v6 + 1)) + 1)), (v7 ++ [v1]), (v8 ++ [(w64 ((Int.tmod (w64 (v3.getD (Int.toNat (w64 ((w64 ((w64 (v6 + 1)) + 1)) - 1))) 0)) 513) - 1))]))) none) none) none) none))
          (ih0 ((w64 ((w64 (v1 + 1)) + 0)), (w64 (v2 - 1)), v3, v4, v5, (w64 (v6 + 1)), (v7 ++ [v1]), v8)))
        (cond (decide (0 ≤ (w64 ((w64 (v6 + 1)) - 1)))) (cond (decide ((w64 ((w64 (v6 + 1)) - 1)) < ((v3.length : Nat) : Int))) (cond (decide (v4 = 2))
          (cond (decide (((v3.length : Nat) : Int) < (w64 ((w64 (v6 + 1)) + 1))))
            (cond (decide ((v8.length + [(-1)].length) * 8 ≤ 70368744177664)) (cond (decide (v8.length + [(-1)].length ≤ 70368744177664)) (ih0 ((w64 ((w64 (v1 + 1)) + (Int.tmod (w64 (v3.getD (Int.toNat (w64 ((w64 (v6 + 1)) - 1))) 0)) 10))), (w64 (v2 - 1)), v3, v4, v5, (w64 ((w64 (v6 + 1)) + 1)), (v7 ++ [v1]), (v8 ++ [(-1)]))) none) none)
            (cond (decide (0 ≤ (w64 ((w64 ((w64 (v6 + 1)) + 1)) - 1)))) (cond (decide ((w64 ((w64 ((w64 (v6 + 1)) + 1)) - 1)) < ((v3.length : Nat) : Int))) (cond (decide ((v8.length + [(w64 ((Int.tmod (w64 (v3.getD (Int.toNat (w64 ((w64 ((w64 (v6 + 1)) + 1)) - 1))) 0)) 513) - 1))].length) * 8 ≤ 70368744177664)) (cond (decide (v8.length + [(w64 ((Int.tmod (w64 (v3.getD (Int.toNat (w64 ((w64 ((w64 (v6 + 1)) + 1)) - 1))) 0)) 513) - 1))].length ≤ 70368744177664)) (ih0 ((w64 ((w64 (v1 + 1)) + (Int.tmod (w64 (v3.getD (Int.toNat (w64 ((w64 (v6 + 1)) - 1))) 0)) 10))), (w64 (v2 - 1)), v3, v4, v5, (w64 ((w64 (v6 + 1)) + 1)), (v7 ++ [v1]), (v8 ++ [(w64 ((Int.tmod (w64 (v3.getD (Int.toNat (w64 ((w64 ((w64 (v6 + 1)) + 1)) - 1))) 0)) 513) - 1))]))) none) none) none) none))
          (ih0 ((w64 ((w64 (v1 + 1)) + (Int.tmod (w64 (v3.getD (Int.toNat (w64 ((w64 (v6 + 1)) - 1))) 0)) 10))), (w64 (v2 - 1)), v3, v4, v5, (w64 (v6 + 1)), (v7 ++ [v1]), v8))) none) none)) none) none)
      (some (Record.mk v4 v5 v7 v8)))
    (some (Record.mk v4 v5 v7 v8))
noncomputable def F_law03_Made_L1 : ((Int × Int × (List Int) × Int × Int × Int × (List Int) × (List Int)) → Option (Record)) → (Int × Int × (List Int) × Int × Int × Int × (List Int) × (List Int)) → Option (Record) := fun ih x => G_law03_Made_L1 ih x.1 x.2.1 x.2.2.1 x.2.2.2.1 x.2.2.2.2.1 x.2.2.2.2.2.1 x.2.2.2.2.2.2.1 x.2.2.2.2.2.2.2
theorem F_law03_Made_L1_eq (ih : (Int × Int × (List Int) × Int × Int × Int × (List Int) × (List Int)) → Option (Record)) (x : Int × Int × (List Int) × Int × Int × Int × (List Int) × (List Int)) : F_law03_Made_L1 ih x = G_law03_Made_L1 ih x.1 x.2.1 x.2.2.1 x.2.2.2.1 x.2.2.2.2.1 x.2.2.2.2.2.1 x.2.2.2.2.2.2.1 x.2.2.2.2.2.2.2 := rfl
noncomputable def G_law03_Made (N : Nat) (a0 : (List Int)) : Option (Record) :=
  cond (decide (((a0.length : Nat) : Int) < 1))
    (cond (decide (((a0.length : Nat) : Int) < 2))
      (cond (decide (((a0.length : Nat) : Int) < 3))
        (cond (decide (((a0.length : Nat) : Int) < 4))
          (cond (decide (((a0.length : Nat) : Int) < 5))
            (iterF F_law03_Made_L1 N (0, 0, a0, 1, 0, 5, [], []))
            (cond (decide (4 < ((a0.length : Nat) : Int))) (iterF F_law03_Made_L1 N (0, (Int.tmod (w64 (a0.getD 4 0)) 8), a0, 1, 0, 5, [], [])) none))
          (cond (decide (3 < ((a0.length : Nat) : Int))) (cond (decide (((a0.length : Nat) : Int) < 5))
            (iterF F_law03_Made_L1 N ((Int.tmod (w64 (a0.getD 3 0)) 20), 0, a0, 1, 0, 5, [], []))
            (cond (decide (4 < ((a0.length : Nat) : Int))) (iterF F_law03_Made_L1 N ((Int.tmod (w64 (a0.getD 3 0)) 20), (Int.tmod (w64 (a0.getD 4 0)) 8), a0, 1, 0, 5, [], [])) none)) none))
        (cond (decide (2 < ((a0.length : Nat) : Int))) (cond (decide (((a0.length : Nat) : Int) < 4))
          (cond (decide (((a0.length : Nat) : Int) < 5))
            (iterF F_law03_Made_L1 N (0, 0, a0, 1, (w64 (0 * (w64 (1 + (Int.tmod (w64 (a0.getD 2 0)) 1000))))), 5, [], []))
            (cond (decide (4 < ((a0.length : Nat) : Int))) (iterF F_law03_Made_L1 N (0, (Int.tmod (w64 (a0.getD 4 0)) 8), a0, 1, (w64 (0 * (w64 (1 + (Int.tmod (w64 (a0.getD 2 0)) 1000))))), 5, [], [])) none))
          (cond (decide (3 < ((a0.length : Nat) : Int))) (cond (decide (((a0.length : Nat) : Int) < 5))
            (iterF F_law03_Made_L1 N ((Int.tmod (w64 (a0.getD 3 0)) 20), 0, a0, 1, (w64 (0 * (w64 (1 + (Int.tmod (w64 (a0.getD 2 0)) 1000))))), 5, [], []))
            (cond (decide (4 < ((a0.length : Nat) : Int))) (iterF F_law03_Made_L1 N ((Int.tmod (w64 (a0.getD 3 0)) 20), (Int.tmod (w64 (a0.getD 4 0)) 8), a0, 1, (w64 (0 * (w64 (1 + (Int.tmod (w64 (a0.getD 2 0)) 1000))))), 5, [], [])) none)) none)) none))
      (cond (decide (1 < ((a0.length : Nat) : Int))) (cond (decide (((a0.length : Nat) : Int) < 3))
        (cond (decide (((a0.length : Nat) : Int) < 4))
          (cond (decide (((a0.length : Nat) : Int) < 5))
            (iterF F_law03_Made_L1 N (0, 0, a0, 1, (w64 ((Int.tmod (w64 (a0.getD 1 0)) 60000) * 1)), 5, [], []))
            (cond (decide (4 < ((a0.length : Nat) : Int))) (iterF F_law03_Made_L1 N (0, (Int.tmod (w64 (a0.getD 4 0)) 8), a0, 1, (w64 ((Int.tmod (w64 (a0.getD 1 0)) 60000) * 1)), 5, [], [])) none))
          (cond (decide (3 < ((a0.length : Nat) : Int))) (cond (decide (((a0.length : Nat) : Int) < 5))
            (iterF F_law03_Made_L1 N ((Int.tmod (w64 (a0.getD 3 0)) 20), 0, a0, 1, (w64 ((Int.tmod (w64 (a0.getD 1 0)) 60000) * 1)), 5, [], []))
            (cond (decide (4 < ((a0.length : Nat) : Int))) (iterF F_law03_Made_L1 N ((Int.tmod (w64 (a0.getD 3 0)) 20), (Int.tmod (w64 (a0.getD 4 0)) 8), a0, 1, (w64 ((Int.tmod (w64 (a0.getD 1 0)) 60000) * 1)), 5, [], [])) none)) none))
        (cond (decide (2 < ((a0.length : Nat) : Int))) (cond (decide (((a0.length : Nat) : Int) < 4))
          (cond (decide (((a0.length : Nat) : Int) < 5))
            (iterF F_law03_Made_L1 N (0, 0, a0, 1, (w64 ((Int.tmod (w64 (a0.getD 1 0)) 60000) * (w64 (1 + (Int.tmod (w64 (a0.getD 2 0)) 1000))))), 5, [], []))
            (cond (decide (4 < ((a0.length : Nat) : Int))) (iterF F_law03_Made_L1 N (0, (Int.tmod (w64 (a0.getD 4 0)) 8), a0, 1, (w64 ((Int.tmod (w64 (a0.getD 1 0)) 60000) * (w64 (1 + (Int.tmod (w64 (a0.getD 2 0)) 1000))))), 5, [], [])) none))
          (cond (decide (3 < ((a0.length : Nat) : Int))) (cond (decide (((a0.length : Nat) : Int) < 5))
            (iterF F_law03_Made_L1 N ((Int.tmod (w64 (a0.getD 3 0)) 20), 0, a0, 1, (w64 ((Int.tmod (w64 (a0.getD 1 0)) 60000) * (w64 (1 + (Int.tmod (w64 (a0.getD 2 0)) 1000))))), 5, [], []))
            (cond (decide (4 < ((a0.length : Nat) : Int))) (iterF F_law03_Made_L1 N ((Int.tmod (w64 (a0.getD 3 0)) 20), (Int.tmod (w64 (a0.getD 4 0)) 8), a0, 1, (w64 ((Int.tmod (w64 (a0.getD 1 0)) 60000) * (w64 (1 + (Int.tmod (w64 (a0.getD 2 0)) 1000))))), 5, [], [])) none)) none)) none)) none))
    (cond (decide (0 < ((a0.length : Nat) : Int))) (cond (decide (((a0.length : Nat) : Int) < 2))
      (cond (decide (((a0.length : Nat) : Int) < 3))
        (cond (decide (((a0.length : Nat) : Int) < 4))
          (cond (decide (((a0.length : Nat) : Int) < 5))
            (iterF F_law03_Made_L1 N (0, 0, a0, (w64 (1 + (Int.tmod (w64 (a0.getD 0 0)) 2))), 0, 5, [], []))
            (cond (decide (4 < ((a0.length : Nat) : Int))) (iterF F_law03_Made_L1 N (0, (Int.tmod (w64 (a0.getD 4 0)) 8), a0, (w64 (1 + (Int.tmod (w64 (a0.getD 0 0)) 2))), 0, 5, [], [])) none))
          (cond (decide (3 < ((a0.length : Nat) : Int))) (cond (decide (((a0.length : Nat) : Int) < 5))
            (iterF F_law03_Made_L1 N ((Int.tmod (w64 (a0.getD 3 0)) 20), 0, a0, (w64 (1 + (Int.tmod (w64 (a0.getD 0 0)) 2))), 0, 5, [], []))
            (cond (decide (4 < ((a0.length : Nat) : Int))) (iterF F_law03_Made_L1 N ((Int.tmod (w64 (a0.getD 3 0)) 20), (Int.tmod (w64 (a0.getD 4 0)) 8), a0, (w64 (1 + (Int.tmod (w64 (a0.getD 0 0)) 2))), 0, 5, [], [])) none)) none))
        (cond (decide (2 < ((a0.length : Nat) : Int))) (cond (decide (((a0.length : Nat) : Int) < 4))
          (cond (decide (((a0.length : Nat) : Int) < 5))
            (iterF F_law03_Made_L1 N (0, 0, a0, (w64 (1 + (Int.tmod (w64 (a0.getD 0 0)) 2))), (w64 (0 * (w64 (1 + (Int.tmod (w64 (a0.getD 2 0)) 1000))))), 5, [], []))
            (cond (decide (4 < ((a0.length : Nat) : Int))) (iterF F_law03_Made_L1 N (0, (Int.tmod (w64 (a0.getD 4 0)) 8), a0, (w64 (1 + (Int.tmod (w64 (a0.getD 0 0)) 2))), (w64 (0 * (w64 (1 + (Int.tmod (w64 (a0.getD 2 0)) 1000))))), 5, [], [])) none))
          (cond (decide (3 < ((a0.length : Nat) : Int))) (cond (decide (((a0.length : Nat) : Int) < 5))
            (iterF F_law03_Made_L1 N ((Int.tmod (w64 (a0.getD 3 0)) 20), 0, a0, (w64 (1 + (Int.tmod (w64 (a0.getD 0 0)) 2))), (w64 (0 * (w64 (1 + (Int.tmod (w64 (a0.getD 2 0)) 1000))))), 5, [], []))
            (cond (decide (4 < ((a0.length : Nat) : Int))) (iterF F_law03_Made_L1 N ((Int.tmod (w64 (a0.getD 3 0)) 20), (Int.tmod (w64 (a0.getD 4 0)) 8), a0, (w64 (1 + (Int.tmod (w64 (a0.getD 0 0)) 2))), (w64 (0 * (w64 (1 + (Int.tmod (w64 (a0.getD 2 0)) 1000))))), 5, [], [])) none)) none)) none))
      (cond (decide (1 < ((a0.length : Nat) : Int))) (cond (decide (((a0.length : Nat) : Int) < 3))
        (cond (decide (((a0.length : Nat) : Int) < 4))
          (cond (decide (((a0.length : Nat) : Int) < 5))
            (iterF F_law03_Made_L1 N (0, 0, a0, (w64 (1 + (Int.tmod (w64 (a0.getD 0 0)) 2))), (w64 ((Int.tmod (w64 (a0.getD 1 0)) 60000) * 1)), 5, [], []))
            (cond (decide (4 < ((a0.length : Nat) : Int))) (iterF F_law03_Made_L1 N (0, (Int.tmod (w64 (a0.getD 4 0)) 8), a0, (w64 (1 + (Int.tmod (w64 (a0.getD 0 0)) 2))), (w64 ((Int.tmod (w64 (a0.getD 1 0)) 60000) * 1)), 5, [], [])) none))
          (cond (decide (3 < ((a0.length : Nat) : Int))) (cond (decide (((a0.length : Nat) : Int) < 5))
            (iterF F_law03_Made_L1 N ((Int.tmod (w64 (a0.getD 3 0)) 20), 0, a0, (w64 (1 + (Int.tmod (w64 (a0.getD 0 0)) 2))), (w64 ((Int.tmod (w64 (a0.getD 1 0)) 60000) * 1)), 5, [], []))
            (cond (decide (4 < ((a0.length : Nat) : Int))) (iterF F_law03_Made_L1 N ((Int.tmod (w64 (a0.getD 3 0)) 20), (Int.tmod (w64 (a0.getD 4 0)) 8), a0, (w64 (1 + (Int.tmod (w64 (a0.getD 0 0)) 2))), (w64 ((Int.tmod (w64 (a0.getD 1 0)) 60000) * 1)), 5, [], [])) none)) none))
        (cond (decide (2 < ((a0.length : Nat) : Int))) (cond (decide (((a0.length : Nat) : Int) < 4))
          (cond (decide (((a0.length : Nat) : Int) < 5))
            (iterF F_law03_Made_L1 N (0, 0, a0, (w64 (1 + (Int.tmod (w64 (a0.getD 0 0)) 2))), (w64 ((Int.tmod (w64 (a0.getD 1 0)) 60000) * (w64 (1 + (Int.tmod (w64 (a0.getD 2 0)) 1000))))), 5, [], []))
            (cond (decide (4 < ((a0.length : Nat) : Int))) (iterF F_law03_Made_L1 N (0, (Int.tmod (w64 (a0.getD 4 0)) 8), a0, (w64 (1 + (Int.tmod (w64 (a0.getD 0 0)) 2))), (w64 ((Int.tmod (w64 (a0.getD 1 0)) 60000) * (w64 (1 + (Int.tmod (w64 (a0.getD 2 0)) 1000))))), 5, [], [])) none))
          (cond (decide (3 < ((a0.length : Nat) : Int))) (cond (decide (((a0.length : Nat) : Int) < 5))
            (iterF F_law03_Made_L1 N ((Int.tmod (w64 (a0.getD 3 0)) 20), 0, a0, (w64 (1 + (Int.tmod (w64 (a0.getD 0 0)) 2))), (w64 ((Int.tmod (w64 (a0.getD 1 0)) 60000) * (w64 (1 + (Int.tmod (w64 (a0.getD 2 0)) 1000))))), 5, [], []))
            (cond (decide (4 < ((a0.length : Nat) : Int))) (iterF F_law03_Made_L1 N ((Int.tmod (w64 (a0.getD 3 0)) 20), (Int.tmod (w64 (a0.getD 4 0)) 8), a0, (w64 (1 + (Int.tmod (w64 (a0.getD 0 0)) 2))), (w64 ((Int.tmod (w64 (a0.getD 1 0)) 60000) * (w64 (1 + (Int.tmod (w64 (a0.getD 2 0)) 1000))))), 5, [], [])) none)) none)) none)) none)) none)
noncomputable def S_law03_Made (x : (List Int)) : Option (Record) := lim fun N => G_law03_Made N x
noncomputable def G_ref04_Make (a0 : Write) : Option (Page × Int) :=
  Option.bind (S_ref03_Encode (a0.record, a0.data)) fun r1 =>
  cond (!(decide (r1.2 = 0)))
    (some ((Page.mk false [] []), r1.2))
    (some ((Page.mk true a0.data r1.1), 0))
noncomputable def S_ref04_Make (x : Write) : Option (Page × Int) := G_ref04_Make x
noncomputable def G_law06_Page (a0 : Int) (a1 : (List Int)) : Option (Page) :=
  Option.bind (S_law03_Made a1) fun r1 =>
  Option.bind (S_ref04_Make (Write.mk [100] (Record.mk r1.kind a0 r1.keys r1.values))) fun r2 =>
  some r2.1
noncomputable def S_law06_Page (x : Int × (List Int)) : Option (Page) := G_law06_Page x.1 x.2
noncomputable def G_ref05_Erase_L1 (ih0 : (Int × Chip × (List Block)) → Option (Chip × Int)) (v1 : Int) (v2 : Chip) (v3 : (List Block)) : Option (Chip × Int) :=
  cond (decide (v1 < ((v2.blocks.length : Nat) : Int)))
    (cond (decide (0 ≤ v1)) (cond (decide (v1 < ((v2.blocks.length : Nat) : Int))) (cond (decide ((0 + (v2.blocks.getD (Int.toNat v1) default).pages.length) * 40 ≤ 70368744177664)) (cond (decide (0 + (v2.blocks.getD (Int.toNat v1) default).pages.length ≤ 70368744177664)) (cond (decide ((v3.length + 1) * 48 ≤ 70368744177664)) (cond (decide (v3.length + 1 ≤ 70368744177664)) (ih0 ((w64 (v1 + 1)), v2, (bPages (v3 ++ [(Block.mk [] (v2.blocks.getD (Int.toNat v1) default).next (v2.blocks.getD (Int.toNat v1) default).erases (v2.blocks.getD (Int.toNat v1) default).bad)]) v3.length ([] ++ (v2.blocks.getD (Int.toNat v1) default).pages)))) none) none) none) none) none) none)
    (some ((Chip.mk v3 v2.broken v2.off v2.ops), 52))
noncomputable def F_ref05_Erase_L1 : ((Int × Chip × (List Block)) → Option (Chip × Int)) → (Int × Chip × (List Block)) → Option (Chip × Int) := fun ih x => G_ref05_Erase_L1 ih x.1 x.2.1 x.2.2
theorem F_ref05_Erase_L1_eq (ih : (Int × Chip × (List Block)) → Option (Chip × Int)) (x : Int × Chip × (List Block)) : F_ref05_Erase_L1 ih x = G_ref05_Erase_L1 ih x.1 x.2.1 x.2.2 := rfl
noncomputable def G_ref05_Erase_L3 (ih0 : (Int × Int × Fate × (List Block) × Bool × Bool × Int) → Option (Chip × Int)) (v1 : Int) (v2 : Int) (v3 : Fate) (v4 : (List Block)) (v5 : Bool) (v6 : Bool) (v7 : Int) : Option (Chip × Int) :=
  cond (decide ((Int.toNat v1) < v4.length)) (cond (decide ((Int.toNat v1) < v4.length)) (cond (decide ((Int.toNat v1) = (Int.toNat v1))) (cond (decide (v2 < (((v4.getD (Int.toNat v1) default).pages.length : Nat) : Int)))
    (cond (decide (v3.kind = 0))
      (cond (decide ((Int.toNat v1) < v4.length)) (cond (decide ((Int.toNat v1) = (Int.toNat v1))) (cond (decide (0 ≤ v2)) (cond (decide (v2 < (((v4.getD (Int.toNat v1) default).pages.length : Nat) : Int))) (cond (decide ((Int.toNat v2) < (v4.getD (Int.toNat v1) default).pages.length)) (ih0 ((((Int.toNat v1) : Nat) : Int), (w64 (v2 + 1)), v3, (bPages v4 (Int.toNat v1) ((v4.getD (Int.toNat v1) default).pages.set (Int.toNat v2) (Page.mk false [] []))), v5, v6, v7)) none) none) none) none) none)
      (cond (decide (v2 < v3.n))
        (cond (decide ((Int.toNat v1) < v4.length)) (cond (decide ((Int.toNat v1) = (Int.toNat v1))) (cond (decide (0 ≤ v2)) (cond (decide (v2 < (((v4.getD (Int.toNat v1) default).pages.length : Nat) : Int))) (cond (decide ((Int.toNat v2) < (v4.getD (Int.toNat v1) default).pages.length)) (ih0 ((((Int.toNat v1) : Nat) : Int), (w64 (v2 + 1)), v3, (bPages v4 (Int.toNat v1) ((v4.getD (Int.toNat v1) default).pages.set (Int.toNat v2) (Page.mk false [] []))), v5, v6, v7)) none) none) none) none) none)
        (ih0 ((((Int.toNat v1) : Nat) : Int), (w64 (v2 + 1)), v3, (bPages v4 (Int.toNat v1) (v4.getD (Int.toNat v1) default).pages), v5, v6, v7))))
    (cond (decide ((Int.toNat v1) < v4.length)) (cond (decide (v3.kind = 2))
      (cond (decide ((Int.toNat v1) < (bNext v4 (Int.toNat v1) 0).length)) (cond (decide ((Int.toNat v1) = (Int.toNat v1))) (cond (decide ((Int.toNat v1) < (bNext v4 (Int.toNat v1) 0).length)) (some ((Chip.mk (bPages (bNext (bNext v4 (Int.toNat v1) 0) (Int.toNat v1) (((v4.getD (Int.toNat v1) default).pages.length : Nat) : Int)) (Int.toNat v1) (v4.getD (Int.toNat v1) default).pages) v5 true v7), 52)) none) none) none)
      (some ((Chip.mk (bPages (bNext v4 (Int.toNat v1) 0) (Int.toNat v1) (v4.getD (Int.toNat v1) default).pages) v5 v6 v7), 0))) none)) none) none) none
noncomputable def F_ref05_Erase_L3 : ((Int × Int × Fate × (List Block) × Bool × Bool × Int) → Option (Chip × Int)) → (Int × Int × Fate × (List Block) × Bool × Bool × Int) → Option (Chip × Int) := fun ih x => G_ref05_Erase_L3 ih x.1 x.2.1 x.2.2.1 x.2.2.2.1 x.2.2.2.2.1 x.2.2.2.2.2.1 x.2.2.2.2.2.2
theorem F_ref05_Erase_L3_eq (ih : (Int × Int × Fate × (List Block) × Bool × Bool × Int) → Option (Chip × Int)) (x : Int × Int × Fate × (List Block) × Bool × Bool × Int) : F_ref05_Erase_L3 ih x = G_ref05_Erase_L3 ih x.1 x.2.1 x.2.2.1 x.2.2.2.1 x.2.2.2.2.1 x.2.2.2.2.2.1 x.2.2.2.2.2.2 := rfl
noncomputable def G_ref05_Erase_L2 (N : Nat) (a1 : Int) (ih0 : (Int × Fate × Chip × (List Block)) → Option (Chip × Int)) (v1 : Int) (v2 : Fate) (v3 : Chip) (v4 : (List Block)) : Option (Chip × Int) :=
  cond (decide (v1 < ((v3.blocks.length : Nat) : Int)))
    (cond (decide (0 ≤ v1)) (cond (decide (v1 < ((v3.blocks.length : Nat) : Int))) (cond (decide ((0 + (v3.blocks.getD (Int.toNat v1) default).pages.length) * 40 ≤ 70368744177664)) (cond (decide (0 + (v3.blocks.getD (Int.toNat v1) default).pages.length ≤ 70368744177664)) (cond (decide ((v4.length + 1) * 48 ≤ 70368744177664)) (cond (decide (v4.length + 1 ≤ 70368744177664)) (ih0 ((w64 (v1 + 1)), v2, v3, (bPages (v4 ++ [(Block.mk [] (v3.blocks.getD (Int.toNat v1) default).next (v3.blocks.getD (Int.toNat v1) default).erases (v3.blocks.getD (Int.toNat v1) default).bad)]) v4.length ([] ++ (v3.blocks.getD (Int.toNat v1) default).pages)))) none) none) none) none) none) none)
    (cond (decide (0 ≤ a1)) (cond (decide (a1 < ((v4.length : Nat) : Int))) (cond (decide (v2.kind = 1))
      (cond (decide ((Int.toNat a1) < v4.length)) (some ((Chip.mk (bBad v4 (Int.toNat a1) true) v3.broken v3.off (w64 (v3.ops + 1))), 53)) none)
      (cond (decide ((Int.toNat a1) < v4.length)) (cond (decide ((Int.toNat a1) < v4.length)) (iterF F_ref05_Erase_L3 N ((((Int.toNat a1) : Nat) : Int), 0, v2, (bErases v4 (Int.toNat a1) (w64 ((v4.getD (Int.toNat a1) default).erases + 1))), v3.broken, v3.off, (w64 (v3.ops + 1)))) none) none)) none) none)
noncomputable def F_ref05_Erase_L2 (N : Nat) (a1 : Int) : ((Int × Fate × Chip × (List Block)) → Option (Chip × Int)) → (Int × Fate × Chip × (List Block)) → Option (Chip × Int) := fun ih x => G_ref05_Erase_L2 N a1 ih x.1 x.2.1 x.2.2.1 x.2.2.2
theorem F_ref05_Erase_L2_eq (N : Nat) (a1 : Int) (ih : (Int × Fate × Chip × (List Block)) → Option (Chip × Int)) (x : Int × Fate × Chip × (List Block)) : F_ref05_Erase_L2 N a1 ih x = G_ref05_Erase_L2 N a1 ih x.1 x.2.1 x.2.2.1 x.2.2.2 := rfl
noncomputable def G_ref05_Erase (N : Nat) (a0 : Chip) (a1 : Int) (a2 : Fate) : Option (Chip × Int) :=
  cond a0.off
    (iterF F_ref05_Erase_L1 N (0, a0, []))
    (cond (decide (a1 < 0))
      (Option.bind (S_ref05_broken a0) fun r5 =>
      some (r5.1, r5.2))
      (cond (decide (((a0.blocks.length : Nat) : Int) ≤ a1))
        (Option.bind (S_ref05_broken a0) fun r6 =>
        some (r6.1, r6.2))
        (cond (decide (0 ≤ a1)) (cond (decide (a1 < ((a0.blocks.length : Nat) : Int))) (cond (a0.blocks.getD (Int.toNat a1) default).bad
          (Option.bind (S_ref05_broken a0) fun r7 =>
          some (r7.1, r7.2))
          (cond (decide (a2.kind < 0))
            (Option.bind (S_ref05_broken a0) fun r8 =>
            some (r8.1, r8.2))
            (cond (decide (2 < a2.kind))
              (Option.bind (S_ref05_broken a0) fun r9 =>
              some (r9.1, r9.2))
              (iterF (F_ref05_Erase_L2 N a1) N (0, a2, a0, []))))) none) none)))
noncomputable def S_ref05_Erase (x : Chip × Int × Fate) : Option (Chip × Int) := lim fun N => G_ref05_Erase N x.1 x.2.1 x.2.2
noncomputable def G_law06_Made_L1 (ih0 : ((List Int) × Int × Int × Int × Chip) → Option (Chip)) (v1 : (List Int)) (v2 : Int) (v3 : Int) (v4 : Int) (v5 : Chip) : Option (Chip) :=
  cond (decide (v4 < 40))
    (cond (decide (v3 < ((v1.length : Nat) : Int)))
      (cond (decide (0 ≤ v3)) (cond (decide (v3 < ((v1.length : Nat) : Int))) (cond (!(decide (v2 = 0))) (cond (decide (0 ≤ v3)) (cond (decide (v3 ≤ (min (w64 ((w64 (v3 + 1)) + (Int.tmod (w64 (Int.tdiv (w64 (v1.getD (Int.toNat v3) 0)) 50)) 8))) ((v1.length : Nat) : Int)))) (cond (decide ((min (w64 ((w64 (v3 + 1)) + (Int.tmod (w64 (Int.tdiv (w64 (v1.getD (Int.toNat v3) 0)) 50)) 8))) ((v1.length : Nat) : Int)) ≤ ((v1.length : Nat) : Int))) (Option.bind (S_law06_Page ((Int.tmod (w64 (Int.tdiv (w64 (v1.getD (Int.toNat v3) 0)) 7)) 30), ((v1.drop (Int.toNat v3)).take ((Int.toNat (min (w64 ((w64 (v3 + 1)) + (Int.tmod (w64 (Int.tdiv (w64 (v1.getD (Int.toNat v3) 0)) 50)) 8))) ((v1.length : Nat) : Int))) - (Int.toNat v3))))) fun r6 =>
      cond (decide ((Int.tmod (w64 (v1.getD (Int.toNat v3) 0)) 11) = 0))
        (cond (decide ((Int.tmod (w64 (v1.getD (Int.toNat v3) 0)) 29) = 0))
          (Option.bind (S_ref05_Erase (v5, (Int.tmod (w64 (v1.getD (Int.toNat v3) 0)) v2), (Fate.mk 0 [] [] 0))) fun r7 =>
          cond (decide (0 ≤ (Int.tmod (w64 (v1.getD (Int.toNat v3) 0)) v2))) (cond (decide ((Int.tmod (w64 (v1.getD (Int.toNat v3) 0)) v2) < ((r7.1.blocks.length : Nat) : Int))) (Option.bind (S_ref05_Program (r7.1, (Int.tmod (w64 (v1.getD (Int.toNat v3) 0)) v2), (r7.1.blocks.getD (Int.toNat (Int.tmod (w64 (v1.getD (Int.toNat v3) 0)) v2)) default).next, r6, (Fate.mk 1 [120] r6.tag 0))) fun r8 =>
          cond (!(decide (r8.2 = 1)))
            (ih0 (v1, v2, (max (min (w64 ((w64 (v3 + 1)) + (Int.tmod (w64 (Int.tdiv (w64 (v1.getD (Int.toNat v3) 0)) 50)) 8))) ((v1.length : Nat) : Int)) (w64 (v3 + 1))), (w64 (v4 + 1)), r8.1))
            (ih0 (v1, v2, (max (min (w64 ((w64 (v3 + 1)) + (Int.tmod (w64 (Int.tdiv (w64 (v1.getD (Int.toNat v3) 0)) 50)) 8))) ((v1.length : Nat) : Int)) (w64 (v3 + 1))), (w64 (v4 + 1)), r7.1))) none) none)
          (cond (decide (0 ≤ (Int.tmod (w64 (v1.getD (Int.toNat v3) 0)) v2))) (cond (decide ((Int.tmod (w64 (v1.getD (Int.toNat v3) 0)) v2) < ((v5.blocks.length : Nat) : Int))) (Option.bind (S_ref05_Program (v5, (Int.tmod (w64 (v1.getD (Int.toNat v3) 0)) v2), (v5.blocks.getD (Int.toNat (Int.tmod (w64 (v1.getD (Int.toNat v3) 0)) v2)) default).next, r6, (Fate.mk 1 [120] r6.tag 0))) fun r9 =>
          cond (!(decide (r9.2 = 1)))
            (ih0 (v1, v2, (max (min (w64 ((w64 (v3 + 1)) + (Int.tmod (w64 (Int.tdiv (w64 (v1.getD (Int.toNat v3) 0)) 50)) 8))) ((v1.length : Nat) : Int)) (w64 (v3 + 1))), (w64 (v4 + 1)), r9.1))
            (ih0 (v1, v2, (max (min (w64 ((w64 (v3 + 1)) + (Int.tmod (w64 (Int.tdiv (w64 (v1.getD (Int.toNat v3) 0)) 50)) 8))) ((v1.length : Nat) : Int)) (w64 (v3 + 1))), (w64 (v4 + 1)), v5))) none) none))
        (cond (decide ((Int.tmod (w64 (v1.getD (Int.toNat v3) 0)) 29) = 0))
          (Option.bind (S_ref05_Erase (v5, (Int.tmod (w64 (v1.getD (Int.toNat v3) 0)) v2), (Fate.mk 0 [] [] 0))) fun r10 =>
          cond (decide (0 ≤ (Int.tmod (w64 (v1.getD (Int.toNat v3) 0)) v2))) (cond (decide ((Int.tmod (w64 (v1.getD (Int.toNat v3) 0)) v2) < ((r10.1.blocks.length : Nat) : Int))) (Option.bind (S_ref05_Program (r10.1, (Int.tmod (w64 (v1.getD (Int.toNat v3) 0)) v2), (r10.1.blocks.getD (Int.toNat (Int.tmod (w64 (v1.getD (Int.toNat v3) 0)) v2)) default).next, r6, (Fate.mk 0 [] [] 0))) fun r11 =>
          cond (!(decide (r11.2 = 1)))
            (ih0 (v1, v2, (max (min (w64 ((w64 (v3 + 1)) + (Int.tmod (w64 (Int.tdiv (w64 (v1.getD (Int.toNat v3) 0)) 50)) 8))) ((v1.length : Nat) : Int)) (w64 (v3 + 1))), (w64 (v4 + 1)), r11.1))
            (ih0 (v1, v2, (max (min (w64 ((w64 (v3 + 1)) + (Int.tmod (w64 (Int.tdiv (w64 (v1.getD (Int.toNat v3) 0)) 50)) 8))) ((v1.length : Nat) : Int)) (w64 (v3 + 1))), (w64 (v4 + 1)), r10.1))) none) none)
          (cond (decide (0 ≤ (Int.tmod (w64 (v1.getD (Int.toNat v3) 0)) v2))) (cond (decide ((Int.tmod (w64 (v1.getD (Int.toNat v3) 0)) v2) < ((v5.blocks.length : Nat) : Int))) (Option.bind (S_ref05_Program (v5, (Int.tmod (w64 (v1.getD (Int.toNat v3) 0)) v2), (v5.blocks.getD (Int.toNat (Int.tmod (w64 (v1.getD (Int.toNat v3) 0)) v2)) default).next, r6, (Fate.mk 0 [] [] 0))) fun r12 =>
          cond (!(decide (r12.2 = 1)))
            (ih0 (v1, v2, (max (min (w64 ((w64 (v3 + 1)) + (Int.tmod (w64 (Int.tdiv (w64 (v1.getD (Int.toNat v3) 0)) 50)) 8))) ((v1.length : Nat) : Int)) (w64 (v3 + 1))), (w64 (v4 + 1)), r12.1))
            (ih0 (v1, v2, (max (min (w64 ((w64 (v3 + 1)) + (Int.tmod (w64 (Int.tdiv (w64 (v1.getD (Int.toNat v3) 0)) 50)) 8))) ((v1.length : Nat) : Int)) (w64 (v3 + 1))), (w64 (v4 + 1)), v5))) none) none))) none) none) none) none) none) none)
      (some v5))
    (some v5)
noncomputable def F_law06_Made_L1 : (((List Int) × Int × Int × Int × Chip) → Option (Chip)) → ((List Int) × Int × Int × Int × Chip) → Option (Chip) := fun ih x => G_law06_Made_L1 ih x.1 x.2.1 x.2.2.1 x.2.2.2.1 x.2.2.2.2
theorem F_law06_Made_L1_eq (ih : ((List Int) × Int × Int × Int × Chip) → Option (Chip)) (x : (List Int) × Int × Int × Int × Chip) : F_law06_Made_L1 ih x = G_law06_Made_L1 ih x.1 x.2.1 x.2.2.1 x.2.2.2.1 x.2.2.2.2 := rfl
noncomputable def G_law06_Made (N : Nat) (a0 : (List Int)) (a1 : Int) (a2 : Int) : Option (Chip) :=
  Option.bind (S_ref05_New (a1, a2, [])) fun r1 =>
  iterF F_law06_Made_L1 N (a0, a1, 0, 0, r1.1)
noncomputable def S_law06_Made (x : (List Int) × Int × Int) : Option (Chip) := lim fun N => G_law06_Made N x.1 x.2.1 x.2.2
noncomputable def G_law15_Made (a0 : (List Int)) (a1 : Int) : Option (Device) :=
  Option.bind (S_law14_Small a1) fun r1 =>
  Option.bind (S_law06_Made (a0, r1.blocks, r1.pages)) fun r2 =>
  Option.bind (S_ref14_Mount (r1, r2)) fun r3 =>
  some r3.1
noncomputable def S_law15_Made (x : (List Int) × Int) : Option (Device) := G_law15_Made x.1 x.2
noncomputable def G_law15_Fates_L1 (ih0 : ((List Int) × Int × (List Fate)) → Option ((List Fate))) (v1 : (List Int)) (v2 : Int) (v3 : (List Fate)) : Option ((List Fate)) :=
  cond (decide (v2 < ((v1.length : Nat) : Int)))
    (cond (decide (v2 < 12))
      (cond (decide (0 ≤ v2)) (cond (decide (v2 < ((v1.length : Nat) : Int))) (cond (decide (0 ≤ (Int.tmod (w64 (v1.getD (Int.toNat v2) 0)) 3))) (cond (decide ((Int.tmod (w64 (v1.getD (Int.toNat v2) 0)) 3) < (([[], [120], [2, 1]].length : Nat) : Int))) (cond (decide ((Int.toNat (Int.tmod (w64 (v1.getD (Int.toNat v2) 0)) 3)) < [[], [120], [2, 1]].length)) (cond (decide (200 ≤ (w64 (v1.getD (Int.toNat v2) 0))))
        (cond (decide (236 ≤ (w64 (v1.getD (Int.toNat v2) 0))))
          (cond (decide ((v3.length + [(Fate.mk 2 [116, 111, 114, 110] ([[], [120], [2, 1]].getD (Int.toNat (Int.tmod (w64 (v1.getD (Int.toNat v2) 0)) 3)) []) (Int.tmod (w64 (Int.tdiv (w64 (v1.getD (Int.toNat v2) 0)) 8)) 5))].length) * 48 ≤ 70368744177664)) (cond (decide (v3.length + [(Fate.mk 2 [116, 111, 114, 110] ([[], [120], [2, 1]].getD (Int.toNat (Int.tmod (w64 (v1.getD (Int.toNat v2) 0)) 3)) []) (Int.tmod (w64 (Int.tdiv (w64 (v1.getD (Int.toNat v2) 0)) 8)) 5))].length ≤ 70368744177664)) (ih0 (v1, (w64 (v2 + 1)), (v3 ++ [(Fate.mk 2 [116, 111, 114, 110] ([[], [120], [2, 1]].getD (Int.toNat (Int.tmod (w64 (v1.getD (Int.toNat v2) 0)) 3)) []) (Int.tmod (w64 (Int.tdiv (w64 (v1.getD (Int.toNat v2) 0)) 8)) 5))]))) none) none)
          (cond (decide ((v3.length + [(Fate.mk 1 [116, 111, 114, 110] ([[], [120], [2, 1]].getD (Int.toNat (Int.tmod (w64 (v1.getD (Int.toNat v2) 0)) 3)) []) (Int.tmod (w64 (Int.tdiv (w64 (v1.getD (Int.toNat v2) 0)) 8)) 5))].length) * 48 ≤ 70368744177664)) (cond (decide (v3.length + [(Fate.mk 1 [116, 111, 114, 110] ([[], [120], [2, 1]].getD (Int.toNat (Int.tmod (w64 (v1.getD (Int.toNat v2) 0)) 3)) []) (Int.tmod (w64 (Int.tdiv (w64 (v1.getD (Int.toNat v2) 0)) 8)) 5))].length ≤ 70368744177664)) (ih0 (v1, (w64 (v2 + 1)), (v3 ++ [(Fate.mk 1 [116, 111, 114, 110] ([[], [120], [2, 1]].getD (Int.toNat (Int.tmod (w64 (v1.getD (Int.toNat v2) 0)) 3)) []) (Int.tmod (w64 (Int.tdiv (w64 (v1.getD (Int.toNat v2) 0)) 8)) 5))]))) none) none))
        (cond (decide (236 ≤ (w64 (v1.getD (Int.toNat v2) 0))))
          (cond (decide ((v3.length + [(Fate.mk 2 [116, 111, 114, 110] ([[], [120], [2, 1]].getD (Int.toNat (Int.tmod (w64 (v1.getD (Int.toNat v2) 0)) 3)) []) (Int.tmod (w64 (Int.tdiv (w64 (v1.getD (Int.toNat v2) 0)) 8)) 5))].length) * 48 ≤ 70368744177664)) (cond (decide (v3.length + [(Fate.mk 2 [116, 111, 114, 110] ([[], [120], [2, 1]].getD (Int.toNat (Int.tmod (w64 (v1.getD (Int.toNat v2) 0)) 3)) []) (Int.tmod (w64 (Int.tdiv (w64 (v1.getD (Int.toNat v2) 0)) 8)) 5))].length ≤ 70368744177664)) (ih0 (v1, (w64 (v2 + 1)), (v3 ++ [(Fate.mk 2 [116, 111, 114, 110] ([[], [120], [2, 1]].getD (Int.toNat (Int.tmod (w64 (v1.getD (Int.toNat v2) 0)) 3)) []) (Int.tmod (w64 (Int.tdiv (w64 (v1.getD (Int.toNat v2) 0)) 8)) 5))]))) none) none)
          (cond (decide ((v3.length + [(Fate.mk 0 [116, 111, 114, 110] ([[], [120], [2, 1]].getD (Int.toNat (Int.tmod (w64 (v1.getD (Int.toNat v2) 0)) 3)) []) (Int.tmod (w64 (Int.tdiv (w64 (v1.getD (Int.toNat v2) 0)) 8)) 5))].length) * 48 ≤ 70368744177664)) (cond (decide (v3.length + [(Fate.mk 0 [116, 111, 114, 110] ([[], [120], [2, 1]].getD (Int.toNat (Int.tmod (w64 (v1.getD (Int.toNat v2) 0)) 3)) []) (Int.tmod (w64 (Int.tdiv (w64 (v1.getD (Int.toNat v2) 0)) 8)) 5))].length ≤ 70368744177664)) (ih0 (v1, (w64 (v2 + 1)), (v3 ++ [(Fate.mk 0 [116, 111, 114, 110] ([[], [120], [2, 1]].getD (Int.toNat (Int.tmod (w64 (v1.getD (Int.toNat v2) 0)) 3)) []) (Int.tmod (w64 (Int.tdiv (w64 (v1.getD (Int.toNat v2) 0)) 8)) 5))]))) none) none))) none) none) none) none) none)
      (some v3))
    (some v3)
noncomputable def F_law15_Fates_L1 : (((List Int) × Int × (List Fate)) → Option ((List Fate))) → ((List Int) × Int × (List Fate)) → Option ((List Fate)) := fun ih x => G_law15_Fates_L1 ih x.1 x.2.1 x.2.2
theorem F_law15_Fates_L1_eq (ih : ((List Int) × Int × (List Fate)) → Option ((List Fate))) (x : (List Int) × Int × (List Fate)) : F_law15_Fates_L1 ih x = G_law15_Fates_L1 ih x.1 x.2.1 x.2.2 := rfl
noncomputable def G_law15_Fates (N : Nat) (a0 : (List Int)) : Option ((List Fate)) :=
  iterF F_law15_Fates_L1 N (a0, 0, [])
noncomputable def S_law15_Fates (x : (List Int)) : Option ((List Fate)) := lim fun N => G_law15_Fates N x
noncomputable def G_ref10_State_L1 (ih0 : (Int × Block) → Option (Int)) (v1 : Int) (v2 : Block) : Option (Int) :=
  cond (decide (v1 < ((v2.pages.length : Nat) : Int)))
    (cond (decide (0 ≤ v1)) (cond (decide (v1 < ((v2.pages.length : Nat) : Int))) (cond (v2.pages.getD (Int.toNat v1) default).written
      (some 2)
      (ih0 ((w64 (v1 + 1)), v2))) none) none)
    (cond (decide (v2.next = 0))
      (some 0)
      (some 2))
noncomputable def F_ref10_State_L1 : ((Int × Block) → Option (Int)) → (Int × Block) → Option (Int) := fun ih x => G_ref10_State_L1 ih x.1 x.2
theorem F_ref10_State_L1_eq (ih : (Int × Block) → Option (Int)) (x : Int × Block) : F_ref10_State_L1 ih x = G_ref10_State_L1 ih x.1 x.2 := rfl
noncomputable def G_ref10_State (N : Nat) (a0 : Chip) (a1 : Int) (a2 : Int) : Option (Int) :=
  cond (decide (a2 < 0))
    (some 3)
    (cond (decide (((a0.blocks.length : Nat) : Int) ≤ a2))
      (some 3)
      (cond (decide (0 ≤ a2)) (cond (decide (a2 < ((a0.blocks.length : Nat) : Int))) (cond (a0.blocks.getD (Int.toNat a2) default).bad
        (some 3)
        (cond (decide (0 ≤ a2)) (cond (decide (a2 < ((a0.blocks.length : Nat) : Int))) (cond (decide (a2 = a1))
          (cond (decide (0 ≤ (a0.blocks.getD (Int.toNat a2) default).next))
            (cond (decide ((a0.blocks.getD (Int.toNat a2) default).next < (((a0.blocks.getD (Int.toNat a2) default).pages.length : Nat) : Int)))
              (some 1)
              (iterF F_ref10_State_L1 N (0, (a0.blocks.getD (Int.toNat a2) default))))
            (iterF F_ref10_State_L1 N (0, (a0.blocks.getD (Int.toNat a2) default))))
          (iterF F_ref10_State_L1 N (0, (a0.blocks.getD (Int.toNat a2) default)))) none) none)) none) none))
noncomputable def S_ref10_State (x : Chip × Int × Int) : Option (Int) := lim fun N => G_ref10_State N x.1 x.2.1 x.2.2
noncomputable def G_ref11_Rest (a0 : Chip) (a1 : Int) : Option (Int) :=
  cond (decide (a1 < 0))
    (some 0)
    (cond (decide (((a0.blocks.length : Nat) : Int) ≤ a1))
      (some 0)
      (Option.bind (S_ref10_State (a0, a1, a1)) fun r1 =>
      cond (!(decide (r1 = 1)))
        (some 0)
        (cond (decide (0 ≤ a1)) (cond (decide (a1 < ((a0.blocks.length : Nat) : Int))) (cond (decide (0 ≤ a1)) (cond (decide (a1 < ((a0.blocks.length : Nat) : Int))) (some (w64 ((((a0.blocks.getD (Int.toNat a1) default).pages.length : Nat) : Int) - (a0.blocks.getD (Int.toNat a1) default).next))) none) none) none) none)))
noncomputable def S_ref11_Rest (x : Chip × Int) : Option (Int) := G_ref11_Rest x.1 x.2
noncomputable def G_ref10_Pick_L1 (ih0 : (Int × Int × Int × Chip) → Option (Int)) (v1 : Int) (v2 : Int) (v3 : Int) (v4 : Chip) : Option (Int) :=
  cond (decide (v3 < ((v4.blocks.length : Nat) : Int)))
    (Option.bind (S_ref10_State (v4, v1, v3)) fun r5 =>
    cond (decide (r5 = 0))
      (cond (decide (v2 < 0))
        (ih0 (v1, v3, (w64 (v3 + 1)), v4))
        (cond (decide (0 ≤ v3)) (cond (decide (v3 < ((v4.blocks.length : Nat) : Int))) (cond (decide (0 ≤ v2)) (cond (decide (v2 < ((v4.blocks.length : Nat) : Int))) (cond (decide ((v4.blocks.getD (Int.toNat v3) default).erases < (v4.blocks.getD (Int.toNat v2) default).erases))
          (ih0 (v1, v3, (w64 (v3 + 1)), v4))
          (ih0 (v1, v2, (w64 (v3 + 1)), v4))) none) none) none) none))
      (ih0 (v1, v2, (w64 (v3 + 1)), v4)))
    (some v2)
noncomputable def F_ref10_Pick_L1 : ((Int × Int × Int × Chip) → Option (Int)) → (Int × Int × Int × Chip) → Option (Int) := fun ih x => G_ref10_Pick_L1 ih x.1 x.2.1 x.2.2.1 x.2.2.2
theorem F_ref10_Pick_L1_eq (ih : (Int × Int × Int × Chip) → Option (Int)) (x : Int × Int × Int × Chip) : F_ref10_Pick_L1 ih x = G_ref10_Pick_L1 ih x.1 x.2.1 x.2.2.1 x.2.2.2 := rfl
noncomputable def G_ref10_Pick (N : Nat) (a0 : Chip) (a1 : Int) : Option (Int) :=
  iterF F_ref10_Pick_L1 N (a1, (-1), 0, a0)
noncomputable def S_ref10_Pick (x : Chip × Int) : Option (Int) := lim fun N => G_ref10_Pick N x.1 x.2
noncomputable def G_ref15_Fate (a0 : (List Fate)) : Option (Fate × (List Fate)) :=
  cond (decide (((a0.length : Nat) : Int) = 0))
    (some ((Fate.mk 0 [] [] 0), []))
    (cond (decide (0 < ((a0.length : Nat) : Int))) (cond (decide (1 ≤ ((a0.length : Nat) : Int))) (some ((a0.getD 0 default), (a0.drop 1))) none) none)
noncomputable def S_ref15_Fate (x : (List Fate)) : Option (Fate × (List Fate)) := G_ref15_Fate x
noncomputable def G_ref15_Put_L1 (ih0 : ((List Fate) × Device × Write × Page) → Option (Device × (List Fate) × Int)) (v1 : (List Fate)) (v2 : Device) (v3 : Write) (v4 : Page) : Option (Device × (List Fate) × Int) :=
  Option.bind (S_ref11_Rest (v2.chip, v2.opn)) fun r5 =>
  cond (decide (r5 = 0))
    (Option.bind (S_ref10_Pick (v2.chip, (-1))) fun r6 =>
    cond (decide (r6 < 0))
      (some ((Device.mk v2.geometry v2.chip v2.table v2.seq (-1)), v1, 40))
      (Option.bind (S_ref11_Rest (v2.chip, r6)) fun r7 =>
      cond (decide (r7 = 0))
        (some ((Device.mk v2.geometry v2.chip v2.table v2.seq (-1)), v1, 40))
        (cond (decide (0 ≤ r6)) (cond (decide (r6 < ((v2.chip.blocks.length : Nat) : Int))) (Option.bind (S_ref15_Fate v1) fun r8 =>
        Option.bind (S_ref05_Program (v2.chip, r6, (v2.chip.blocks.getD (Int.toNat r6) default).next, v4, r8.1)) fun r9 =>
        cond (decide (r9.2 = 0))
          (Option.bind (S_ref06_Place (r6, (v2.chip.blocks.getD (Int.toNat r6) default).next)) fun r10 =>
          Option.bind (S_ref07_Apply (v2.table, (Found.mk r10 v3.record))) fun r11 =>
          some ((Device.mk v2.geometry r9.1 r11 (w64 (v2.seq + 1)) r6), r8.2, 0))
          (cond (decide (r9.2 = 53))
            (ih0 (r8.2, (Device.mk v2.geometry r9.1 v2.table v2.seq (-1)), v3, v4))
            (some ((Device.mk v2.geometry r9.1 v2.table v2.seq r6), r8.2, r9.2)))) none) none)))
    (cond (decide (v2.opn < 0))
      (some ((Device.mk v2.geometry v2.chip v2.table v2.seq (-1)), v1, 40))
      (Option.bind (S_ref11_Rest (v2.chip, v2.opn)) fun r12 =>
      cond (decide (r12 = 0))
        (some ((Device.mk v2.geometry v2.chip v2.table v2.seq (-1)), v1, 40))
        (cond (decide (0 ≤ v2.opn)) (cond (decide (v2.opn < ((v2.chip.blocks.length : Nat) : Int))) (Option.bind (S_ref15_Fate v1) fun r13 =>
        Option.bind (S_ref05_Program (v2.chip, v2.opn, (v2.chip.blocks.getD (Int.toNat v2.opn) default).next, v4, r13.1)) fun r14 =>
        cond (decide (r14.2 = 0))
          (Option.bind (S_ref06_Place (v2.opn, (v2.chip.blocks.getD (Int.toNat v2.opn) default).next)) fun r15 =>
          Option.bind (S_ref07_Apply (v2.table, (Found.mk r15 v3.record))) fun r16 =>
          some ((Device.mk v2.geometry r14.1 r16 (w64 (v2.seq + 1)) v2.opn), r13.2, 0))
          (cond (decide (r14.2 = 53))
            (ih0 (r13.2, (Device.mk v2.geometry r14.1 v2.table v2.seq (-1)), v3, v4))
            (some ((Device.mk v2.geometry r14.1 v2.table v2.seq v2.opn), r13.2, r14.2)))) none) none)))
noncomputable def F_ref15_Put_L1 : (((List Fate) × Device × Write × Page) → Option (Device × (List Fate) × Int)) → ((List Fate) × Device × Write × Page) → Option (Device × (List Fate) × Int) := fun ih x => G_ref15_Put_L1 ih x.1 x.2.1 x.2.2.1 x.2.2.2
theorem F_ref15_Put_L1_eq (ih : ((List Fate) × Device × Write × Page) → Option (Device × (List Fate) × Int)) (x : (List Fate) × Device × Write × Page) : F_ref15_Put_L1 ih x = G_ref15_Put_L1 ih x.1 x.2.1 x.2.2.1 x.2.2.2 := rfl
noncomputable def G_ref15_Put (N : Nat) (a0 : Device) (a1 : Write) (a2 : (List Fate)) : Option (Device × (List Fate) × Int) :=
  Option.bind (S_ref04_Make (Write.mk a1.data (Record.mk a1.record.kind a0.seq a1.record.keys a1.record.values))) fun r1 =>
  cond (!(decide (r1.2 = 0)))
    (some (a0, a2, r1.2))
    (iterF F_ref15_Put_L1 N (a2, a0, (Write.mk a1.data (Record.mk a1.record.kind a0.seq a1.record.keys a1.record.values)), r1.1))
noncomputable def S_ref15_Put (x : Device × Write × (List Fate)) : Option (Device × (List Fate) × Int) := lim fun N => G_ref15_Put N x.1 x.2.1 x.2.2
noncomputable def G_cmp_isNaN (a0 : Int) : Option (Bool) :=
  some (!(decide (a0 = a0)))
noncomputable def S_cmp_isNaN (x : Int) : Option (Bool) := G_cmp_isNaN x
noncomputable def G_cmp_Less (a0 : Int) (a1 : Int) : Option (Bool) :=
  Option.bind (S_cmp_isNaN a0) fun r1 =>
  cond r1
    (Option.bind (S_cmp_isNaN a1) fun r2 =>
    cond (!r2)
      (some true)
      (some (decide (a0 < a1))))
    (some (decide (a0 < a1)))
noncomputable def S_cmp_Less (x : Int × Int) : Option (Bool) := G_cmp_Less x.1 x.2
noncomputable def G_slices_IsSorted_L1 (ih0 : ((List Int) × Int) → Option (Bool)) (v1 : (List Int)) (v2 : Int) : Option (Bool) :=
  cond (decide (0 < v2))
    (cond (decide (0 ≤ v2)) (cond (decide (v2 < ((v1.length : Nat) : Int))) (cond (decide (0 ≤ (w64 (v2 - 1)))) (cond (decide ((w64 (v2 - 1)) < ((v1.length : Nat) : Int))) (Option.bind (S_cmp_Less ((v1.getD (Int.toNat v2) 0), (v1.getD (Int.toNat (w64 (v2 - 1))) 0))) fun r3 =>
    cond r3
      (some false)
      (ih0 (v1, (w64 (v2 - 1))))) none) none) none) none)
    (some true)
noncomputable def F_slices_IsSorted_L1 : (((List Int) × Int) → Option (Bool)) → ((List Int) × Int) → Option (Bool) := fun ih x => G_slices_IsSorted_L1 ih x.1 x.2
theorem F_slices_IsSorted_L1_eq (ih : ((List Int) × Int) → Option (Bool)) (x : (List Int) × Int) : F_slices_IsSorted_L1 ih x = G_slices_IsSorted_L1 ih x.1 x.2 := rfl
noncomputable def G_slices_IsSorted (N : Nat) (a0 : (List Int)) : Option (Bool) :=
  iterF F_slices_IsSorted_L1 N (a0, (w64 (((a0.length : Nat) : Int) - 1)))
noncomputable def S_slices_IsSorted (x : (List Int)) : Option (Bool) := lim fun N => G_slices_IsSorted N x
noncomputable def G_tag_keys_L1 (a0 : (List Int)) (ih0 : ((List Int) × Int × Int × (List Int)) → Option (Bool)) (v1 : (List Int)) (v2 : Int) (v3 : Int) (v4 : (List Int)) : Option (Bool) :=
  cond (decide (v3 < v2))
    (cond (decide (0 ≤ v3)) (cond (decide (v3 < ((v1.length : Nat) : Int))) (cond (decide ((v1.getD (Int.toNat v3) 0) < 0))
      (cond (!(decide (0 ≤ v3)))
        (some (decide (((a0.length : Nat) : Int) = ((a0.length : Nat) : Int))))
        (some false))
      (cond (decide (64 ≤ (v1.getD (Int.toNat v3) 0)))
        (cond (!(decide (0 ≤ v3)))
          (some (decide (((a0.length : Nat) : Int) = ((a0.length : Nat) : Int))))
          (some false))
        (ih0 (v1, v2, (w64 (v3 + 1)), v4)))) none) none)
    (some (decide (((a0.length : Nat) : Int) = ((a0.length : Nat) : Int))))
noncomputable def F_tag_keys_L1 (a0 : (List Int)) : (((List Int) × Int × Int × (List Int)) → Option (Bool)) → ((List Int) × Int × Int × (List Int)) → Option (Bool) := fun ih x => G_tag_keys_L1 a0 ih x.1 x.2.1 x.2.2.1 x.2.2.2
theorem F_tag_keys_L1_eq (a0 : (List Int)) (ih : ((List Int) × Int × Int × (List Int)) → Option (Bool)) (x : (List Int) × Int × Int × (List Int)) : F_tag_keys_L1 a0 ih x = G_tag_keys_L1 a0 ih x.1 x.2.1 x.2.2.1 x.2.2.2 := rfl
noncomputable def G_tag_keys_L4 (a0 : (List Int)) (v0 : Int) (ih1 : ((List Int) × Int × Int × (List Int)) → Option (Bool)) (v2 : (List Int)) (v3 : Int) (v4 : Int) (v5 : (List Int)) : Option (Bool) :=
  cond (decide (v4 < v3))
    (cond (decide (0 ≤ v4)) (cond (decide (v4 < ((v2.length : Nat) : Int))) (cond (decide ((v2.getD (Int.toNat v4) 0) < 0))
      (cond (!(decide (0 ≤ v4)))
        (some (decide ((((Int.toNat v0) : Nat) : Int) = ((a0.length : Nat) : Int))))
        (some false))
      (cond (decide (64 ≤ (v2.getD (Int.toNat v4) 0)))
        (cond (!(decide (0 ≤ v4)))
          (some (decide ((((Int.toNat v0) : Nat) : Int) = ((a0.length : Nat) : Int))))
          (some false))
        (ih1 (v2, v3, (w64 (v4 + 1)), v5)))) none) none)
    (some (decide ((((Int.toNat v0) : Nat) : Int) = ((a0.length : Nat) : Int))))
noncomputable def F_tag_keys_L4 (a0 : (List Int)) (v10 : Int) : (((List Int) × Int × Int × (List Int)) → Option (Bool)) → ((List Int) × Int × Int × (List Int)) → Option (Bool) := fun ih x => G_tag_keys_L4 a0 v10 ih x.1 x.2.1 x.2.2.1 x.2.2.2
theorem F_tag_keys_L4_eq (a0 : (List Int)) (v10 : Int) (ih : ((List Int) × Int × Int × (List Int)) → Option (Bool)) (x : (List Int) × Int × Int × (List Int)) : F_tag_keys_L4 a0 v10 ih x = G_tag_keys_L4 a0 v10 ih x.1 x.2.1 x.2.2.1 x.2.2.2 := rfl
noncomputable def G_tag_keys_L3 (N : Nat) (a0 : (List Int)) (ih0 : (Int × Int × Int × Int × (List Int)) → Option (Bool)) (v1 : Int) (v2 : Int) (v3 : Int) (v4 : Int) (v5 : (List Int)) : Option (Bool) :=
  cond (decide (v4 < (((Int.toNat v3) : Nat) : Int)))
    (cond (decide (0 ≤ v4)) (cond (decide (v4 < (((Int.toNat v3) : Nat) : Int))) (cond (decide (((Int.toNat v2) + (Int.toNat v4)) < v5.length)) (cond (decide (0 ≤ (w64 (v4 - 1)))) (cond (decide ((w64 (v4 - 1)) < (((Int.toNat v3) : Nat) : Int))) (cond (decide (((Int.toNat v2) + (Int.toNat (w64 (v4 - 1)))) < v5.length)) (cond (!(decide ((v5.getD ((Int.toNat v2) + (Int.toNat v4)) 0) = (v5.getD ((Int.toNat v2) + (Int.toNat (w64 (v4 - 1)))) 0))))
      (cond (decide (0 ≤ v4)) (cond (decide (v4 < (((Int.toNat v3) : Nat) : Int))) (cond (decide (((Int.toNat v2) + (Int.toNat v4)) < v5.length)) (cond (decide (0 ≤ v1)) (cond (decide (v1 < ((v5.length : Nat) : Int))) (cond (decide ((Int.toNat v1) < v5.length)) (ih0 ((w64 (v1 + 1)), (((Int.toNat v2) : Nat) : Int), (((Int.toNat v3) : Nat) : Int), (w64 (v4 + 1)), (v5.set (Int.toNat v1) (v5.getD ((Int.toNat v2) + (Int.toNat v4)) 0)))) none) none) none) none) none) none)
      (ih0 (v1, (((Int.toNat v2) : Nat) : Int), (((Int.toNat v3) : Nat) : Int), (w64 (v4 + 1)), v5))) none) none) none) none) none) none)
    (cond (decide (0 ≤ v1)) (cond (decide (v1 ≤ ((v5.length : Nat) : Int))) (cond (decide (0 < v5.length)) (cond (decide (0 ≤ v1)) (cond (decide (v1 ≤ (((v5.take (Int.toNat v1) ++ List.replicate (v5.length - (Int.toNat v1)) 0 ++ v5.drop ((Int.toNat v1) + (v5.length - (Int.toNat v1)))).length : Nat) : Int))) (cond (decide (0 < ((a0.length : Nat) : Int)))
      (cond (decide (((a0.length : Nat) : Int) ≤ 8))
        (iterF (F_tag_keys_L4 a0 v1) N (a0, ((a0.length : Nat) : Int), 0, (v5.take (Int.toNat v1) ++ List.replicate (v5.length - (Int.toNat v1)) 0 ++ v5.drop ((Int.toNat v1) + (v5.length - (Int.toNat v1))))))
        (some false))
      (some false)) none) none) none) none) none)
noncomputable def F_tag_keys_L3 (N : Nat) (a0 : (List Int)) : ((Int × Int × Int × Int × (List Int)) → Option (Bool)) → (Int × Int × Int × Int × (List Int)) → Option (Bool) := fun ih x => G_tag_keys_L3 N a0 ih x.1 x.2.1 x.2.2.1 x.2.2.2.1 x.2.2.2.2
theorem F_tag_keys_L3_eq (N : Nat) (a0 : (List Int)) (ih : (Int × Int × Int × Int × (List Int)) → Option (Bool)) (x : Int × Int × Int × Int × (List Int)) : F_tag_keys_L3 N a0 ih x = G_tag_keys_L3 N a0 ih x.1 x.2.1 x.2.2.1 x.2.2.2.1 x.2.2.2.2 := rfl
noncomputable def G_tag_keys_L5 (a0 : (List Int)) (v0 : (List Int)) (ih1 : ((List Int) × Int × Int × (List Int)) → Option (Bool)) (v2 : (List Int)) (v3 : Int) (v4 : Int) (v5 : (List Int)) : Option (Bool) :=
  cond (decide (v4 < v3))
    (cond (decide (0 ≤ v4)) (cond (decide (v4 < ((v2.length : Nat) : Int))) (cond (decide ((v2.getD (Int.toNat v4) 0) < 0))
      (cond (!(decide (0 ≤ v4)))
        (some (decide (((v0.length : Nat) : Int) = ((a0.length : Nat) : Int))))
        (some false))
      (cond (decide (64 ≤ (v2.getD (Int.toNat v4) 0)))
        (cond (!(decide (0 ≤ v4)))
          (some (decide (((v0.length : Nat) : Int) = ((a0.length : Nat) : Int))))
          (some false))
        (ih1 (v2, v3, (w64 (v4 + 1)), v5)))) none) none)
    (some (decide (((v0.length : Nat) : Int) = ((a0.length : Nat) : Int))))
noncomputable def F_tag_keys_L5 (a0 : (List Int)) (v8 : (List Int)) : (((List Int) × Int × Int × (List Int)) → Option (Bool)) → ((List Int) × Int × Int × (List Int)) → Option (Bool) := fun ih x => G_tag_keys_L5 a0 v8 ih x.1 x.2.1 x.2.2.1 x.2.2.2
theorem F_tag_keys_L5_eq (a0 : (List Int)) (v8 : (List Int)) (ih : ((List Int) × Int × Int × (List Int)) → Option (Bool)) (x : (List Int) × Int × Int × (List Int)) : F_tag_keys_L5 a0 v8 ih x = G_tag_keys_L5 a0 v8 ih x.1 x.2.1 x.2.2.1 x.2.2.2 := rfl
noncomputable def G_tag_keys_L2 (N : Nat) (a0 : (List Int)) (ih0 : (Int × (List Int)) → Option (Bool)) (v1 : Int) (v2 : (List Int)) : Option (Bool) :=
  cond (decide (v1 < ((v2.length : Nat) : Int)))
    (cond (decide (0 ≤ v1)) (cond (decide (v1 < ((v2.length : Nat) : Int))) (cond (decide ((Int.toNat v1) < v2.length)) (cond (decide (0 ≤ (w64 (v1 - 1)))) (cond (decide ((w64 (v1 - 1)) < ((v2.length : Nat) : Int))) (cond (decide ((Int.toNat (w64 (v1 - 1))) < v2.length)) (cond (decide ((v2.getD (Int.toNat v1) 0) = (v2.getD (Int.toNat (w64 (v1 - 1))) 0)))
      (cond (decide (0 ≤ v1)) (cond (decide (v1 ≤ ((v2.length : Nat) : Int))) (iterF (F_tag_keys_L3 N a0) N (v1, (((Int.toNat v1) : Nat) : Int), (((v2.length - (Int.toNat v1)) : Nat) : Int), 1, v2)) none) none)
      (ih0 ((w64 (v1 + 1)), v2))) none) none) none) none) none) none)
    (cond (decide (0 < ((a0.length : Nat) : Int)))
      (cond (decide (((a0.length : Nat) : Int) ≤ 8))
        (iterF (F_tag_keys_L5 a0 v2) N (a0, ((a0.length : Nat) : Int), 0, v2))
        (some false))
      (some false))
noncomputable def F_tag_keys_L2 (N : Nat) (a0 : (List Int)) : ((Int × (List Int)) → Option (Bool)) → (Int × (List Int)) → Option (Bool) := fun ih x => G_tag_keys_L2 N a0 ih x.1 x.2
theorem F_tag_keys_L2_eq (N : Nat) (a0 : (List Int)) (ih : (Int × (List Int)) → Option (Bool)) (x : Int × (List Int)) : F_tag_keys_L2 N a0 ih x = G_tag_keys_L2 N a0 ih x.1 x.2 := rfl
noncomputable def G_tag_keys_L6 (ih0 : ((List Int) × Int × Int) → Option (Bool)) (v1 : (List Int)) (v2 : Int) (v3 : Int) : Option (Bool) :=
  cond (decide (v3 < v2))
    (cond (decide (0 ≤ v3)) (cond (decide (v3 < ((v1.length : Nat) : Int))) (cond (decide ((v1.getD (Int.toNat v3) 0) < 0))
      (cond (!(decide (0 ≤ v3)))
        (some false)
        (some false))
      (cond (decide (64 ≤ (v1.getD (Int.toNat v3) 0)))
        (cond (!(decide (0 ≤ v3)))
          (some false)
          (some false))
        (ih0 (v1, v2, (w64 (v3 + 1)))))) none) none)
    (some false)
noncomputable def F_tag_keys_L6 : (((List Int) × Int × Int) → Option (Bool)) → ((List Int) × Int × Int) → Option (Bool) := fun ih x => G_tag_keys_L6 ih x.1 x.2.1 x.2.2
theorem F_tag_keys_L6_eq (ih : ((List Int) × Int × Int) → Option (Bool)) (x : (List Int) × Int × Int) : F_tag_keys_L6 ih x = G_tag_keys_L6 ih x.1 x.2.1 x.2.2 := rfl
noncomputable def G_tag_keys (N : Nat) (a0 : (List Int)) : Option (Bool) :=
  Option.bind (S_slices_IsSorted a0) fun r1 =>
  cond r1
    (cond (decide (a0.length * 8 ≤ 70368744177664)) (cond (decide (a0.length ≤ 70368744177664)) (cond (decide (((a0.length : Nat) : Int) < 2))
      (cond (decide (0 < ((a0.length : Nat) : Int)))
        (cond (decide (((a0.length : Nat) : Int) ≤ 8))
          (iterF (F_tag_keys_L1 a0) N (a0, ((a0.length : Nat) : Int), 0, a0))
          (some false))
        (some false))
      (iterF (F_tag_keys_L2 N a0) N (1, a0))) none) none)
    (cond (decide (0 < ((a0.length : Nat) : Int)))
      (cond (decide (((a0.length : Nat) : Int) ≤ 8))
        (iterF F_tag_keys_L6 N (a0, ((a0.length : Nat) : Int), 0))
        (some false))
      (some false))
noncomputable def S_tag_keys (x : (List Int)) : Option (Bool) := lim fun N => G_tag_keys N x
noncomputable def G_tag_Right_L1 (ih0 : ((List Int) × Int × Int × Record) → Option (Bool)) (v1 : (List Int)) (v2 : Int) (v3 : Int) (v4 : Record) : Option (Bool) :=
  cond (decide (v3 < v2))
    (cond (decide (0 ≤ v3)) (cond (decide (v3 < ((v1.length : Nat) : Int))) (cond (decide ((v1.getD (Int.toNat v3) 0) < (-1)))
      (cond (decide (0 ≤ v3))
        (some false)
        (cond (decide (v4.kind = 1))
          (some (decide (((v4.values.length : Nat) : Int) = 0)))
          (cond (decide (v4.kind = 2))
            (some (decide (((v4.values.length : Nat) : Int) = ((v4.keys.length : Nat) : Int))))
            (some false))))
      (cond (decide (512 ≤ (v1.getD (Int.toNat v3) 0)))
        (cond (decide (0 ≤ v3))
          (some false)
          (cond (decide (v4.kind = 1))
            (some (decide (((v4.values.length : Nat) : Int) = 0)))
            (cond (decide (v4.kind = 2))
              (some (decide (((v4.values.length : Nat) : Int) = ((v4.keys.length : Nat) : Int))))
              (some false))))
        (ih0 (v1, v2, (w64 (v3 + 1)), v4)))) none) none)
    (cond (decide (v4.kind = 1))
      (some (decide (((v4.values.length : Nat) : Int) = 0)))
      (cond (decide (v4.kind = 2))
        (some (decide (((v4.values.length : Nat) : Int) = ((v4.keys.length : Nat) : Int))))
        (some false)))
noncomputable def F_tag_Right_L1 : (((List Int) × Int × Int × Record) → Option (Bool)) → ((List Int) × Int × Int × Record) → Option (Bool) := fun ih x => G_tag_Right_L1 ih x.1 x.2.1 x.2.2.1 x.2.2.2
theorem F_tag_Right_L1_eq (ih : ((List Int) × Int × Int × Record) → Option (Bool)) (x : (List Int) × Int × Int × Record) : F_tag_Right_L1 ih x = G_tag_Right_L1 ih x.1 x.2.1 x.2.2.1 x.2.2.2 := rfl
noncomputable def G_tag_Right (N : Nat) (a0 : Record) : Option (Bool) :=
  cond (decide (a0.seq < 0))
    (some false)
    (cond (decide (1099511627776 < a0.seq))
      (some false)
      (Option.bind (S_tag_keys a0.keys) fun r1 =>
      cond (!r1)
        (some false)
        (iterF F_tag_Right_L1 N (a0.values, ((a0.values.length : Nat) : Int), 0, a0))))
noncomputable def S_tag_Right (x : Record) : Option (Bool) := lim fun N => G_tag_Right N x
noncomputable def G_tag_moved_L1 (ih0 : (Int × Int × Int × (List Int)) → Option ((List Int))) (v1 : Int) (v2 : Int) (v3 : Int) (v4 : (List Int)) : Option ((List Int)) :=
  cond (decide (v3 < v2))
    (cond (decide (0 ≤ v3)) (cond (decide (v3 < ((v4.length : Nat) : Int))) (cond (decide ((Int.toNat v3) < v4.length)) (cond (decide (0 ≤ v3)) (cond (decide (v3 < ((v4.length : Nat) : Int))) (cond (decide ((Int.toNat v3) < v4.length)) (ih0 (v1, v2, (w64 (v3 + 1)), (v4.set (Int.toNat v3) (w64 ((v4.getD (Int.toNat v3) 0) + v1))))) none) none) none) none) none) none)
    (some v4)
noncomputable def F_tag_moved_L1 : ((Int × Int × Int × (List Int)) → Option ((List Int))) → (Int × Int × Int × (List Int)) → Option ((List Int)) := fun ih x => G_tag_moved_L1 ih x.1 x.2.1 x.2.2.1 x.2.2.2
theorem F_tag_moved_L1_eq (ih : (Int × Int × Int × (List Int)) → Option ((List Int))) (x : Int × Int × Int × (List Int)) : F_tag_moved_L1 ih x = G_tag_moved_L1 ih x.1 x.2.1 x.2.2.1 x.2.2.2 := rfl
noncomputable def G_tag_moved (N : Nat) (a0 : (List Int)) (a1 : Int) : Option ((List Int)) :=
  cond (decide (a0.length * 8 ≤ 70368744177664)) (cond (decide (a0.length ≤ 70368744177664)) (iterF F_tag_moved_L1 N (a1, ((a0.length : Nat) : Int), 0, a0)) none) none
noncomputable def S_tag_moved (x : (List Int) × Int) : Option ((List Int)) := lim fun N => G_tag_moved N x.1 x.2
noncomputable def G_pack_Put_L1 (ih0 : (Int × (List Int)) → Option (Str)) (v1 : Int) (v2 : (List Int)) : Option (Str) :=
  cond (decide (128 ≤ v1))
    (cond (decide ((v2.length + [(Go.IntKind.u8.wrap (bOr .u8 (Go.IntKind.u8.wrap v1) 128))].length) * 1 ≤ 70368744177664)) (cond (decide (v2.length + [(Go.IntKind.u8.wrap (bOr .u8 (Go.IntKind.u8.wrap v1) 128))].length ≤ 70368744177664)) (ih0 ((Int.fdiv v1 (2 ^ (min 7 64))), (v2 ++ [(Go.IntKind.u8.wrap (bOr .u8 (Go.IntKind.u8.wrap v1) 128))]))) none) none)
    (cond (decide ((v2.length + [(Go.IntKind.u8.wrap v1)].length) * 1 ≤ 70368744177664)) (cond (decide (v2.length + [(Go.IntKind.u8.wrap v1)].length ≤ 70368744177664)) (some (bytesOf (v2 ++ [(Go.IntKind.u8.wrap v1)]))) none) none)
noncomputable def F_pack_Put_L1 : ((Int × (List Int)) → Option (Str)) → (Int × (List Int)) → Option (Str) := fun ih x => G_pack_Put_L1 ih x.1 x.2
theorem F_pack_Put_L1_eq (ih : (Int × (List Int)) → Option (Str)) (x : Int × (List Int)) : F_pack_Put_L1 ih x = G_pack_Put_L1 ih x.1 x.2 := rfl
noncomputable def G_pack_Put (N : Nat) (a0 : Int) : Option (Str) :=
  cond (decide (a0 < 0))
    (some [])
    (cond (decide (1099511627776 < a0))
      (some [])
      (iterF F_pack_Put_L1 N (a0, [])))
noncomputable def S_pack_Put (x : Int) : Option (Str) := lim fun N => G_pack_Put N x
noncomputable def G_pack_Pack_L1 (ih0 : (Str × (List Int) × Int × Int) → Option (Str × Int)) (v1 : Str) (v2 : (List Int)) (v3 : Int) (v4 : Int) : Option (Str × Int) :=
  cond (decide (v4 < v3))
    (cond (decide (0 ≤ v4)) (cond (decide (v4 < ((v2.length : Nat) : Int))) (Option.bind (S_pack_Put (v2.getD (Int.toNat v4) 0)) fun r5 =>
    cond (decide (r5 = []))
      (some ([], 1))
      (cond (decide (v1.length + r5.length ≤ 9223372036854775807)) (ih0 ((v1 ++ r5), v2, v3, (w64 (v4 + 1)))) none)) none) none)
    (some (v1, 0))
noncomputable def F_pack_Pack_L1 : ((Str × (List Int) × Int × Int) → Option (Str × Int)) → (Str × (List Int) × Int × Int) → Option (Str × Int) := fun ih x => G_pack_Pack_L1 ih x.1 x.2.1 x.2.2.1 x.2.2.2
theorem F_pack_Pack_L1_eq (ih : (Str × (List Int) × Int × Int) → Option (Str × Int)) (x : Str × (List Int) × Int × Int) : F_pack_Pack_L1 ih x = G_pack_Pack_L1 ih x.1 x.2.1 x.2.2.1 x.2.2.2 := rfl
noncomputable def G_pack_Pack (N : Nat) (a0 : (List Int)) : Option (Str × Int) :=
  Option.bind (S_pack_Put ((a0.length : Nat) : Int)) fun r1 =>
  iterF F_pack_Pack_L1 N (r1, a0, ((a0.length : Nat) : Int), 0)
noncomputable def S_pack_Pack (x : (List Int)) : Option (Str × Int) := lim fun N => G_pack_Pack N x
noncomputable def G_crc_Bytes_L1 (ih0 : (Int × Int × (List Int)) → Option (Str)) (v1 : Int) (v2 : Int) (v3 : (List Int)) : Option (Str) :=
  cond (decide (v2 < 4))
    (cond (decide (0 ≤ (w64 (8 * v2)))) (cond (decide (0 ≤ v2)) (cond (decide (v2 < 4)) (cond (decide ((Int.toNat v2) < v3.length)) (ih0 (v1, (w64 (v2 + 1)), (v3.set (Int.toNat v2) (Go.IntKind.u8.wrap (Int.fdiv v1 (2 ^ (min (Int.toNat (w64 (8 * v2))) 64))))))) none) none) none) none)
    (cond (decide (4 = v3.length)) (some (bytesOf ((v3.drop 0).take 4))) none)
noncomputable def F_crc_Bytes_L1 : ((Int × Int × (List Int)) → Option (Str)) → (Int × Int × (List Int)) → Option (Str) := fun ih x => G_crc_Bytes_L1 ih x.1 x.2.1 x.2.2
noncomputable def G_crc_Bytes (N : Nat) (a0 : Int) : Option (Str) :=
  cond (!(decide (a0 = (w64 (Go.IntKind.u32.wrap a0)))))
    (some [])
    (iterF F_crc_Bytes_L1 N (a0, 0, [0, 0, 0, 0]))
noncomputable def S_crc_Bytes (x : Int) : Option (Str) := lim fun N => G_crc_Bytes N x
noncomputable def G_crc_Sum_L2 (ih0 : (Str × Int × Int × Int) → Option (Int)) (ih1 : (Str × Int × Int × Int × Int) → Option (Int)) (v2 : Str) (v3 : Int) (v4 : Int) (v5 : Int) (v6 : Int) : Option (Int) :=
  cond (decide (v6 < 8))
    (cond (!(decide ((Go.IntKind.u32.wrap (bAnd .u32 v3 1)) = 0)))
      (ih1 (v2, (Go.IntKind.u32.wrap (bXor .u32 (Int.fdiv v3 (2 ^ (min 1 32))) 3988292384)), v4, v5, (w64 (v6 + 1))))
      (ih1 (v2, (Int.fdiv v3 (2 ^ (min 1 32))), v4, v5, (w64 (v6 + 1)))))
    (ih0 (v2, v3, v4, (w64 (v5 + 1))))
noncomputable def F_crc_Sum_L2 (ih5 : (Str × Int × Int × Int) → Option (Int)) : ((Str × Int × Int × Int × Int) → Option (Int)) → (Str × Int × Int × Int × Int) → Option (Int) := fun ih x => G_crc_Sum_L2 ih5 ih x.1 x.2.1 x.2.2.1 x.2.2.2.1 x.2.2.2.2
noncomputable def G_crc_Sum_L1 (N : Nat) (ih0 : (Str × Int × Int × Int) → Option (Int)) (v1 : Str) (v2 : Int) (v3 : Int) (v4 : Int) : Option (Int) :=
  cond (decide (v4 < v3))
    (cond (decide (0 ≤ v4)) (cond (decide (v4 < ((v1.length : Nat) : Int))) (iterF (F_crc_Sum_L2 ih0) N (v1, (Go.IntKind.u32.wrap (bXor .u32 v2 (Go.IntKind.u32.wrap ((v1.getD (Int.toNat v4) 0).toNat : Int)))), v3, v4, 0)) none) none)
    (some (w64 (Go.IntKind.u32.wrap (bNot .u32 v2))))
noncomputable def F_crc_Sum_L1 (N : Nat) : ((Str × Int × Int × Int) → Option (Int)) → (Str × Int × Int × Int) → Option (Int) := fun ih x => G_crc_Sum_L1 N ih x.1 x.2.1 x.2.2.1 x.2.2.2
noncomputable def G_crc_Sum (N : Nat) (a0 : Str) : Option (Int) :=
  iterF (F_crc_Sum_L1 N) N (a0, 4294967295, ((a0.length : Nat) : Int), 0)
noncomputable def S_crc_Sum (x : Str) : Option (Int) := lim fun N => G_crc_Sum N x
noncomputable def G_tag_Encode (a0 : Record) (a1 : Str) : Option (Str × Int) :=
  Option.bind (S_tag_Right a0) fun r1 =>
  cond (!r1)
    (some ([], 1))
    (cond (decide (16 < ((a1.length : Nat) : Int)))
      (some ([], 1))
      (Option.bind (S_tag_moved (a0.values, 1)) fun r2 =>
      Option.bind (S_pack_Pack [a0.kind, a0.seq]) fun r3 =>
      cond (!(decide (r3.2 = 0)))
        (some ([], r3.2))
        (cond (decide (0 + r3.1.length ≤ 9223372036854775807)) (Option.bind (S_pack_Pack a0.keys) fun r4 =>
        cond (!(decide (r4.2 = 0)))
          (some ([], r4.2))
          (cond (decide (r3.1.length + r4.1.length ≤ 9223372036854775807)) (Option.bind (S_pack_Pack r2) fun r5 =>
          cond (!(decide (r5.2 = 0)))
            (some ([], r5.2))
            (cond (decide ((r3.1 ++ r4.1).length + r5.1.length ≤ 9223372036854775807)) (cond (decide (((r3.1 ++ r4.1) ++ r5.1).length + a1.length ≤ 9223372036854775807)) (Option.bind (S_crc_Sum (((r3.1 ++ r4.1) ++ r5.1) ++ a1)) fun r6 =>
            Option.bind (S_crc_Bytes r6) fun r7 =>
            cond (decide (((r3.1 ++ r4.1) ++ r5.1).length + r7.length ≤ 9223372036854775807)) (some ((((r3.1 ++ r4.1) ++ r5.1) ++ r7), 0)) none) none) none)) none)) none)))
noncomputable def S_tag_Encode (x : Record × Str) : Option (Str × Int) := G_tag_Encode x.1 x.2
noncomputable def G_look_Make (a0 : Write) : Option (Page × Int) :=
  Option.bind (S_tag_Encode (a0.record, a0.data)) fun r1 =>
  cond (decide (r1.2 = 0))
    (some ((Page.mk true a0.data r1.1), r1.2))
    (some ((Page.mk false [] []), r1.2))
noncomputable def S_look_Make (x : Write) : Option (Page × Int) := G_look_Make x
noncomputable def G_states_State_L1 (ih0 : ((List Page) × Int × Int) → Option (Int)) (v1 : (List Page)) (v2 : Int) (v3 : Int) : Option (Int) :=
  cond (decide (v3 < v2))
    (cond (decide (0 ≤ v3)) (cond (decide (v3 < ((v1.length : Nat) : Int))) (cond (v1.getD (Int.toNat v3) default).written
      (cond (decide (0 ≤ v3))
        (some 2)
        (some 0))
      (ih0 (v1, v2, (w64 (v3 + 1))))) none) none)
    (some 0)
noncomputable def F_states_State_L1 : (((List Page) × Int × Int) → Option (Int)) → ((List Page) × Int × Int) → Option (Int) := fun ih x => G_states_State_L1 ih x.1 x.2.1 x.2.2
theorem F_states_State_L1_eq (ih : ((List Page) × Int × Int) → Option (Int)) (x : (List Page) × Int × Int) : F_states_State_L1 ih x = G_states_State_L1 ih x.1 x.2.1 x.2.2 := rfl
noncomputable def G_states_State (N : Nat) (a0 : Chip) (a1 : Int) (a2 : Int) : Option (Int) :=
  cond (decide (a2 < 0))
    (some 3)
    (cond (decide (((a0.blocks.length : Nat) : Int) ≤ a2))
      (some 3)
      (cond (decide (0 ≤ a2)) (cond (decide (a2 < ((a0.blocks.length : Nat) : Int))) (cond (a0.blocks.getD (Int.toNat a2) default).bad
        (some 3)
        (cond (decide (a2 = a1))
          (cond (decide (0 ≤ (a0.blocks.getD (Int.toNat a2) default).next))
            (cond (decide ((a0.blocks.getD (Int.toNat a2) default).next < (((a0.blocks.getD (Int.toNat a2) default).pages.length : Nat) : Int)))
              (some 1)
              (cond (!(decide ((a0.blocks.getD (Int.toNat a2) default).next = 0)))
                (some 2)
                (iterF F_states_State_L1 N ((a0.blocks.getD (Int.toNat a2) default).pages, (((a0.blocks.getD (Int.toNat a2) default).pages.length : Nat) : Int), 0))))
            (cond (!(decide ((a0.blocks.getD (Int.toNat a2) default).next = 0)))
              (some 2)
              (iterF F_states_State_L1 N ((a0.blocks.getD (Int.toNat a2) default).pages, (((a0.blocks.getD (Int.toNat a2) default).pages.length : Nat) : Int), 0))))
          (cond (!(decide ((a0.blocks.getD (Int.toNat a2) default).next = 0)))
            (some 2)
            (iterF F_states_State_L1 N ((a0.blocks.getD (Int.toNat a2) default).pages, (((a0.blocks.getD (Int.toNat a2) default).pages.length : Nat) : Int), 0))))) none) none))
noncomputable def S_states_State (x : Chip × Int × Int) : Option (Int) := lim fun N => G_states_State N x.1 x.2.1 x.2.2
noncomputable def G_victim_Rest (a0 : Chip) (a1 : Int) : Option (Int) :=
  cond (decide (a1 < 0))
    (some 0)
    (Option.bind (S_states_State (a0, a1, a1)) fun r1 =>
    cond (!(decide (r1 = 1)))
      (some 0)
      (cond (decide (0 ≤ a1)) (cond (decide (a1 < ((a0.blocks.length : Nat) : Int))) (cond (decide (0 ≤ a1)) (cond (decide (a1 < ((a0.blocks.length : Nat) : Int))) (some (w64 ((((a0.blocks.getD (Int.toNat a1) default).pages.length : Nat) : Int) - (a0.blocks.getD (Int.toNat a1) default).next))) none) none) none) none))
noncomputable def S_victim_Rest (x : Chip × Int) : Option (Int) := G_victim_Rest x.1 x.2
noncomputable def G_states_Pick_L1 (ih0 : (Int × Int × Chip × Int × Chip × Int × Int) → Option (Int)) (v1 : Int) (v2 : Int) (v3 : Chip) (v4 : Int) (v5 : Chip) (v6 : Int) (v7 : Int) : Option (Int) :=
  cond (decide (v2 < v1))
    (Option.bind (S_states_State (v5, v6, v2)) fun r8 =>
    cond (decide (r8 = v7))
      (cond (decide (v4 < 0))
        (ih0 (v1, (w64 (v2 + 1)), v3, v2, v5, v6, v7))
        (cond (decide (0 ≤ v2)) (cond (decide (v2 < ((v3.blocks.length : Nat) : Int))) (cond (decide (0 ≤ v4)) (cond (decide (v4 < ((v3.blocks.length : Nat) : Int))) (cond (decide ((v3.blocks.getD (Int.toNat v2) default).erases < (v3.blocks.getD (Int.toNat v4) default).erases))
          (ih0 (v1, (w64 (v2 + 1)), v3, v2, v5, v6, v7))
          (ih0 (v1, (w64 (v2 + 1)), v3, v4, v5, v6, v7))) none) none) none) none))
      (ih0 (v1, (w64 (v2 + 1)), v3, v4, v5, v6, v7)))
    (some v4)
noncomputable def F_states_Pick_L1 : ((Int × Int × Chip × Int × Chip × Int × Int) → Option (Int)) → (Int × Int × Chip × Int × Chip × Int × Int) → Option (Int) := fun ih x => G_states_Pick_L1 ih x.1 x.2.1 x.2.2.1 x.2.2.2.1 x.2.2.2.2.1 x.2.2.2.2.2.1 x.2.2.2.2.2.2
theorem F_states_Pick_L1_eq (ih : (Int × Int × Chip × Int × Chip × Int × Int) → Option (Int)) (x : Int × Int × Chip × Int × Chip × Int × Int) : F_states_Pick_L1 ih x = G_states_Pick_L1 ih x.1 x.2.1 x.2.2.1 x.2.2.2.1 x.2.2.2.2.1 x.2.2.2.2.2.1 x.2.2.2.2.2.2 := rfl
noncomputable def G_states_Pick (N : Nat) (a0 : Chip) (a1 : Int) : Option (Int) :=
  iterF F_states_Pick_L1 N (((a0.blocks.length : Nat) : Int), 0, a0, (-1), a0, a1, 0)
noncomputable def S_states_Pick (x : Chip × Int) : Option (Int) := lim fun N => G_states_Pick N x.1 x.2
noncomputable def G_write_open (a0 : Device) : Option (Device × Bool) :=
  Option.bind (S_victim_Rest (a0.chip, a0.opn)) fun r1 =>
  cond (decide (r1 = 0))
    (Option.bind (S_states_Pick (a0.chip, (-1))) fun r2 =>
    Option.bind (S_victim_Rest (a0.chip, r2)) fun r3 =>
    cond (decide (r3 = 0))
      (some ((Device.mk a0.geometry a0.chip a0.table a0.seq (-1)), false))
      (some ((Device.mk a0.geometry a0.chip a0.table a0.seq r2), (decide (0 ≤ r2)))))
    (Option.bind (S_victim_Rest (a0.chip, a0.opn)) fun r4 =>
    cond (decide (r4 = 0))
      (some ((Device.mk a0.geometry a0.chip a0.table a0.seq (-1)), false))
      (some (a0, (decide (0 ≤ a0.opn)))))
noncomputable def S_write_open (x : Device) : Option (Device × Bool) := G_write_open x
noncomputable def G_write_next (a0 : (List Fate)) : Option (Fate × (List Fate)) :=
  cond (decide (((a0.length : Nat) : Int) = 0))
    (some ((Fate.mk 0 [] [] 0), []))
    (cond (decide (0 < ((a0.length : Nat) : Int))) (cond (decide (1 ≤ ((a0.length : Nat) : Int))) (some ((a0.getD 0 default), (a0.drop 1))) none) none)
noncomputable def S_write_next (x : (List Fate)) : Option (Fate × (List Fate)) := G_write_next x
noncomputable def G_nand_refused (a0 : Chip) (a1 : Int) (a2 : Fate) : Option (Chip × Int) :=
  cond a0.off
    (some (a0, 52))
    (cond (decide (a1 < 0))
      (some ((Chip.mk a0.blocks true a0.off a0.ops), 1))
      (cond (decide (((a0.blocks.length : Nat) : Int) ≤ a1))
        (some ((Chip.mk a0.blocks true a0.off a0.ops), 1))
        (cond (decide (a2.kind < 0))
          (some ((Chip.mk a0.blocks true a0.off a0.ops), 1))
          (cond (decide (2 < a2.kind))
            (some ((Chip.mk a0.blocks true a0.off a0.ops), 1))
            (cond (decide (0 ≤ a1)) (cond (decide (a1 < ((a0.blocks.length : Nat) : Int))) (cond (a0.blocks.getD (Int.toNat a1) default).bad
              (some ((Chip.mk a0.blocks true a0.off a0.ops), 1))
              (some (a0, 0))) none) none)))))
noncomputable def S_nand_refused (x : Chip × Int × Fate) : Option (Chip × Int) := G_nand_refused x.1 x.2.1 x.2.2
noncomputable def G_nand_Program (a0 : Chip) (a1 : Int) (a2 : Int) (a3 : Page) (a4 : Fate) : Option (Chip × Int) :=
  Option.bind (S_nand_refused (a0, a1, a4)) fun r1 =>
  cond (!(decide (r1.2 = 0)))
    (some (r1.1, r1.2))
    (cond (decide (a2 < 0))
      (some ((Chip.mk r1.1.blocks true r1.1.off r1.1.ops), 1))
      (cond (decide (0 ≤ a1)) (cond (decide (a1 < ((r1.1.blocks.length : Nat) : Int))) (cond (decide ((((r1.1.blocks.getD (Int.toNat a1) default).pages.length : Nat) : Int) ≤ a2))
        (some ((Chip.mk r1.1.blocks true r1.1.off r1.1.ops), 1))
        (cond (decide (0 ≤ a1)) (cond (decide (a1 < ((r1.1.blocks.length : Nat) : Int))) (cond (!(decide ((r1.1.blocks.getD (Int.toNat a1) default).next = a2)))
          (some ((Chip.mk r1.1.blocks true r1.1.off r1.1.ops), 1))
          (cond (decide (r1.1.blocks.length * 48 ≤ 70368744177664)) (cond (decide (r1.1.blocks.length ≤ 70368744177664)) (cond (decide (0 ≤ a1)) (cond (decide (a1 < ((r1.1.blocks.length : Nat) : Int))) (cond (decide ((Int.toNat a1) < r1.1.blocks.length)) (cond (decide ((r1.1.blocks.getD (Int.toNat a1) default).pages.length * 40 ≤ 70368744177664)) (cond (decide ((r1.1.blocks.getD (Int.toNat a1) default).pages.length ≤ 70368744177664)) (cond (decide ((Int.toNat a1) < r1.1.blocks.length)) (cond (decide ((Int.toNat a1) < r1.1.blocks.length)) (cond (decide ((Int.toNat a1) < r1.1.blocks.length)) (cond (decide ((Int.toNat a1) < (bNext r1.1.blocks (Int.toNat a1) (w64 ((r1.1.blocks.getD (Int.toNat a1) default).next + 1))).length)) (cond (decide ((Int.toNat a1) = (Int.toNat a1))) (cond (decide (0 ≤ a2)) (cond (decide (a2 < (((r1.1.blocks.getD (Int.toNat a1) default).pages.length : Nat) : Int))) (cond (decide ((Int.toNat a2) < (r1.1.blocks.getD (Int.toNat a1) default).pages.length)) (cond (decide (a4.kind = 1))
            (cond (decide ((Int.toNat a1) < (bNext r1.1.blocks (Int.toNat a1) (w64 ((r1.1.blocks.getD (Int.toNat a1) default).next + 1))).length)) (some ((Chip.mk (bPages (bBad (bNext r1.1.blocks (Int.toNat a1) (w64 ((r1.1.blocks.getD (Int.toNat a1) default).next + 1))) (Int.toNat a1) true) (Int.toNat a1) ((r1.1.blocks.getD (Int.toNat a1) default).pages.set (Int.toNat a2) (Page.mk true a4.data a4.tag))) r1.1.broken r1.1.off (w64 (r1.1.ops + 1))), 53)) none)
            (cond (decide (a4.kind = 2))
              (some ((Chip.mk (bPages (bNext r1.1.blocks (Int.toNat a1) (w64 ((r1.1.blocks.getD (Int.toNat a1) default).next + 1))) (Int.toNat a1) ((r1.1.blocks.getD (Int.toNat a1) default).pages.set (Int.toNat a2) (Page.mk true a4.data a4.tag))) r1.1.broken true (w64 (r1.1.ops + 1))), 52))
              (cond (decide ((Int.toNat a1) < (bNext r1.1.blocks (Int.toNat a1) (w64 ((r1.1.blocks.getD (Int.toNat a1) default).next + 1))).length)) (cond (decide ((Int.toNat a1) = (Int.toNat a1))) (cond (decide ((Int.toNat a1) < (bNext r1.1.blocks (Int.toNat a1) (w64 ((r1.1.blocks.getD (Int.toNat a1) default).next + 1))).length)) (cond (decide ((Int.toNat a1) = (Int.toNat a1))) (cond (decide (0 ≤ a2)) (cond (decide (a2 < ((((r1.1.blocks.getD (Int.toNat a1) default).pages.set (Int.toNat a2) (Page.mk true a4.data a4.tag)).length : Nat) : Int))) (cond (decide ((Int.toNat a2) < ((r1.1.blocks.getD (Int.toNat a1) default).pages.set (Int.toNat a2) (Page.mk true a4.data a4.tag)).length)) (cond (decide (0 ≤ a2)) (cond (decide (a2 < (((pData ((r1.1.blocks.getD (Int.toNat a1) default).pages.set (Int.toNat a2) (Page.mk true a4.data a4.tag)) (Int.toNat a2) a3.data).length : Nat) : Int))) (cond (decide ((Int.toNat a2) < (pData ((r1.1.blocks.getD (Int.toNat a1) default).pages.set (Int.toNat a2) (Page.mk true a4.data a4.tag)) (Int.toNat a2) a3.data).length)) (some ((Chip.mk (bPages (bNext r1.1.blocks (Int.toNat a1) (w64 ((r1.1.blocks.getD (Int.toNat a1) default).next + 1))) (Int.toNat a1) (pTag (pData ((r1.1.blocks.getD (Int.toNat a1) default).pages.set (Int.toNat a2) (Page.mk true a4.data a4.tag)) (Int.toNat a2) a3.data) (Int.toNat a2) a3.tag)) r1.1.broken r1.1.off (w64 (r1.1.ops + 1))), 0)) none) none) none) none) none) none) none) none) none) none))) none) none) none) none) none) none) none) none) none) none) none) none) none) none) none)) none) none)) none) none))
noncomputable def S_nand_Program (x : Chip × Int × Int × Page × Fate) : Option (Chip × Int) := G_nand_Program x.1 x.2.1 x.2.2.1 x.2.2.2.1 x.2.2.2.2
noncomputable def G_replay_value (a0 : Found) (a1 : Int) : Option (Int × Bool) :=
  cond (decide (a0.record.kind = 1))
    (some (a0.place, true))
    (cond (decide (a0.record.kind = 2))
      (cond (decide (a1 < ((a0.record.values.length : Nat) : Int)))
        (cond (decide (0 ≤ a1)) (cond (decide (a1 < ((a0.record.values.length : Nat) : Int))) (some ((a0.record.values.getD (Int.toNat a1) 0), true)) none) none)
        (some ((-1), false)))
      (some ((-1), false)))
noncomputable def S_replay_value (x : Found × Int) : Option (Int × Bool) := G_replay_value x.1 x.2
noncomputable def G_replay_Apply_L1 (ih0 : ((List Int) × Int × Int × Found × (List Int) × (List Int)) → Option (Table)) (v1 : (List Int)) (v2 : Int) (v3 : Int) (v4 : Found) (v5 : (List Int)) (v6 : (List Int)) : Option (Table) :=
  cond (decide (v3 < v2))
    (cond (decide (0 ≤ v3)) (cond (decide (v3 < ((v1.length : Nat) : Int))) (Option.bind (S_replay_value (v4, v3)) fun r7 =>
    cond (!r7.2)
      (ih0 (v1, v2, (w64 (v3 + 1)), v4, v5, v6))
      (cond (decide ((v1.getD (Int.toNat v3) 0) < 0))
        (ih0 (v1, v2, (w64 (v3 + 1)), v4, v5, v6))
        (cond (decide ((min ((v5.length : Nat) : Int) ((v6.length : Nat) : Int)) ≤ (v1.getD (Int.toNat v3) 0)))
          (ih0 (v1, v2, (w64 (v3 + 1)), v4, v5, v6))
          (cond (decide (0 ≤ (v1.getD (Int.toNat v3) 0))) (cond (decide ((v1.getD (Int.toNat v3) 0) < ((v5.length : Nat) : Int))) (cond (decide ((Int.toNat (v1.getD (Int.toNat v3) 0)) < v5.length)) (cond (decide (0 ≤ (v1.getD (Int.toNat v3) 0))) (cond (decide ((v1.getD (Int.toNat v3) 0) < ((v6.length : Nat) : Int))) (cond (decide ((Int.toNat (v1.getD (Int.toNat v3) 0)) < v6.length)) (ih0 (v1, v2, (w64 (v3 + 1)), v4, (v5.set (Int.toNat (v1.getD (Int.toNat v3) 0)) r7.1), (v6.set (Int.toNat (v1.getD (Int.toNat v3) 0)) v4.place))) none) none) none) none) none) none)))) none) none)
    (some (Table.mk v5 v6))
noncomputable def F_replay_Apply_L1 : (((List Int) × Int × Int × Found × (List Int) × (List Int)) → Option (Table)) → ((List Int) × Int × Int × Found × (List Int) × (List Int)) → Option (Table) := fun ih x => G_replay_Apply_L1 ih x.1 x.2.1 x.2.2.1 x.2.2.2.1 x.2.2.2.2.1 x.2.2.2.2.2
theorem F_replay_Apply_L1_eq (ih : ((List Int) × Int × Int × Found × (List Int) × (List Int)) → Option (Table)) (x : (List Int) × Int × Int × Found × (List Int) × (List Int)) : F_replay_Apply_L1 ih x = G_replay_Apply_L1 ih x.1 x.2.1 x.2.2.1 x.2.2.2.1 x.2.2.2.2.1 x.2.2.2.2.2 := rfl
noncomputable def G_replay_Apply (N : Nat) (a0 : Table) (a1 : Found) : Option (Table) :=
  cond (decide (a0.map.length * 8 ≤ 70368744177664)) (cond (decide (a0.map.length ≤ 70368744177664)) (cond (decide (a0.by_.length * 8 ≤ 70368744177664)) (cond (decide (a0.by_.length ≤ 70368744177664)) (iterF F_replay_Apply_L1 N (a1.record.keys, ((a1.record.keys.length : Nat) : Int), 0, a1, a0.map, a0.by_)) none) none) none) none
noncomputable def S_replay_Apply (x : Table × Found) : Option (Table) := lim fun N => G_replay_Apply N x.1 x.2
noncomputable def G_scan_Place (a0 : Int) (a1 : Int) : Option (Int) :=
  cond (decide (a0 < 0))
    (some (-1))
    (cond (decide (32 ≤ a0))
      (some (-1))
      (cond (decide (a1 < 0))
        (some (-1))
        (cond (decide (16 ≤ a1))
          (some (-1))
          (some (w64 ((w64 (a0 * 16)) + a1))))))
noncomputable def S_scan_Place (x : Int × Int) : Option (Int) := G_scan_Place x.1 x.2
noncomputable def G_write_Put_L1 (ih0 : ((List Fate) × Device × Write × Page) → Option (Device × (List Fate) × Int)) (v1 : (List Fate)) (v2 : Device) (v3 : Write) (v4 : Page) : Option (Device × (List Fate) × Int) :=
  Option.bind (S_write_open v2) fun r5 =>
  cond (!r5.2)
    (some (r5.1, v1, 40))
    (Option.bind (S_write_next v1) fun r6 =>
    cond (decide (0 ≤ r5.1.opn)) (cond (decide (r5.1.opn < ((r5.1.chip.blocks.length : Nat) : Int))) (Option.bind (S_nand_Program (r5.1.chip, r5.1.opn, (r5.1.chip.blocks.getD (Int.toNat r5.1.opn) default).next, v4, r6.1)) fun r7 =>
    cond (decide (r7.2 = 0))
      (Option.bind (S_scan_Place (r5.1.opn, (r5.1.chip.blocks.getD (Int.toNat r5.1.opn) default).next)) fun r8 =>
      Option.bind (S_replay_Apply (r5.1.table, (Found.mk r8 v3.record))) fun r9 =>
      some ((Device.mk r5.1.geometry r7.1 r9 (w64 (r5.1.seq + 1)) r5.1.opn), r6.2, 0))
      (cond (decide (r7.2 = 53))
        (ih0 (r6.2, (Device.mk r5.1.geometry r7.1 r5.1.table r5.1.seq (-1)), v3, v4))
        (some ((Device.mk r5.1.geometry r7.1 r5.1.table r5.1.seq r5.1.opn), r6.2, r7.2)))) none) none)
noncomputable def F_write_Put_L1 : (((List Fate) × Device × Write × Page) → Option (Device × (List Fate) × Int)) → ((List Fate) × Device × Write × Page) → Option (Device × (List Fate) × Int) := fun ih x => G_write_Put_L1 ih x.1 x.2.1 x.2.2.1 x.2.2.2
theorem F_write_Put_L1_eq (ih : ((List Fate) × Device × Write × Page) → Option (Device × (List Fate) × Int)) (x : (List Fate) × Device × Write × Page) : F_write_Put_L1 ih x = G_write_Put_L1 ih x.1 x.2.1 x.2.2.1 x.2.2.2 := rfl
noncomputable def G_write_Put (N : Nat) (a0 : Device) (a1 : Write) (a2 : (List Fate)) : Option (Device × (List Fate) × Int) :=
  Option.bind (S_look_Make (Write.mk a1.data (Record.mk a1.record.kind a0.seq a1.record.keys a1.record.values))) fun r1 =>
  cond (!(decide (r1.2 = 0)))
    (some (a0, a2, r1.2))
    (iterF F_write_Put_L1 N (a2, a0, (Write.mk a1.data (Record.mk a1.record.kind a0.seq a1.record.keys a1.record.values)), r1.1))
noncomputable def S_write_Put (x : Device × Write × (List Fate)) : Option (Device × (List Fate) × Int) := lim fun N => G_write_Put N x.1 x.2.1 x.2.2
noncomputable def G_ref02_Same_L1 (ih0 : ((List Int) × (List Int) × Int) → Option (Bool)) (v1 : (List Int)) (v2 : (List Int)) (v3 : Int) : Option (Bool) :=
  cond (decide (v3 < ((v1.length : Nat) : Int)))
    (cond (decide (0 ≤ v3)) (cond (decide (v3 < ((v1.length : Nat) : Int))) (cond (decide (0 ≤ v3)) (cond (decide (v3 < ((v2.length : Nat) : Int))) (cond (!(decide ((v1.getD (Int.toNat v3) 0) = (v2.getD (Int.toNat v3) 0))))
      (some false)
      (ih0 (v1, v2, (w64 (v3 + 1))))) none) none) none) none)
    (some true)
noncomputable def F_ref02_Same_L1 : (((List Int) × (List Int) × Int) → Option (Bool)) → ((List Int) × (List Int) × Int) → Option (Bool) := fun ih x => G_ref02_Same_L1 ih x.1 x.2.1 x.2.2
theorem F_ref02_Same_L1_eq (ih : ((List Int) × (List Int) × Int) → Option (Bool)) (x : (List Int) × (List Int) × Int) : F_ref02_Same_L1 ih x = G_ref02_Same_L1 ih x.1 x.2.1 x.2.2 := rfl
noncomputable def G_ref02_Same (N : Nat) (a0 : (List Int)) (a1 : (List Int)) : Option (Bool) :=
  cond (!(decide (((a0.length : Nat) : Int) = ((a1.length : Nat) : Int))))
    (some false)
    (iterF F_ref02_Same_L1 N (a0, a1, 0))
noncomputable def S_ref02_Same (x : (List Int) × (List Int)) : Option (Bool) := lim fun N => G_ref02_Same N x.1 x.2
noncomputable def G_ref05_Same_L2 (ih0 : (Int × Chip × Chip) → Option (Bool)) (ih1 : (Int × Int × Chip × Chip × Block × Block) → Option (Bool)) (v2 : Int) (v3 : Int) (v4 : Chip) (v5 : Chip) (v6 : Block) (v7 : Block) : Option (Bool) :=
  cond (decide (v3 < ((v6.pages.length : Nat) : Int)))
    (cond (decide (0 ≤ v3)) (cond (decide (v3 < ((v6.pages.length : Nat) : Int))) (cond (decide (0 ≤ v3)) (cond (decide (v3 < ((v7.pages.length : Nat) : Int))) (cond (!(((v6.pages.getD (Int.toNat v3) default).written == (v7.pages.getD (Int.toNat v3) default).written) && ((decide ((v6.pages.getD (Int.toNat v3) default).data = (v7.pages.getD (Int.toNat v3) default).data)) && (decide ((v6.pages.getD (Int.toNat v3) default).tag = (v7.pages.getD (Int.toNat v3) default).tag)))))
      (some false)
      (ih1 (v2, (w64 (v3 + 1)), v4, v5, v6, v7))) none) none) none) none)
    (ih0 ((w64 (v2 + 1)), v4, v5))
noncomputable def F_ref05_Same_L2 (ih4 : (Int × Chip × Chip) → Option (Bool)) : ((Int × Int × Chip × Chip × Block × Block) → Option (Bool)) → (Int × Int × Chip × Chip × Block × Block) → Option (Bool) := fun ih x => G_ref05_Same_L2 ih4 ih x.1 x.2.1 x.2.2.1 x.2.2.2.1 x.2.2.2.2.1 x.2.2.2.2.2
theorem F_ref05_Same_L2_eq (ih4 : (Int × Chip × Chip) → Option (Bool)) (ih : (Int × Int × Chip × Chip × Block × Block) → Option (Bool)) (x : Int × Int × Chip × Chip × Block × Block) : F_ref05_Same_L2 ih4 ih x = G_ref05_Same_L2 ih4 ih x.1 x.2.1 x.2.2.1 x.2.2.2.1 x.2.2.2.2.1 x.2.2.2.2.2 := rfl
noncomputable def G_ref05_Same_L1 (N : Nat) (ih0 : (Int × Chip × Chip) → Option (Bool)) (v1 : Int) (v2 : Chip) (v3 : Chip) : Option (Bool) :=
  cond (decide (v1 < ((v2.blocks.length : Nat) : Int)))
    (cond (decide (0 ≤ v1)) (cond (decide (v1 < ((v2.blocks.length : Nat) : Int))) (cond (decide (0 ≤ v1)) (cond (decide (v1 < ((v3.blocks.length : Nat) : Int))) (cond (!(decide ((v2.blocks.getD (Int.toNat v1) default).next = (v3.blocks.getD (Int.toNat v1) default).next)))
      (some false)
      (cond (!(decide ((v2.blocks.getD (Int.toNat v1) default).erases = (v3.blocks.getD (Int.toNat v1) default).erases)))
        (some false)
        (cond (!((v2.blocks.getD (Int.toNat v1) default).bad == (v3.blocks.getD (Int.toNat v1) default).bad))
          (some false)
          (cond (!(decide ((((v2.blocks.getD (Int.toNat v1) default).pages.length : Nat) : Int) = (((v3.blocks.getD (Int.toNat v1) default).pages.length : Nat) : Int))))
            (some false)
            (iterF (F_ref05_Same_L2 ih0) N (v1, 0, v2, v3, (v2.blocks.getD (Int.toNat v1) default), (v3.blocks.getD (Int.toNat v1) default))))))) none) none) none) none)
    (some true)
noncomputable def F_ref05_Same_L1 (N : Nat) : ((Int × Chip × Chip) → Option (Bool)) → (Int × Chip × Chip) → Option (Bool) := fun ih x => G_ref05_Same_L1 N ih x.1 x.2.1 x.2.2
theorem F_ref05_Same_L1_eq (N : Nat) (ih : (Int × Chip × Chip) → Option (Bool)) (x : Int × Chip × Chip) : F_ref05_Same_L1 N ih x = G_ref05_Same_L1 N ih x.1 x.2.1 x.2.2 := rfl
noncomputable def G_ref05_Same (N : Nat) (a0 : Chip) (a1 : Chip) : Option (Bool) :=
  cond (!(decide (((a0.blocks.length : Nat) : Int) = ((a1.blocks.length : Nat) : Int))))
    (some false)
    (cond (!(a0.broken == a1.broken))
      (some false)
      (cond (!(a0.off == a1.off))
        (some false)
        (cond (!(decide (a0.ops = a1.ops)))
          (some false)
          (iterF (F_ref05_Same_L1 N) N (0, a0, a1)))))
noncomputable def S_ref05_Same (x : Chip × Chip) : Option (Bool) := lim fun N => G_ref05_Same N x.1 x.2
noncomputable def G_ref14_Same (a0 : Device) (a1 : Device) : Option (Bool) :=
  cond ((decide (a0.geometry.blocks = a1.geometry.blocks)) && ((decide (a0.geometry.pages = a1.geometry.pages)) && ((decide (a0.geometry.sectors = a1.geometry.sectors)) && (decide (a0.geometry.spare = a1.geometry.spare)))))
    (Option.bind (S_ref05_Same (a0.chip, a1.chip)) fun r1 =>
    cond r1
      (Option.bind (S_ref02_Same (a0.table.map, a1.table.map)) fun r2 =>
      cond r2
        (Option.bind (S_ref02_Same (a0.table.by_, a1.table.by_)) fun r3 =>
        cond r3
          (cond (decide (a0.seq = a1.seq))
            (some (decide (a0.opn = a1.opn)))
            (some false))
          (some false))
        (some false))
      (some false))
    (some false)
noncomputable def S_ref14_Same (x : Device × Device) : Option (Bool) := G_ref14_Same x.1 x.2
noncomputable def G_law15_SameFates_L1 (ih0 : ((List Fate) × (List Fate) × Int) → Option (Bool)) (v1 : (List Fate)) (v2 : (List Fate)) (v3 : Int) : Option (Bool) :=
  cond (decide (v3 < ((v1.length : Nat) : Int)))
    (cond (decide (0 ≤ v3)) (cond (decide (v3 < ((v1.length : Nat) : Int))) (cond (decide (0 ≤ v3)) (cond (decide (v3 < ((v2.length : Nat) : Int))) (cond (!((decide ((v1.getD (Int.toNat v3) default).kind = (v2.getD (Int.toNat v3) default).kind)) && ((decide ((v1.getD (Int.toNat v3) default).data = (v2.getD (Int.toNat v3) default).data)) && ((decide ((v1.getD (Int.toNat v3) default).tag = (v2.getD (Int.toNat v3) default).tag)) && (decide ((v1.getD (Int.toNat v3) default).n = (v2.getD (Int.toNat v3) default).n))))))
      (some false)
      (ih0 (v1, v2, (w64 (v3 + 1))))) none) none) none) none)
    (some true)
noncomputable def F_law15_SameFates_L1 : (((List Fate) × (List Fate) × Int) → Option (Bool)) → ((List Fate) × (List Fate) × Int) → Option (Bool) := fun ih x => G_law15_SameFates_L1 ih x.1 x.2.1 x.2.2
theorem F_law15_SameFates_L1_eq (ih : ((List Fate) × (List Fate) × Int) → Option (Bool)) (x : (List Fate) × (List Fate) × Int) : F_law15_SameFates_L1 ih x = G_law15_SameFates_L1 ih x.1 x.2.1 x.2.2 := rfl
noncomputable def G_law15_SameFates (N : Nat) (a0 : (List Fate)) (a1 : (List Fate)) : Option (Bool) :=
  cond (!(decide (((a0.length : Nat) : Int) = ((a1.length : Nat) : Int))))
    (some false)
    (iterF F_law15_SameFates_L1 N (a0, a1, 0))
noncomputable def S_law15_SameFates (x : (List Fate) × (List Fate)) : Option (Bool) := lim fun N => G_law15_SameFates N x.1 x.2
noncomputable def G_law15_same (a0 : Device) (a1 : Write) (a2 : (List Fate)) : Option (Bool) :=
  Option.bind (S_write_Put (a0, a1, a2)) fun r1 =>
  Option.bind (S_ref15_Put (a0, a1, a2)) fun r2 =>
  Option.bind (S_ref14_Same (r1.1, r2.1)) fun r3 =>
  cond r3
    (Option.bind (S_law15_SameFates (r1.2.1, r2.2.1)) fun r4 =>
    cond r4
      (some (decide (r1.2.2 = r2.2.2)))
      (some false))
    (some false)
noncomputable def S_law15_same (x : Device × Write × (List Fate)) : Option (Bool) := G_law15_same x.1 x.2.1 x.2.2
noncomputable def G_ref14_bads_L1 (ih0 : (Int × Int × Chip) → Option (Int)) (v1 : Int) (v2 : Int) (v3 : Chip) : Option (Int) :=
  cond (decide (v2 < ((v3.blocks.length : Nat) : Int)))
    (cond (decide (0 ≤ v2)) (cond (decide (v2 < ((v3.blocks.length : Nat) : Int))) (cond (v3.blocks.getD (Int.toNat v2) default).bad
      (ih0 ((w64 (v1 + 1)), (w64 (v2 + 1)), v3))
      (ih0 (v1, (w64 (v2 + 1)), v3))) none) none)
    (some v1)
noncomputable def F_ref14_bads_L1 : ((Int × Int × Chip) → Option (Int)) → (Int × Int × Chip) → Option (Int) := fun ih x => G_ref14_bads_L1 ih x.1 x.2.1 x.2.2
theorem F_ref14_bads_L1_eq (ih : (Int × Int × Chip) → Option (Int)) (x : Int × Int × Chip) : F_ref14_bads_L1 ih x = G_ref14_bads_L1 ih x.1 x.2.1 x.2.2 := rfl
noncomputable def G_ref14_bads (N : Nat) (a0 : Chip) : Option (Int) :=
  iterF F_ref14_bads_L1 N (0, 0, a0)
noncomputable def S_ref14_bads (x : Chip) : Option (Int) := lim fun N => G_ref14_bads N x
noncomputable def G_ref14_Format (a0 : Geometry) (a1 : (List Int)) : Option (Device × Int) :=
  Option.bind (S_ref14_Fits a0) fun r1 =>
  cond (!r1)
    (some ((Device.mk (Geometry.mk 0 0 0 0) (Chip.mk [] false false 0) (Table.mk [] []) 0 0), 1))
    (Option.bind (S_ref05_New (a0.blocks, a0.pages, a1)) fun r2 =>
    cond (!(decide (r2.2 = 0)))
      (some ((Device.mk (Geometry.mk 0 0 0 0) (Chip.mk [] false false 0) (Table.mk [] []) 0 0), 1))
      (Option.bind (S_ref14_bads r2.1) fun r3 =>
      cond (decide (a0.spare < r3))
        (some ((Device.mk (Geometry.mk 0 0 0 0) (Chip.mk [] false false 0) (Table.mk [] []) 0 0), 1))
        (Option.bind (S_ref14_Mount (a0, r2.1)) fun r4 =>
        some (r4.1, r4.2))))
noncomputable def S_ref14_Format (x : Geometry × (List Int)) : Option (Device × Int) := G_ref14_Format x.1 x.2
noncomputable def G_law15_awake : Option (Bool) :=
  Option.bind (S_law14_Small 0) fun r1 =>
  Option.bind (S_ref14_Format (r1, [])) fun r2 =>
  Option.bind (S_write_Put (r2.1, (Write.mk [120] (Record.mk 1 0 [2] [])), [(Fate.mk 1 [] [] 0), (Fate.mk 0 [] [] 0), (Fate.mk 0 [] [] 0)])) fun r3 =>
  Option.bind (S_write_Put (r2.1, (Write.mk [] (Record.mk 0 0 [] [])), [])) fun r4 =>
  Option.bind (S_write_Put (r2.1, (Write.mk [120] (Record.mk 1 0 [2] [])), [(Fate.mk 2 [] [] 0)])) fun r5 =>
  cond (decide (r3.2.2 = 0))
    (cond (decide (((r3.2.1.length : Nat) : Int) = 1))
      (cond (decide (((r3.1.chip.blocks.length : Nat) : Int) = 8))
        (cond (decide (0 < ((r3.1.chip.blocks.length : Nat) : Int))) (cond (r3.1.chip.blocks.getD 0 default).bad
          (cond (decide (r3.1.opn = 1))
            (cond (decide (r3.1.seq = 1))
              (cond (decide (r4.2.2 = 1))
                (cond (decide (r5.2.2 = 52))
                  (some r5.1.chip.off)
                  (some false))
                (some false))
              (some false))
            (some false))
          (some false)) none)
        (some false))
      (some false))
    (some false)
noncomputable def S_law15_awake (x : Unit) : Option (Bool) := G_law15_awake
noncomputable def G_law15_WriteMade_L1 (ih0 : ((List (List Int)) × (List Fate) × Int × Device) → Option (Bool)) (v1 : (List (List Int))) (v2 : (List Fate)) (v3 : Int) (v4 : Device) : Option (Bool) :=
  cond (decide (v3 < ((v1.length : Nat) : Int)))
    (cond (decide (v3 < 6))
      (cond (decide (0 ≤ v3)) (cond (decide (v3 < ((v1.length : Nat) : Int))) (Option.bind (S_law03_Made (v1.getD (Int.toNat v3) [])) fun r5 =>
      Option.bind (S_law15_same (v4, (Write.mk [100] r5), v2)) fun r6 =>
      cond (!r6)
        (some false)
        (Option.bind (S_ref15_Put (v4, (Write.mk [100] r5), v2)) fun r7 =>
        ih0 (v1, r7.2.1, (w64 (v3 + 1)), r7.1))) none) none)
      (Option.bind (S_law15_awake ()) fun r8 =>
      some r8))
    (Option.bind (S_law15_awake ()) fun r9 =>
    some r9)
noncomputable def F_law15_WriteMade_L1 : (((List (List Int)) × (List Fate) × Int × Device) → Option (Bool)) → ((List (List Int)) × (List Fate) × Int × Device) → Option (Bool) := fun ih x => G_law15_WriteMade_L1 ih x.1 x.2.1 x.2.2.1 x.2.2.2
theorem F_law15_WriteMade_L1_eq (ih : ((List (List Int)) × (List Fate) × Int × Device) → Option (Bool)) (x : (List (List Int)) × (List Fate) × Int × Device) : F_law15_WriteMade_L1 ih x = G_law15_WriteMade_L1 ih x.1 x.2.1 x.2.2.1 x.2.2.2 := rfl
noncomputable def G_law15_WriteMade (N : Nat) (a0 : (List Int)) (a1 : Int) (a2 : (List (List Int))) (a3 : (List Int)) : Option (Bool) :=
  Option.bind (S_law15_Made (a0, a1)) fun r1 =>
  Option.bind (S_law15_Fates a3) fun r2 =>
  iterF F_law15_WriteMade_L1 N (a2, r2, 0, r1)
noncomputable def S_law15_WriteMade (x : (List Int) × Int × (List (List Int)) × (List Int)) : Option (Bool) := lim fun N => G_law15_WriteMade N x.1 x.2.1 x.2.2.1 x.2.2.2
end Clk
namespace Go.Proofs.Ytflcnadgmlebcaa
open Clk Go.Proofs
set_option maxRecDepth 1000000
noncomputable def tiL : List (Option TI) := [
  none,
  some ⟨1, 8, .func, .nilFunc⟩,
  some ⟨1, 8, (.int .i64), (.int .i64 0)⟩,
  some ⟨1, 8, (.int .i64), (.int .i64 0)⟩,
  some ⟨1, 1, .bool, (.bool false)⟩,
  some ⟨1, 1, (.int .u8), (.int .u8 0)⟩,
  some ⟨1, 1, (.int .u8), (.int .u8 0)⟩,
  some ⟨4, 24, (.struct [(0, 2), (1, 3), (2, 4), (3, 6)]), (.agg [(.int .i64 0), (.int .i64 0), (.bool false), (.int .u8 0)])⟩,
  some ⟨4, 24, (.struct [(0, 2), (1, 3), (2, 4), (3, 6)]), (.agg [(.int .i64 0), (.int .i64 0), (.bool false), (.int .u8 0)])⟩,
  some ⟨1, 16, .string, (.str ⟨#[]⟩)⟩,
  some ⟨1, 16, .string, (.str ⟨#[]⟩)⟩,
  some ⟨1, 16, .string, (.str ⟨#[]⟩)⟩,
  some ⟨1, 8, (.int .u64), (.int .u64 0)⟩,
  some ⟨2, 24, (.struct [(0, 9), (1, 12)]), (.agg [(.str ⟨#[]⟩), (.int .u64 0)])⟩,
  some ⟨2, 24, (.struct [(0, 9), (1, 12)]), (.agg [(.str ⟨#[]⟩), (.int .u64 0)])⟩,
  some ⟨1, 8, (.pointer 145), .nilPtr⟩,
  some ⟨1, 8, (.pointer 148), .nilPtr⟩,
  some ⟨1, 8, (.pointer 157), .nilPtr⟩,
  some ⟨1, 8, (.struct [(0, 17)]), (.agg [.nilPtr])⟩,
  some ⟨1, 8, (.struct [(0, 17)]), (.agg [.nilPtr])⟩,
  some ⟨1, 16, .iface, .nilIface⟩,
  some ⟨1, 4, (.int .i32), (.int .i32 0)⟩,
  some ⟨1, 24, (.slice 66), (.crows [])⟩,
  some ⟨1, 24, (.slice 22), (.crows [])⟩,
  some ⟨1, 24, (.slice 5), (.crows [])⟩,
  some ⟨4, 32, (.struct [(0, 3), (1, 3), (2, 3), (3, 3)]), (.agg [(.int .i64 0), (.int .i64 0), (.int .i64 0), (.int .i64 0)])⟩,
  some ⟨4, 32, (.struct [(0, 3), (1, 3), (2, 3), (3, 3)]), (.agg [(.int .i64 0), (.int .i64 0), (.int .i64 0), (.int .i64 0)])⟩,
  some ⟨1, 24, (.slice 75), (.crows [])⟩,
  some ⟨4, 40, (.struct [(0, 27), (1, 4), (2, 4), (3, 3)]), (.agg [(.crows []), (.bool false), (.bool false), (.int .i64 0)])⟩,
  some ⟨4, 40, (.struct [(0, 27), (1, 4), (2, 4), (3, 3)]), (.agg [(.crows []), (.bool false), (.bool false), (.int .i64 0)])⟩,
  some ⟨1, 24, (.slice 3), (.crows [])⟩,
  some ⟨2, 48, (.struct [(0, 30), (1, 30)]), (.agg [(.crows []), (.crows [])])⟩,
  some ⟨2, 48, (.struct [(0, 30), (1, 30)]), (.agg [(.crows []), (.crows [])])⟩,
  some ⟨12, 136, (.struct [(0, 26), (4, 29), (8, 32), (10, 3), (11, 3)]), (.agg [(.int .i64 0), (.int .i64 0), (.int .i64 0), (.int .i64 0), (.crows []), (.bool false), (.bool false), (.int .i64 0), (.crows []), (.crows []), (.int .i64 0), (.int .i64 0)])⟩,
  some ⟨12, 136, (.struct [(0, 26), (4, 29), (8, 32), (10, 3), (11, 3)]), (.agg [(.int .i64 0), (.int .i64 0), (.int .i64 0), (.int .i64 0), (.crows []), (.bool false), (.bool false), (.int .i64 0), (.crows []), (.crows []), (.int .i64 0), (.int .i64 0)])⟩,
  some ⟨1, 8, .func, .nilFunc⟩,
  some ⟨1, 24, (.slice 65), (.crows [])⟩,
  some ⟨1, 8, .func, .nilFunc⟩,
  some ⟨4, 64, (.struct [(0, 3), (1, 3), (2, 30), (3, 30)]), (.agg [(.int .i64 0), (.int .i64 0), (.crows []), (.crows [])])⟩,
  some ⟨4, 64, (.struct [(0, 3), (1, 3), (2, 30), (3, 30)]), (.agg [(.int .i64 0), (.int .i64 0), (.crows []), (.crows [])])⟩,
  some ⟨1, 8, .func, .nilFunc⟩,
  some ⟨5, 80, (.struct [(0, 9), (1, 39)]), (.agg [(.str ⟨#[]⟩), (.int .i64 0), (.int .i64 0), (.crows []), (.crows [])])⟩,
  some ⟨5, 80, (.struct [(0, 9), (1, 39)]), (.agg [(.str ⟨#[]⟩), (.int .i64 0), (.int .i64 0), (.crows []), (.crows [])])⟩,
  some ⟨1, 8, .func, .nilFunc⟩,
  some ⟨1, 8, (.int .i64), (.int .i64 0)⟩,
  none,
  some ⟨1, 8, .func, .nilFunc⟩,
  some ⟨1, 8, .func, .nilFunc⟩,
  some ⟨1, 8, .func, .nilFunc⟩,
  none,
  some ⟨1, 8, .func, .nilFunc⟩,
  some ⟨3, 40, (.struct [(0, 4), (1, 9), (2, 9)]), (.agg [(.bool false), (.str ⟨#[]⟩), (.str ⟨#[]⟩)])⟩,
  some ⟨3, 40, (.struct [(0, 4), (1, 9), (2, 9)]), (.agg [(.bool false), (.str ⟨#[]⟩), (.str ⟨#[]⟩)])⟩,
  none,
  some ⟨1, 8, .func, .nilFunc⟩,
  some ⟨1, 8, .func, .nilFunc⟩,
  some ⟨1, 8, .func, .nilFunc⟩,
  some ⟨1, 8, .func, .nilFunc⟩,
  some ⟨1, 8, .func, .nilFunc⟩,
  some ⟨1, 8, .func, .nilFunc⟩,
  some ⟨1, 8, .func, .nilFunc⟩,
  some ⟨1, 8, .func, .nilFunc⟩,
  some ⟨1, 8, .func, .nilFunc⟩,
  some ⟨1, 24, (.slice 9), (.crows [])⟩,
  some ⟨4, 48, (.struct [(0, 3), (1, 9), (2, 9), (3, 3)]), (.agg [(.int .i64 0), (.str ⟨#[]⟩), (.str ⟨#[]⟩), (.int .i64 0)])⟩,
  some ⟨4, 48, (.struct [(0, 3), (1, 9), (2, 9), (3, 3)]), (.agg [(.int .i64 0), (.str ⟨#[]⟩), (.str ⟨#[]⟩), (.int .i64 0)])⟩,
  some ⟨1, 2, (.int .u16), (.int .u16 0)⟩,
  some ⟨1, 8, .func, .nilFunc⟩,
  some ⟨1, 8, .func, .nilFunc⟩,
  some ⟨1, 8, .func, .nilFunc⟩,
  none,
  some ⟨1, 8, .func, .nilFunc⟩,
  some ⟨1, 8, .func, .nilFunc⟩,
  some ⟨1, 24, (.slice 52), (.crows [])⟩,
  some ⟨4, 48, (.struct [(0, 73), (1, 3), (2, 3), (3, 4)]), (.agg [(.crows []), (.int .i64 0), (.int .i64 0), (.bool false)])⟩,
  some ⟨4, 48, (.struct [(0, 73), (1, 3), (2, 3), (3, 4)]), (.agg [(.crows []), (.int .i64 0), (.int .i64 0), (.bool false)])⟩,
  none,
  some ⟨1, 8, .func, .nilFunc⟩,
  none,
  some ⟨1, 8, .func, .nilFunc⟩,
  some ⟨1, 8, .func, .nilFunc⟩,
  some ⟨1, 8, .func, .nilFunc⟩,
  some ⟨5, 72, (.struct [(0, 3), (1, 39)]), (.agg [(.int .i64 0), (.int .i64 0), (.int .i64 0), (.crows []), (.crows [])])⟩,
  some ⟨5, 72, (.struct [(0, 3), (1, 39)]), (.agg [(.int .i64 0), (.int .i64 0), (.int .i64 0), (.crows []), (.crows [])])⟩,
  none,
  some ⟨1, 8, .func, .nilFunc⟩,
  none,
  some ⟨1, 8, .func, .nilFunc⟩,
  some ⟨1, 8, .func, .nilFunc⟩,
  none,
  some ⟨1, 8, .func, .nilFunc⟩,
  some ⟨1, 8, .func, .nilFunc⟩,
  some ⟨1, 8, .func, .nilFunc⟩,
  some ⟨1, 8, .func, .nilFunc⟩,
  some ⟨1, 8, .func, .nilFunc⟩,
  some ⟨1, 24, (.slice 26), (.crows [])⟩,
  some ⟨1, 8, .func, .nilFunc⟩,
  some ⟨1, 8, .func, .nilFunc⟩,
  some ⟨1, 8, .func, .nilFunc⟩,
  some ⟨1, 8, .func, .nilFunc⟩,
  none,
  some ⟨1, 8, .func, .nilFunc⟩,
  some ⟨1, 8, .func, .nilFunc⟩,
  some ⟨1, 8, .func, .nilFunc⟩,
  some ⟨1, 8, .func, .nilFunc⟩,
  some ⟨1, 8, (.pointer 75), .nilPtr⟩,
  none,
  some ⟨1, 8, .func, .nilFunc⟩,
  some ⟨1, 8, .func, .nilFunc⟩,
  none,
  some ⟨1, 8, .func, .nilFunc⟩,
  none,
  some ⟨1, 8, .func, .nilFunc⟩,
  some ⟨1, 8, .func, .nilFunc⟩,
  some ⟨1, 24, (.slice 83), (.crows [])⟩,
  some ⟨1, 8, .func, .nilFunc⟩,
  some ⟨1, 8, .func, .nilFunc⟩,
  some ⟨1, 8, .func, .nilFunc⟩,
  some ⟨1, 8, .func, .nilFunc⟩,
  some ⟨1, 8, .func, .nilFunc⟩,
  some ⟨1, 8, .func, .nilFunc⟩,
  some ⟨3, 72, (.array 3 30), (.agg [(.crows []), (.crows []), (.crows [])])⟩,
  some ⟨1, 8, .func, .nilFunc⟩,
  some ⟨1, 8, .func, .nilFunc⟩,
  some ⟨1, 8, .func, .nilFunc⟩,
  some ⟨1, 8, .func, .nilFunc⟩,
  some ⟨1, 8, .func, .nilFunc⟩,
  some ⟨1, 8, .func, .nilFunc⟩,
  none,
  some ⟨1, 8, .func, .nilFunc⟩,
  some ⟨1, 8, .func, .nilFunc⟩,
  some ⟨1, 8, .func, .nilFunc⟩,
  some ⟨1, 8, .func, .nilFunc⟩,
  some ⟨1, 8, .func, .nilFunc⟩,
  some ⟨1, 4, (.int .u32), (.int .u32 0)⟩,
  some ⟨4, 4, (.array 4 5), (.agg [(.int .u8 0), (.int .u8 0), (.int .u8 0), (.int .u8 0)])⟩,
  some ⟨1, 8, (.int .u64), (.int .u64 0)⟩,
  some ⟨1, 8, .func, .nilFunc⟩,
  some ⟨1, 8, .func, .nilFunc⟩,
  some ⟨1, 8, .func, .nilFunc⟩,
  some ⟨1, 8, .func, .nilFunc⟩,
  some ⟨1, 8, .func, .nilFunc⟩,
  some ⟨1, 8, .func, .nilFunc⟩,
  some ⟨1, 8, .func, .nilFunc⟩,
  some ⟨4, 40, (.struct [(0, 17), (1, 17), (2, 17), (3, 9)]), (.agg [.nilPtr, .nilPtr, .nilPtr, (.str ⟨#[]⟩)])⟩,
  some ⟨4, 40, (.struct [(0, 17), (1, 17), (2, 17), (3, 9)]), (.agg [.nilPtr, .nilPtr, .nilPtr, (.str ⟨#[]⟩)])⟩,
  none,
  none,
  none,
  some ⟨1, 8, .func, .nilFunc⟩,
  some ⟨1, 1, (.int .u8), (.int .u8 0)⟩,
  some ⟨1, 1, (.int .u8), (.int .u8 0)⟩,
  some ⟨1, 8, .func, .nilFunc⟩,
  some ⟨1, 8, (.pointer 5), .nilPtr⟩,
  some ⟨1, 4, (.int .i32), (.int .i32 0)⟩,
  some ⟨1, 4, (.int .i32), (.int .i32 0)⟩,
  some ⟨11, 48, (.struct [(0, 12), (1, 12), (2, 134), (3, 150), (4, 5), (5, 5), (6, 151), (7, 152), (8, 153), (9, 154), (10, 155)]), (.agg [(.int .u64 0), (.int .u64 0), (.int .u32 0), (.int .u8 0), (.int .u8 0), (.int .u8 0), (.int .u8 0), .nilFunc, .nilPtr, (.int .i32 0), (.int .i32 0)])⟩,
  some ⟨11, 48, (.struct [(0, 12), (1, 12), (2, 134), (3, 150), (4, 5), (5, 5), (6, 151), (7, 152), (8, 153), (9, 154), (10, 155)]), (.agg [(.int .u64 0), (.int .u64 0), (.int .u32 0), (.int .u8 0), (.int .u8 0), (.int .u8 0), (.int .u8 0), .nilFunc, .nilPtr, (.int .i32 0), (.int .i32 0)])⟩,
  none]
noncomputable def zL : List (Option (List SV)) := [
  none,
  some [.nilFunc],
  some [.int .i64 0],
  some [.int .i64 0],
  some [.bool false],
  some [.int .u8 0],
  some [.int .u8 0],
  some [.int .i64 0, .int .i64 0, .bool false, .int .u8 0],
  some [.int .i64 0, .int .i64 0, .bool false, .int .u8 0],
  some [.str []],
  some [.str []],
  some [.str []],
  some [.int .u64 0],
  some [.str [], .int .u64 0],
  some [.str [], .int .u64 0],
  some [.nilPtr],
  some [.nilPtr],
  some [.nilPtr],
  some [.nilPtr],
  some [.nilPtr],
  some [.nilIface],
  some [.int .i32 0],
  some [.lst true (.int .u16) []],
  some [.lst true (.list (.int .u16)) []],
  some [.lst true (.int .u8) []],
  some [.int .i64 0, .int .i64 0, .int .i64 0, .int .i64 0],
  some [.int .i64 0, .int .i64 0, .int .i64 0, .int .i64 0],
  some [.lst true .block []],
  some [.lst true .block [], .bool false, .bool false, .int .i64 0],
  some [.lst true .block [], .bool false, .bool false, .int .i64 0],
  some [.lst true .i []],
  some [.lst true .i [], .lst true .i []],
  some [.lst true .i [], .lst true .i []],
  some [.int .i64 0, .int .i64 0, .int .i64 0, .int .i64 0, .lst true .block [], .bool false, .bool false, .int .i64 0, .lst true .i [], .lst true .i [], .int .i64 0, .int .i64 0],
  some [.int .i64 0, .int .i64 0, .int .i64 0, .int .i64 0, .lst true .block [], .bool false, .bool false, .int .i64 0, .lst true .i [], .lst true .i [], .int .i64 0, .int .i64 0],
  some [.nilFunc],
  some [.lst true .fate []],
  some [.nilFunc],
  some [.int .i64 0, .int .i64 0, .lst true .i [], .lst true .i []],
  some [.int .i64 0, .int .i64 0, .lst true .i [], .lst true .i []],
  some [.nilFunc],
  some [.str [], .int .i64 0, .int .i64 0, .lst true .i [], .lst true .i []],
  some [.str [], .int .i64 0, .int .i64 0, .lst true .i [], .lst true .i []],
  some [.nilFunc],
  some [.int .i64 0],
  none,
  some [.nilFunc],
  some [.nilFunc],
  some [.nilFunc],
  none,
  some [.nilFunc],
  some [.bool false, .str [], .str []],
  some [.bool false, .str [], .str []],
  none,
  some [.nilFunc],
  some [.nilFunc],
  some [.nilFunc],
  some [.nilFunc],
  some [.nilFunc],
  some [.nilFunc],
  some [.nilFunc],
  some [.nilFunc],
  some [.nilFunc],
  some [.lst true .str []],
  some [.int .i64 0, .str [], .str [], .int .i64 0],
  some [.int .i64 0, .str [], .str [], .int .i64 0],
  some [.int .u16 0],
  some [.nilFunc],
  some [.nilFunc],
  some [.nilFunc],
  none,
  some [.nilFunc],
  some [.nilFunc],
  some [.lst true .page []],
  some [.lst true .page [], .int .i64 0, .int .i64 0, .bool false],
  some [.lst true .page [], .int .i64 0, .int .i64 0, .bool false],
  none,
  some [.nilFunc],
  none,
  some [.nilFunc],
  some [.nilFunc],
  some [.nilFunc],
  some [.int .i64 0, .int .i64 0, .int .i64 0, .lst true .i [], .lst true .i []],
  some [.int .i64 0, .int .i64 0, .int .i64 0, .lst true .i [], .lst true .i []],
  none,
  some [.nilFunc],
  none,
  some [.nilFunc],
  some [.nilFunc],
  none,
  some [.nilFunc],
  some [.nilFunc],
  some [.nilFunc],
  some [.nilFunc],
  some [.nilFunc],
  some [.lst true .geometry []],
  some [.nilFunc],
  some [.nilFunc],
  some [.nilFunc],
  some [.nilFunc],
  none,
  some [.nilFunc],
  some [.nilFunc],
  some [.nilFunc],
  some [.nilFunc],
  some [.nilPtr],
  none,
  some [.nilFunc],
  some [.nilFunc],
  none,
  some [.nilFunc],
  none,
  some [.nilFunc],
  some [.nilFunc],
  some [.lst true .found []],
  some [.nilFunc],
  some [.nilFunc],
  some [.nilFunc],
  some [.nilFunc],
  some [.nilFunc],
  some [.nilFunc],
  some [.lst true .i [], .lst true .i [], .lst true .i []],
  some [.nilFunc],
  some [.nilFunc],
  some [.nilFunc],
  some [.nilFunc],
  some [.nilFunc],
  some [.nilFunc],
  none,
  some [.nilFunc],
  some [.nilFunc],
  some [.nilFunc],
  some [.nilFunc],
  some [.nilFunc],
  some [.int .u32 0],
  some [.int .u8 0, .int .u8 0, .int .u8 0, .int .u8 0],
  some [.int .u64 0],
  some [.nilFunc],
  some [.nilFunc],
  some [.nilFunc],
  some [.nilFunc],
  some [.nilFunc],
  some [.nilFunc],
  some [.nilFunc],
  some [.nilPtr, .nilPtr, .nilPtr, .str []],
  some [.nilPtr, .nilPtr, .nilPtr, .str []],
  none,
  none,
  none,
  some [.nilFunc],
  some [.int .u8 0],
  some [.int .u8 0],
  some [.nilFunc],
  some [.nilPtr],
  some [.int .i32 0],
  some [.int .i32 0],
  some [.int .u64 0, .int .u64 0, .int .u32 0, .int .u8 0, .int .u8 0, .int .u8 0, .int .u8 0, .nilFunc, .nilPtr, .int .i32 0, .int .i32 0],
  some [.int .u64 0, .int .u64 0, .int .u32 0, .int .u8 0, .int .u8 0, .int .u8 0, .int .u8 0, .nilFunc, .nilPtr, .int .i32 0, .int .i32 0],
  none]
noncomputable def ecL : List (Option TC) := [
  none,
  none,
  some .i,
  some .i,
  some .bool,
  some (.int .u8),
  some (.int .u8),
  none,
  none,
  some .str,
  some .str,
  some .str,
  some (.int .u64),
  none,
  none,
  none,
  none,
  none,
  none,
  none,
  none,
  some (.int .i32),
  some (.list (.int .u16)),
  some (.list (.list (.int .u16))),
  some (.list (.int .u8)),
  none,
  some .geometry,
  some (.list .block),
  none,
  some .chip,
  some (.list .i),
  none,
  some .table,
  none,
  some .device,
  none,
  some (.list .fate),
  none,
  none,
  some .record,
  none,
  none,
  some .write,
  none,
  some .i,
  none,
  none,
  none,
  none,
  none,
  none,
  none,
  some .page,
  none,
  none,
  none,
  none,
  none,
  none,
  none,
  none,
  none,
  none,
  some (.list .str),
  none,
  some .fate,
  some (.int .u16),
  none,
  none,
  none,
  none,
  none,
  none,
  some (.list .page),
  none,
  some .block,
  none,
  none,
  none,
  none,
  none,
  none,
  none,
  some .found,
  none,
  none,
  none,
  none,
  none,
  none,
  none,
  none,
  none,
  none,
  none,
  some (.list .geometry),
  none,
  none,
  none,
  none,
  none,
  none,
  none,
  none,
  none,
  none,
  none,
  none,
  none,
  none,
  none,
  none,
  none,
  none,
  some (.list .found),
  none,
  none,
  none,
  none,
  none,
  none,
  none,
  none,
  none,
  none,
  none,
  none,
  none,
  none,
  none,
  none,
  none,
  none,
  none,
  some (.int .u32),
  none,
  some (.int .u64),
  none,
  none,
  none,
  none,
  none,
  none,
  none,
  none,
  none,
  none,
  none,
  none,
  none,
  some (.int .u8),
  some (.int .u8),
  none,
  none,
  some (.int .i32),
  some (.int .i32),
  none,
  none,
  none]
noncomputable def eqL : List Bool := [false, false, false, false, false, false, false, true, true, false, false, false, false, false, false, false, false, false, false, false, false, false, false, false, false, true, true, false, true, true, false, true, true, true, true, false, false, false, true, true, false, true, true, false, false, false, false, false, false, false, false, true, true, false, false, false, false, false, false, false, false, false, false, false, true, true, false, false, false, false, false, false, false, false, true, true, false, false, false, false, false, false, true, true, false, false, false, false, false, false, false, false, false, false, false, false, false, false, false, false, false, false, false, false, false, false, false, false, false, false, false, false, false, false, false, false, false, false, false, false, false, false, false, false, false, false, false, false, false, false, false, false, false, false, false, false, false, false, false, false, false, false, false, false, false, false, false, false, false, false, false, false, false, false, false, false, false, false, false]
noncomputable def fnL : List (Option Go.Func) := [none, none, none, some Try.f3, some Try.f4, some Try.f5, some Try.f6, some Try.f7, some Try.f8, some Try.f9, some Try.f10, some Try.f11, some Try.f12, some Try.f13, some Try.f14, some Try.f15, some Try.f16, some Try.f17, some Try.f18, some Try.f19, some Try.f20, some Try.f21, some Try.f22, some Try.f23, some Try.f24, some Try.f25, some Try.f26, some Try.f27, some Try.f28, some Try.f29, some Try.f30, some Try.f31, some Try.f32, some Try.f33, some Try.f34, some Try.f35, some Try.f36, some Try.f37, some Try.f38, some Try.f39, some Try.f40, some Try.f41, some Try.f42, some Try.f43, some Try.f44, some Try.f45, some Try.f46, some Try.f47, some Try.f48, some Try.f49, some Try.f50, some Try.f51, some Try.f52, some Try.f53, some Try.f54, some Try.f55, some Try.f56, some Try.f57, some Try.f58, some Try.f59, some Try.f60, some Try.f61, some Try.f62, some Try.f63, some Try.f64, some Try.f65, some Try.f66, some Try.f67, some Try.f68, some Try.f69, some Try.f70, some Try.f71, some Try.f72, some Try.f73, some Try.f74, some Try.f75, some Try.f76, some Try.f77, some Try.f78, some Try.f79, some Try.f80, some Try.f81, some Try.f82, some Try.f83, some Try.f84, some Try.f85, some Try.f86, some Try.f87, some Try.f88, some Try.f89, some Try.f90, some Try.f91, some Try.f92, some Try.f93, some Try.f94, some Try.f95, some Try.f96, some Try.f97, some Try.f98, none, none, none, none, none, none, none, none, none, none, none, none, none, none, none, none]
noncomputable def inlL : List Bool := [false, false, false, false, false, false, false, false, false, false, false, false, false, false, false, false, false, false, false, false, false, true, false, false, false, false, false, false, false, false, false, false, false, false, false, false, false, false, false, false, false, false, false, false, false, false, false, false, false, false, false, true, false, false, false, false, false, false, true, false, false, false, false, false, false, false, false, false, false, false, false, false, false, false, false, true, false, false, false, false, false, false, false, true, false, true, false, true, true, true, false, false, true, false, true, true, true, false, false, false, false, false, false, false, false, false, false, false, false, false, false, false, false, false, false]
noncomputable def clL : List (Option (TC × Nat)) := [none, none, none, none, none, none, none, none, none, none, none, none, none, none, none, none, none, none, none, none, none, none, none, none, none, none, none, none, none, none, none, none, none, none, none, none, none, none, none, none, none, none, none, none, none, none, none, none, none, none, none, none, none, none, none, none, none, none, none, some (.i, 8), none, none, none, none, none, none, none, none, none, none, none, none, none, none, none, none, some (.block, 48), some (.page, 40), none, none, none, none, none, none, none, none, none, none, none, none, none, none, none, none, none, none, none, none, none, none, none, none, none, none, none, none, none, none, none, none, none, none, none, none, none]
noncomputable def seat : Seat := ⟨tiL, zL, ecL, eqL, fnL, inlL, clL⟩
theorem seat_ok : seat.Ok Try.prog where
  ti := by kernel_rfl
  zero := by kernel_rfl
  zs := by kernel_rfl
  ec := by kernel_rfl
  eci := by kernel_rfl
  flds := by kernel_rfl
  eq := by kernel_rfl
  fn := by kernel_rfl
theorem sseat : SeatOk Try.prog seat.inlF seat.prim seat.mk' := seat_ok.seatOk
end Go.Proofs.Ytflcnadgmlebcaa
namespace Go.Proofs.Ytflcnadgmlebcaa
open Go Go.Proofs Clk
theorem ti0 : ti Try.prog 0 = some ⟨1, 0, .other, (.tup [])⟩ := by kernel_rfl
theorem ti1 : ti Try.prog 1 = some ⟨1, 8, .func, .nilFunc⟩ := by kernel_rfl
theorem ti2 : ti Try.prog 2 = some ⟨1, 8, (.int .i64), (.int .i64 0)⟩ := by kernel_rfl
theorem ti3 : ti Try.prog 3 = some ⟨1, 8, (.int .i64), (.int .i64 0)⟩ := by kernel_rfl
theorem ti4 : ti Try.prog 4 = some ⟨1, 1, .bool, (.bool false)⟩ := by kernel_rfl
theorem ti5 : ti Try.prog 5 = some ⟨1, 1, (.int .u8), (.int .u8 0)⟩ := by kernel_rfl
theorem ti6 : ti Try.prog 6 = some ⟨1, 1, (.int .u8), (.int .u8 0)⟩ := by kernel_rfl
theorem ti7 : ti Try.prog 7 = some ⟨4, 24, (.struct [(0, 2), (1, 3), (2, 4), (3, 6)]), (.agg [(.int .i64 0), (.int .i64 0), (.bool false), (.int .u8 0)])⟩ := by kernel_rfl
theorem ti8 : ti Try.prog 8 = some ⟨4, 24, (.struct [(0, 2), (1, 3), (2, 4), (3, 6)]), (.agg [(.int .i64 0), (.int .i64 0), (.bool false), (.int .u8 0)])⟩ := by kernel_rfl
theorem ti9 : ti Try.prog 9 = some ⟨1, 16, .string, (.str ⟨#[]⟩)⟩ := by kernel_rfl
theorem ti10 : ti Try.prog 10 = some ⟨1, 16, .string, (.str ⟨#[]⟩)⟩ := by kernel_rfl
theorem ti11 : ti Try.prog 11 = some ⟨1, 16, .string, (.str ⟨#[]⟩)⟩ := by kernel_rfl
theorem ti12 : ti Try.prog 12 = some ⟨1, 8, (.int .u64), (.int .u64 0)⟩ := by kernel_rfl
theorem ti13 : ti Try.prog 13 = some ⟨2, 24, (.struct [(0, 9), (1, 12)]), (.agg [(.str ⟨#[]⟩), (.int .u64 0)])⟩ := by kernel_rfl
theorem ti14 : ti Try.prog 14 = some ⟨2, 24, (.struct [(0, 9), (1, 12)]), (.agg [(.str ⟨#[]⟩), (.int .u64 0)])⟩ := by kernel_rfl
theorem ti15 : ti Try.prog 15 = some ⟨1, 8, (.pointer 145), .nilPtr⟩ := by kernel_rfl
theorem ti16 : ti Try.prog 16 = some ⟨1, 8, (.pointer 148), .nilPtr⟩ := by kernel_rfl
theorem ti17 : ti Try.prog 17 = some ⟨1, 8, (.pointer 157), .nilPtr⟩ := by kernel_rfl
theorem ti18 : ti Try.prog 18 = some ⟨1, 8, (.struct [(0, 17)]), (.agg [.nilPtr])⟩ := by kernel_rfl
theorem ti19 : ti Try.prog 19 = some ⟨1, 8, (.struct [(0, 17)]), (.agg [.nilPtr])⟩ := by kernel_rfl
theorem ti20 : ti Try.prog 20 = some ⟨1, 16, .iface, .nilIface⟩ := by kernel_rfl
theorem ti21 : ti Try.prog 21 = some ⟨1, 4, (.int .i32), (.int .i32 0)⟩ := by kernel_rfl
theorem ti22 : ti Try.prog 22 = some ⟨1, 24, (.slice 66), (.crows [])⟩ := by kernel_rfl
theorem ti23 : ti Try.prog 23 = some ⟨1, 24, (.slice 22), (.crows [])⟩ := by kernel_rfl
theorem ti24 : ti Try.prog 24 = some ⟨1, 24, (.slice 5), (.crows [])⟩ := by kernel_rfl
theorem ti25 : ti Try.prog 25 = some ⟨4, 32, (.struct [(0, 3), (1, 3), (2, 3), (3, 3)]), (.agg [(.int .i64 0), (.int .i64 0), (.int .i64 0), (.int .i64 0)])⟩ := by kernel_rfl
theorem ti26 : ti Try.prog 26 = some ⟨4, 32, (.struct [(0, 3), (1, 3), (2, 3), (3, 3)]), (.agg [(.int .i64 0), (.int .i64 0), (.int .i64 0), (.int .i64 0)])⟩ := by kernel_rfl
theorem ti27 : ti Try.prog 27 = some ⟨1, 24, (.slice 75), (.crows [])⟩ := by kernel_rfl
theorem ti28 : ti Try.prog 28 = some ⟨4, 40, (.struct [(0, 27), (1, 4), (2, 4), (3, 3)]), (.agg [(.crows []), (.bool false), (.bool false), (.int .i64 0)])⟩ := by kernel_rfl
theorem ti29 : ti Try.prog 29 = some ⟨4, 40, (.struct [(0, 27), (1, 4), (2, 4), (3, 3)]), (.agg [(.crows []), (.bool false), (.bool false), (.int .i64 0)])⟩ := by kernel_rfl
theorem ti30 : ti Try.prog 30 = some ⟨1, 24, (.slice 3), (.crows [])⟩ := by kernel_rfl
theorem ti31 : ti Try.prog 31 = some ⟨2, 48, (.struct [(0, 30), (1, 30)]), (.agg [(.crows []), (.crows [])])⟩ := by kernel_rfl
theorem ti32 : ti Try.prog 32 = some ⟨2, 48, (.struct [(0, 30), (1, 30)]), (.agg [(.crows []), (.crows [])])⟩ := by kernel_rfl
theorem ti33 : ti Try.prog 33 = some ⟨12, 136, (.struct [(0, 26), (4, 29), (8, 32), (10, 3), (11, 3)]), (.agg [(.int .i64 0), (.int .i64 0), (.int .i64 0), (.int .i64 0), (.crows []), (.bool false), (.bool false), (.int .i64 0), (.crows []), (.crows []), (.int .i64 0), (.int .i64 0)])⟩ := by kernel_rfl
theorem ti34 : ti Try.prog 34 = some ⟨12, 136, (.struct [(0, 26), (4, 29), (8, 32), (10, 3), (11, 3)]), (.agg [(.int .i64 0), (.int .i64 0), (.int .i64 0), (.int .i64 0), (.crows []), (.bool false), (.bool false), (.int .i64 0), (.crows []), (.crows []), (.int .i64 0), (.int .i64 0)])⟩ := by kernel_rfl
theorem ti35 : ti Try.prog 35 = some ⟨1, 8, .func, .nilFunc⟩ := by kernel_rfl
theorem ti36 : ti Try.prog 36 = some ⟨1, 24, (.slice 65), (.crows [])⟩ := by kernel_rfl
theorem ti37 : ti Try.prog 37 = some ⟨1, 8, .func, .nilFunc⟩ := by kernel_rfl
theorem ti38 : ti Try.prog 38 = some ⟨4, 64, (.struct [(0, 3), (1, 3), (2, 30), (3, 30)]), (.agg [(.int .i64 0), (.int .i64 0), (.crows []), (.crows [])])⟩ := by kernel_rfl
theorem ti39 : ti Try.prog 39 = some ⟨4, 64, (.struct [(0, 3), (1, 3), (2, 30), (3, 30)]), (.agg [(.int .i64 0), (.int .i64 0), (.crows []), (.crows [])])⟩ := by kernel_rfl
theorem ti40 : ti Try.prog 40 = some ⟨1, 8, .func, .nilFunc⟩ := by kernel_rfl
theorem ti41 : ti Try.prog 41 = some ⟨5, 80, (.struct [(0, 9), (1, 39)]), (.agg [(.str ⟨#[]⟩), (.int .i64 0), (.int .i64 0), (.crows []), (.crows [])])⟩ := by kernel_rfl
theorem ti42 : ti Try.prog 42 = some ⟨5, 80, (.struct [(0, 9), (1, 39)]), (.agg [(.str ⟨#[]⟩), (.int .i64 0), (.int .i64 0), (.crows []), (.crows [])])⟩ := by kernel_rfl
theorem ti43 : ti Try.prog 43 = some ⟨1, 8, .func, .nilFunc⟩ := by kernel_rfl
theorem ti44 : ti Try.prog 44 = some ⟨1, 8, (.int .i64), (.int .i64 0)⟩ := by kernel_rfl
theorem ti45 : ti Try.prog 45 = some ⟨1, 0, .other, .undef⟩ := by kernel_rfl
theorem ti46 : ti Try.prog 46 = some ⟨1, 8, .func, .nilFunc⟩ := by kernel_rfl
theorem ti47 : ti Try.prog 47 = some ⟨1, 8, .func, .nilFunc⟩ := by kernel_rfl
theorem ti48 : ti Try.prog 48 = some ⟨1, 8, .func, .nilFunc⟩ := by kernel_rfl
theorem ti49 : ti Try.prog 49 = some ⟨1, 0, .other, .undef⟩ := by kernel_rfl
theorem ti50 : ti Try.prog 50 = some ⟨1, 8, .func, .nilFunc⟩ := by kernel_rfl
theorem ti51 : ti Try.prog 51 = some ⟨3, 40, (.struct [(0, 4), (1, 9), (2, 9)]), (.agg [(.bool false), (.str ⟨#[]⟩), (.str ⟨#[]⟩)])⟩ := by kernel_rfl
theorem ti52 : ti Try.prog 52 = some ⟨3, 40, (.struct [(0, 4), (1, 9), (2, 9)]), (.agg [(.bool false), (.str ⟨#[]⟩), (.str ⟨#[]⟩)])⟩ := by kernel_rfl
theorem ti53 : ti Try.prog 53 = some ⟨1, 0, .other, .undef⟩ := by kernel_rfl
theorem ti54 : ti Try.prog 54 = some ⟨1, 8, .func, .nilFunc⟩ := by kernel_rfl
theorem ti55 : ti Try.prog 55 = some ⟨1, 8, .func, .nilFunc⟩ := by kernel_rfl
theorem ti56 : ti Try.prog 56 = some ⟨1, 8, .func, .nilFunc⟩ := by kernel_rfl
theorem ti57 : ti Try.prog 57 = some ⟨1, 8, .func, .nilFunc⟩ := by kernel_rfl
theorem ti58 : ti Try.prog 58 = some ⟨1, 8, .func, .nilFunc⟩ := by kernel_rfl
theorem ti59 : ti Try.prog 59 = some ⟨1, 8, .func, .nilFunc⟩ := by kernel_rfl
theorem ti60 : ti Try.prog 60 = some ⟨1, 8, .func, .nilFunc⟩ := by kernel_rfl
theorem ti61 : ti Try.prog 61 = some ⟨1, 8, .func, .nilFunc⟩ := by kernel_rfl
theorem ti62 : ti Try.prog 62 = some ⟨1, 8, .func, .nilFunc⟩ := by kernel_rfl
theorem ti63 : ti Try.prog 63 = some ⟨1, 24, (.slice 9), (.crows [])⟩ := by kernel_rfl
theorem ti64 : ti Try.prog 64 = some ⟨4, 48, (.struct [(0, 3), (1, 9), (2, 9), (3, 3)]), (.agg [(.int .i64 0), (.str ⟨#[]⟩), (.str ⟨#[]⟩), (.int .i64 0)])⟩ := by kernel_rfl
theorem ti65 : ti Try.prog 65 = some ⟨4, 48, (.struct [(0, 3), (1, 9), (2, 9), (3, 3)]), (.agg [(.int .i64 0), (.str ⟨#[]⟩), (.str ⟨#[]⟩), (.int .i64 0)])⟩ := by kernel_rfl
theorem ti66 : ti Try.prog 66 = some ⟨1, 2, (.int .u16), (.int .u16 0)⟩ := by kernel_rfl
theorem ti67 : ti Try.prog 67 = some ⟨1, 8, .func, .nilFunc⟩ := by kernel_rfl
theorem ti68 : ti Try.prog 68 = some ⟨1, 8, .func, .nilFunc⟩ := by kernel_rfl
theorem ti69 : ti Try.prog 69 = some ⟨1, 8, .func, .nilFunc⟩ := by kernel_rfl
theorem ti70 : ti Try.prog 70 = some ⟨1, 0, .other, .undef⟩ := by kernel_rfl
theorem ti71 : ti Try.prog 71 = some ⟨1, 8, .func, .nilFunc⟩ := by kernel_rfl
theorem ti72 : ti Try.prog 72 = some ⟨1, 8, .func, .nilFunc⟩ := by kernel_rfl
theorem ti73 : ti Try.prog 73 = some ⟨1, 24, (.slice 52), (.crows [])⟩ := by kernel_rfl
theorem ti74 : ti Try.prog 74 = some ⟨4, 48, (.struct [(0, 73), (1, 3), (2, 3), (3, 4)]), (.agg [(.crows []), (.int .i64 0), (.int .i64 0), (.bool false)])⟩ := by kernel_rfl
theorem ti75 : ti Try.prog 75 = some ⟨4, 48, (.struct [(0, 73), (1, 3), (2, 3), (3, 4)]), (.agg [(.crows []), (.int .i64 0), (.int .i64 0), (.bool false)])⟩ := by kernel_rfl
theorem ti76 : ti Try.prog 76 = some ⟨1, 0, .other, .undef⟩ := by kernel_rfl
theorem ti77 : ti Try.prog 77 = some ⟨1, 8, .func, .nilFunc⟩ := by kernel_rfl
theorem ti78 : ti Try.prog 78 = some ⟨1, 0, .other, .undef⟩ := by kernel_rfl
theorem ti79 : ti Try.prog 79 = some ⟨1, 8, .func, .nilFunc⟩ := by kernel_rfl
theorem ti80 : ti Try.prog 80 = some ⟨1, 8, .func, .nilFunc⟩ := by kernel_rfl
theorem ti81 : ti Try.prog 81 = some ⟨1, 8, .func, .nilFunc⟩ := by kernel_rfl
theorem ti82 : ti Try.prog 82 = some ⟨5, 72, (.struct [(0, 3), (1, 39)]), (.agg [(.int .i64 0), (.int .i64 0), (.int .i64 0), (.crows []), (.crows [])])⟩ := by kernel_rfl
theorem ti83 : ti Try.prog 83 = some ⟨5, 72, (.struct [(0, 3), (1, 39)]), (.agg [(.int .i64 0), (.int .i64 0), (.int .i64 0), (.crows []), (.crows [])])⟩ := by kernel_rfl
theorem ti84 : ti Try.prog 84 = some ⟨1, 0, .other, .undef⟩ := by kernel_rfl
theorem ti85 : ti Try.prog 85 = some ⟨1, 8, .func, .nilFunc⟩ := by kernel_rfl
theorem ti86 : ti Try.prog 86 = some ⟨1, 0, .other, .undef⟩ := by kernel_rfl
theorem ti87 : ti Try.prog 87 = some ⟨1, 8, .func, .nilFunc⟩ := by kernel_rfl
theorem ti88 : ti Try.prog 88 = some ⟨1, 8, .func, .nilFunc⟩ := by kernel_rfl
theorem ti89 : ti Try.prog 89 = some ⟨1, 0, .other, .undef⟩ := by kernel_rfl
theorem ti90 : ti Try.prog 90 = some ⟨1, 8, .func, .nilFunc⟩ := by kernel_rfl
theorem ti91 : ti Try.prog 91 = some ⟨1, 8, .func, .nilFunc⟩ := by kernel_rfl
theorem ti92 : ti Try.prog 92 = some ⟨1, 8, .func, .nilFunc⟩ := by kernel_rfl
theorem ti93 : ti Try.prog 93 = some ⟨1, 8, .func, .nilFunc⟩ := by kernel_rfl
theorem ti94 : ti Try.prog 94 = some ⟨1, 8, .func, .nilFunc⟩ := by kernel_rfl
theorem ti95 : ti Try.prog 95 = some ⟨1, 24, (.slice 26), (.crows [])⟩ := by kernel_rfl
theorem ti96 : ti Try.prog 96 = some ⟨1, 8, .func, .nilFunc⟩ := by kernel_rfl
theorem ti97 : ti Try.prog 97 = some ⟨1, 8, .func, .nilFunc⟩ := by kernel_rfl
theorem ti98 : ti Try.prog 98 = some ⟨1, 8, .func, .nilFunc⟩ := by kernel_rfl
theorem ti99 : ti Try.prog 99 = some ⟨1, 8, .func, .nilFunc⟩ := by kernel_rfl
theorem ti100 : ti Try.prog 100 = some ⟨1, 0, .other, .undef⟩ := by kernel_rfl
theorem ti101 : ti Try.prog 101 = some ⟨1, 8, .func, .nilFunc⟩ := by kernel_rfl
theorem ti102 : ti Try.prog 102 = some ⟨1, 8, .func, .nilFunc⟩ := by kernel_rfl
theorem ti103 : ti Try.prog 103 = some ⟨1, 8, .func, .nilFunc⟩ := by kernel_rfl
theorem ti104 : ti Try.prog 104 = some ⟨1, 8, .func, .nilFunc⟩ := by kernel_rfl
theorem ti105 : ti Try.prog 105 = some ⟨1, 8, (.pointer 75), .nilPtr⟩ := by kernel_rfl
theorem ti106 : ti Try.prog 106 = some ⟨1, 0, .other, .undef⟩ := by kernel_rfl
theorem ti107 : ti Try.prog 107 = some ⟨1, 8, .func, .nilFunc⟩ := by kernel_rfl
theorem ti108 : ti Try.prog 108 = some ⟨1, 8, .func, .nilFunc⟩ := by kernel_rfl
theorem ti109 : ti Try.prog 109 = some ⟨1, 0, .other, .undef⟩ := by kernel_rfl
theorem ti110 : ti Try.prog 110 = some ⟨1, 8, .func, .nilFunc⟩ := by kernel_rfl
theorem ti111 : ti Try.prog 111 = some ⟨1, 0, .other, .undef⟩ := by kernel_rfl
theorem ti112 : ti Try.prog 112 = some ⟨1, 8, .func, .nilFunc⟩ := by kernel_rfl
theorem ti113 : ti Try.prog 113 = some ⟨1, 8, .func, .nilFunc⟩ := by kernel_rfl
theorem ti114 : ti Try.prog 114 = some ⟨1, 24, (.slice 83), (.crows [])⟩ := by kernel_rfl
theorem ti115 : ti Try.prog 115 = some ⟨1, 8, .func, .nilFunc⟩ := by kernel_rfl
theorem ti116 : ti Try.prog 116 = some ⟨1, 8, .func, .nilFunc⟩ := by kernel_rfl
theorem ti117 : ti Try.prog 117 = some ⟨1, 8, .func, .nilFunc⟩ := by kernel_rfl
theorem ti118 : ti Try.prog 118 = some ⟨1, 8, .func, .nilFunc⟩ := by kernel_rfl
theorem ti119 : ti Try.prog 119 = some ⟨1, 8, .func, .nilFunc⟩ := by kernel_rfl
theorem ti120 : ti Try.prog 120 = some ⟨1, 8, .func, .nilFunc⟩ := by kernel_rfl
theorem ti121 : ti Try.prog 121 = some ⟨3, 72, (.array 3 30), (.agg [(.crows []), (.crows []), (.crows [])])⟩ := by kernel_rfl
theorem ti122 : ti Try.prog 122 = some ⟨1, 8, .func, .nilFunc⟩ := by kernel_rfl
theorem ti123 : ti Try.prog 123 = some ⟨1, 8, .func, .nilFunc⟩ := by kernel_rfl
theorem ti124 : ti Try.prog 124 = some ⟨1, 8, .func, .nilFunc⟩ := by kernel_rfl
theorem ti125 : ti Try.prog 125 = some ⟨1, 8, .func, .nilFunc⟩ := by kernel_rfl
theorem ti126 : ti Try.prog 126 = some ⟨1, 8, .func, .nilFunc⟩ := by kernel_rfl
theorem ti127 : ti Try.prog 127 = some ⟨1, 8, .func, .nilFunc⟩ := by kernel_rfl
theorem ti128 : ti Try.prog 128 = some ⟨1, 0, .other, .undef⟩ := by kernel_rfl
theorem ti129 : ti Try.prog 129 = some ⟨1, 8, .func, .nilFunc⟩ := by kernel_rfl
theorem ti130 : ti Try.prog 130 = some ⟨1, 8, .func, .nilFunc⟩ := by kernel_rfl
theorem ti131 : ti Try.prog 131 = some ⟨1, 8, .func, .nilFunc⟩ := by kernel_rfl
theorem ti132 : ti Try.prog 132 = some ⟨1, 8, .func, .nilFunc⟩ := by kernel_rfl
theorem ti133 : ti Try.prog 133 = some ⟨1, 8, .func, .nilFunc⟩ := by kernel_rfl
theorem ti134 : ti Try.prog 134 = some ⟨1, 4, (.int .u32), (.int .u32 0)⟩ := by kernel_rfl
theorem ti135 : ti Try.prog 135 = some ⟨4, 4, (.array 4 5), (.agg [(.int .u8 0), (.int .u8 0), (.int .u8 0), (.int .u8 0)])⟩ := by kernel_rfl
theorem ti136 : ti Try.prog 136 = some ⟨1, 8, (.int .u64), (.int .u64 0)⟩ := by kernel_rfl
theorem ti137 : ti Try.prog 137 = some ⟨1, 8, .func, .nilFunc⟩ := by kernel_rfl
theorem ti138 : ti Try.prog 138 = some ⟨1, 8, .func, .nilFunc⟩ := by kernel_rfl
theorem ti139 : ti Try.prog 139 = some ⟨1, 8, .func, .nilFunc⟩ := by kernel_rfl
theorem ti140 : ti Try.prog 140 = some ⟨1, 8, .func, .nilFunc⟩ := by kernel_rfl
theorem ti141 : ti Try.prog 141 = some ⟨1, 8, .func, .nilFunc⟩ := by kernel_rfl
theorem ti142 : ti Try.prog 142 = some ⟨1, 8, .func, .nilFunc⟩ := by kernel_rfl
theorem ti143 : ti Try.prog 143 = some ⟨1, 8, .func, .nilFunc⟩ := by kernel_rfl
theorem ti144 : ti Try.prog 144 = some ⟨4, 40, (.struct [(0, 17), (1, 17), (2, 17), (3, 9)]), (.agg [.nilPtr, .nilPtr, .nilPtr, (.str ⟨#[]⟩)])⟩ := by kernel_rfl
theorem ti145 : ti Try.prog 145 = some ⟨4, 40, (.struct [(0, 17), (1, 17), (2, 17), (3, 9)]), (.agg [.nilPtr, .nilPtr, .nilPtr, (.str ⟨#[]⟩)])⟩ := by kernel_rfl
theorem ti146 : ti Try.prog 146 = some ⟨0, 0, (.array 0 16), (.agg [])⟩ := by kernel_rfl
theorem ti147 : ti Try.prog 147 = some ⟨0, 0, (.struct [(0, 146)]), (.agg [])⟩ := by kernel_rfl
theorem ti148 : ti Try.prog 148 = some ⟨0, 0, (.struct [(0, 146)]), (.agg [])⟩ := by kernel_rfl
theorem ti149 : ti Try.prog 149 = some ⟨1, 8, .func, .nilFunc⟩ := by kernel_rfl
theorem ti150 : ti Try.prog 150 = some ⟨1, 1, (.int .u8), (.int .u8 0)⟩ := by kernel_rfl
theorem ti151 : ti Try.prog 151 = some ⟨1, 1, (.int .u8), (.int .u8 0)⟩ := by kernel_rfl
theorem ti152 : ti Try.prog 152 = some ⟨1, 8, .func, .nilFunc⟩ := by kernel_rfl
theorem ti153 : ti Try.prog 153 = some ⟨1, 8, (.pointer 5), .nilPtr⟩ := by kernel_rfl
theorem ti154 : ti Try.prog 154 = some ⟨1, 4, (.int .i32), (.int .i32 0)⟩ := by kernel_rfl
theorem ti155 : ti Try.prog 155 = some ⟨1, 4, (.int .i32), (.int .i32 0)⟩ := by kernel_rfl
theorem ti156 : ti Try.prog 156 = some ⟨11, 48, (.struct [(0, 12), (1, 12), (2, 134), (3, 150), (4, 5), (5, 5), (6, 151), (7, 152), (8, 153), (9, 154), (10, 155)]), (.agg [(.int .u64 0), (.int .u64 0), (.int .u32 0), (.int .u8 0), (.int .u8 0), (.int .u8 0), (.int .u8 0), .nilFunc, .nilPtr, (.int .i32 0), (.int .i32 0)])⟩ := by kernel_rfl
theorem ti157 : ti Try.prog 157 = some ⟨11, 48, (.struct [(0, 12), (1, 12), (2, 134), (3, 150), (4, 5), (5, 5), (6, 151), (7, 152), (8, 153), (9, 154), (10, 155)]), (.agg [(.int .u64 0), (.int .u64 0), (.int .u32 0), (.int .u8 0), (.int .u8 0), (.int .u8 0), (.int .u8 0), .nilFunc, .nilPtr, (.int .i32 0), (.int .i32 0)])⟩ := by kernel_rfl
theorem ti158 : ti Try.prog 158 = some ⟨1, 8, .other, .nilPtr⟩ := by kernel_rfl
attribute [go_sem] ti0 ti1 ti2 ti3 ti4 ti5 ti6 ti7 ti8 ti9 ti10 ti11 ti12 ti13 ti14 ti15 ti16 ti17 ti18 ti19 ti20 ti21 ti22 ti23 ti24 ti25 ti26 ti27 ti28 ti29 ti30 ti31 ti32 ti33 ti34 ti35 ti36 ti37 ti38 ti39 ti40 ti41 ti42 ti43 ti44 ti45 ti46 ti47 ti48 ti49 ti50 ti51 ti52 ti53 ti54 ti55 ti56 ti57 ti58 ti59 ti60 ti61 ti62 ti63 ti64 ti65 ti66 ti67 ti68 ti69 ti70 ti71 ti72 ti73 ti74 ti75 ti76 ti77 ti78 ti79 ti80 ti81 ti82 ti83 ti84 ti85 ti86 ti87 ti88 ti89 ti90 ti91 ti92 ti93 ti94 ti95 ti96 ti97 ti98 ti99 ti100 ti101 ti102 ti103 ti104 ti105 ti106 ti107 ti108 ti109 ti110 ti111 ti112 ti113 ti114 ti115 ti116 ti117 ti118 ti119 ti120 ti121 ti122 ti123 ti124 ti125 ti126 ti127 ti128 ti129 ti130 ti131 ti132 ti133 ti134 ti135 ti136 ti137 ti138 ti139 ti140 ti141 ti142 ti143 ti144 ti145 ti146 ti147 ti148 ti149 ti150 ti151 ti152 ti153 ti154 ti155 ti156 ti157 ti158
end Go.Proofs.Ytflcnadgmlebcaa
namespace Go.Proofs.Ytflcnadgmlebcaa
open Go Go.Proofs Clk
set_option maxRecDepth 100000
theorem newRows_of {H : List AO} {te : TI} {x : AV} {rs : List (List AV)} (h : rowsOf H x = some rs) : newRows H te x = some rs := by
  cases x <;> first | exact h | (simp [rowsOf] at h)
theorem good : Clk.Good Try.prog := ⟨by kernel_rfl, fun f fn h hn => by
  have : Try.prog.funcs.all (fun fn => fn.name != "runtime.NumGoroutine") = true := by kernel_rfl
  rw [Array.all_eq_true] at this
  obtain ⟨hi, h'⟩ := Array.getElem?_eq_some_iff.1 h
  have := this f hi
  rw [h', hn] at this
  simp at this⟩
theorem clone59 : ∀ args H v ch, cloneA 1 8 H.length args H = some (v, ch) → ∀ (w : World) (X : Nat → Prop) (β : Beta) (vs : Array Value), HRel w X β H → ARel w (NN X β H) β args vs → CallsIn (WF none) 0 Try.prog 59 vs w (Clk.Ends w X β H v (applyCh H ch)) := by
  refine clone_gen good Try.func59 (by rfl) (by rfl) (by rfl) (by rfl) (by rfl) (by rfl) (by rfl) (by rfl) (by rfl) Try.underlying30 (fun x H => ⟨20, ?_⟩) (fun x H => ⟨20, ?_⟩) (fun x H v ch h => ?_)
  · simp (config := {dsimp := false}) only [go_sem]
  · simp (config := {dsimp := false}) only [go_sem]
  · unfold cloneA at h
    simp only at h
    split at h
    · rename_i hrs
      cases h
      have hnr : ∀ te, newRows H te x = some [] := fun te => newRows_of hrs
      refine ⟨20, ?_⟩
      simp (config := {dsimp := false}) only [go_sem, hnr, reduceIte, Nat.reduceEqDiff, reduceCtorEq, Nat.zero_mul, Nat.not_lt_zero, gt_iff_lt, or_self, Nat.zero_le]
      refine ⟨_, rfl, ?_⟩
      rfl
    · rename_i rs hne hrs
      split at h
      · rename_i hc
        cases h
        simp only [Bool.and_eq_true, decide_eq_true_eq] at hc
        have hnr : ∀ te, newRows H te x = some rs := fun te => newRows_of hrs
        have h1 : ¬ (maxBytes < rs.length * 8) := Nat.not_lt.2 hc.1.2
        have h2 : ¬ (maxBytes < rs.length) := Nat.not_lt.2 hc.2
        have h3 : rs.all (fun r => r.length == 1) = true := hc.1.1
        have h4 : rs.length ≠ 0 := fun e => hne (List.eq_nil_of_length_eq_zero e)
        refine ⟨20, ?_⟩
        simp (config := {dsimp := false}) only [go_sem, hnr, reduceIte, Nat.reduceEqDiff, reduceCtorEq, gt_iff_lt, h1, h2, h3, h4, or_self, Bool.and_self]
        refine ⟨_, rfl, ?_⟩
        rfl
      · cases h
    · cases h
theorem clone76 : ∀ args H v ch, cloneA 4 48 H.length args H = some (v, ch) → ∀ (w : World) (X : Nat → Prop) (β : Beta) (vs : Array Value), HRel w X β H → ARel w (NN X β H) β args vs → CallsIn (WF none) 0 Try.prog 76 vs w (Clk.Ends w X β H v (applyCh H ch)) := by
  refine clone_gen good Try.func76 (by rfl) (by rfl) (by rfl) (by rfl) (by rfl) (by rfl) (by rfl) (by rfl) (by rfl) Try.underlying27 (fun x H => ⟨20, ?_⟩) (fun x H => ⟨20, ?_⟩) (fun x H v ch h => ?_)
  · simp (config := {dsimp := false}) only [go_sem]
  · simp (config := {dsimp := false}) only [go_sem]
  · unfold cloneA at h
    simp only at h
    split at h
    · rename_i hrs
      cases h
      have hnr : ∀ te, newRows H te x = some [] := fun te => newRows_of hrs
      refine ⟨20, ?_⟩
      simp (config := {dsimp := false}) only [go_sem, hnr, reduceIte, Nat.reduceEqDiff, reduceCtorEq, Nat.zero_mul, Nat.not_lt_zero, gt_iff_lt, or_self, Nat.zero_le]
      refine ⟨_, rfl, ?_⟩
      rfl
    · rename_i rs hne hrs
      split at h
      · rename_i hc
        cases h
        simp only [Bool.and_eq_true, decide_eq_true_eq] at hc
        have hnr : ∀ te, newRows H te x = some rs := fun te => newRows_of hrs
        have h1 : ¬ (maxBytes < rs.length * 48) := Nat.not_lt.2 hc.1.2
        have h2 : ¬ (maxBytes < rs.length) := Nat.not_lt.2 hc.2
        have h3 : rs.all (fun r => r.length == 4) = true := hc.1.1
        have h4 : rs.length ≠ 0 := fun e => hne (List.eq_nil_of_length_eq_zero e)
        refine ⟨20, ?_⟩
        simp (config := {dsimp := false}) only [go_sem, hnr, reduceIte, Nat.reduceEqDiff, reduceCtorEq, gt_iff_lt, h1, h2, h3, h4, or_self, Bool.and_self]
        refine ⟨_, rfl, ?_⟩
        rfl
      · cases h
    · cases h
theorem clone77 : ∀ args H v ch, cloneA 3 40 H.length args H = some (v, ch) → ∀ (w : World) (X : Nat → Prop) (β : Beta) (vs : Array Value), HRel w X β H → ARel w (NN X β H) β args vs → CallsIn (WF none) 0 Try.prog 77 vs w (Clk.Ends w X β H v (applyCh H ch)) := by
  refine clone_gen good Try.func77 (by rfl) (by rfl) (by rfl) (by rfl) (by rfl) (by rfl) (by rfl) (by rfl) (by rfl) Try.underlying73 (fun x H => ⟨20, ?_⟩) (fun x H => ⟨20, ?_⟩) (fun x H v ch h => ?_)
  · simp (config := {dsimp := false}) only [go_sem]
  · simp (config := {dsimp := false}) only [go_sem]
  · unfold cloneA at h
    simp only at h
    split at h
    · rename_i hrs
      cases h
      have hnr : ∀ te, newRows H te x = some [] := fun te => newRows_of hrs
      refine ⟨20, ?_⟩
      simp (config := {dsimp := false}) only [go_sem, hnr, reduceIte, Nat.reduceEqDiff, reduceCtorEq, Nat.zero_mul, Nat.not_lt_zero, gt_iff_lt, or_self, Nat.zero_le]
      refine ⟨_, rfl, ?_⟩
      rfl
    · rename_i rs hne hrs
      split at h
      · rename_i hc
        cases h
        simp only [Bool.and_eq_true, decide_eq_true_eq] at hc
        have hnr : ∀ te, newRows H te x = some rs := fun te => newRows_of hrs
        have h1 : ¬ (maxBytes < rs.length * 40) := Nat.not_lt.2 hc.1.2
        have h2 : ¬ (maxBytes < rs.length) := Nat.not_lt.2 hc.2
        have h3 : rs.all (fun r => r.length == 3) = true := hc.1.1
        have h4 : rs.length ≠ 0 := fun e => hne (List.eq_nil_of_length_eq_zero e)
        refine ⟨20, ?_⟩
        simp (config := {dsimp := false}) only [go_sem, hnr, reduceIte, Nat.reduceEqDiff, reduceCtorEq, gt_iff_lt, h1, h2, h3, h4, or_self, Bool.and_self]
        refine ⟨_, rfl, ?_⟩
        rfl
      · cases h
    · cases h
def primW : FuncId → Option (Nat → List AV → List AO → Res) := fun f => if f = 59 then some (cloneA 1 8) else if f = 76 then some (cloneA 4 48) else if f = 77 then some (cloneA 3 40) else none
theorem primW_ok : PrimOk Try.prog primW := by
  intro f h e
  unfold primW at e
  split at e
  · rename_i hf; subst hf; cases e
    exact ⟨⟨_, Try.func59, by rfl⟩, clone59⟩
  · split at e
    · rename_i hf; subst hf; cases e
      exact ⟨⟨_, Try.func76, by rfl⟩, clone76⟩
    · split at e
      · rename_i hf; subst hf; cases e
        exact ⟨⟨_, Try.func77, by rfl⟩, clone77⟩
      · cases e
end Go.Proofs.Ytflcnadgmlebcaa
namespace Go.Proofs.Ytflcnadgmlebcaa
open Clk Go.Proofs
theorem prim_eq : seat.prim = primW := by
  funext f
  by_cases h : f < 115
  · have key : (List.range 115).map seat.prim = (List.range 115).map primW := by kernel_rfl
    have := congrArg (fun l => l[f]?) key
    simp only [List.getElem?_map, List.getElem?_range h, Option.map_some] at this
    exact Option.some.inj this
  · have h' : 115 ≤ f := Nat.le_of_not_lt h
    have hl : seat.cl.length = 115 := by kernel_rfl
    have h1 : seat.cl.length ≤ f := Nat.le_trans (Nat.le_of_eq hl) h'
    have n1 : f ≠ 59 := fun e => absurd (e ▸ h') (by decide)
    have n2 : f ≠ 76 := fun e => absurd (e ▸ h') (by decide)
    have n3 : f ≠ 77 := fun e => absurd (e ▸ h') (by decide)
    unfold Seat.prim primW
    rw [List.getD_eq_getElem?_getD, List.getElem?_eq_none h1, if_neg n1, if_neg n2, if_neg n3]
    rfl
theorem primOk : PrimOk Try.prog seat.prim := by rw [prim_eq]; exact primW_ok
end Go.Proofs.Ytflcnadgmlebcaa
namespace Clk.Ytflcnadgmlebcaa
open Go Go.Proofs Go.Proofs.Ytflcnadgmlebcaa
set_option maxRecDepth 1000000
set_option linter.unusedVariables false
noncomputable def LN : List (FuncId × Spec) := []
theorem ok_N : OrcOk Try.prog (orcOf LN) := specs_nil
noncomputable def tm_ref14_Fits : Nat → Option Tmpl := fun _ => none
noncomputable def gh_ref14_Fits : Nat → Nat → Option (Nat × Nat) := fun _ _ => none
theorem t_ref14_Fits (N : Nat) (a0 : Geometry) : symF (seat.mk' (spOf LN) tm_ref14_Fits gh_ref14_Fits) N 400 38 [.geometry] [.bool] a0 = G_ref14_Fits a0 := by kernel_rfl
noncomputable def L_ref14_Fits : List (FuncId × Spec) := (38, ⟨[.geometry], [.bool], S_ref14_Fits⟩) :: LN
theorem ok_ref14_Fits : OrcOk Try.prog (orcOf L_ref14_Fits) := specs_cons sseat good primOk ok_N (by kernel_rfl) ⟨_, Try.func38, by rfl⟩ (tm := tm_ref14_Fits) (gh := gh_ref14_Fits) fun x y h => ⟨0, 400, (t_ref14_Fits 0 x).trans h⟩
noncomputable def tm_ref07_Apply : Nat → Option Tmpl := fun cx => cond (Nat.beq cx 1) (some ⟨[], [], 92, [.raw 2 1, .st .found, .raw 2 1, .dead, .dead, .blk .i 0 false, .dead, .dead, .blk .i 0 false, .dead, .raw 2 1, .dead], [J, J, .fix (.ptr 0 0 0 0), .fix (.ptr 1 0 0 0), .fix (.ptr 2 0 0 0), .fix (.ptr 10 0 0 0), .var .i, J, .fix (.ptr 0 0 0 0), J, .fix (.bref 5 0), .fix (.ptr 0 0 0 1), J, .fix (.bref 8 0), J, J, J, J, J, J, J, J, J, J, J, J, J, J, J, J, J, J, J, J, J, J, J, J, J, J, J, J, J, J, J, J, J, J, J, J, J, J, J, J, J, J, J, J, J, J, J, J, J, J, J, J, J, J, J, J, J, J, J, J, J, J, J, J, J, J, J, J, J, J, J, J, J, J, J, J, J, J, J, J, .agg .found, J, J, .var (.list .i), .var (.list .i), .fix (.bref 5 0), .fix (.bref 8 0)], [], []⟩) <| none
noncomputable def gh_ref07_Apply : Nat → Nat → Option (Nat × Nat) := fun _ _ => none
theorem t_ref07_Apply (N : Nat) (a0 : Table) (a1 : Found) : symF (seat.mk' (spOf L_ref14_Fits) tm_ref07_Apply gh_ref07_Apply) N 400 29 [.table, .found] [.table] (a0, a1) = G_ref07_Apply N a0 a1 := by kernel_rfl
noncomputable def L_ref07_Apply : List (FuncId × Spec) := (29, ⟨[.table, .found], [.table], S_ref07_Apply⟩) :: L_ref14_Fits
theorem ok_ref07_Apply : OrcOk Try.prog (orcOf L_ref07_Apply) := specs_cons sseat good primOk ok_ref14_Fits (by kernel_rfl) ⟨_, Try.func29, by rfl⟩ (tm := tm_ref07_Apply) (gh := gh_ref07_Apply) fun x y h => by obtain ⟨N, h⟩ := lim_spec h; exact ⟨N, 400, (t_ref07_Apply N x.1 x.2).trans h⟩
noncomputable def tm_ref07_New : Nat → Option Tmpl := fun cx => cond (Nat.beq cx 1) (some ⟨[.cell 1 0 0 .i, .cell 1 0 1 .i], [(2, .i), (3, .i)], 25, [.raw 2 1, .raw 2 1, .dead, .dead, .blk .i 0 true, .blk .i 0 true], [.var .i, J, .fix (.ptr 0 0 0 0), .fix (.ptr 1 0 0 0), .var .i, J, J, J, J, J, J, J, J, J, J, J, J, J, J, J, J, J, J, J, J, J, J, .fix (.bref 4 0), .fix (.bref 5 0), .var (.list .i), .var (.list .i)], [], []⟩) <| none
noncomputable def gh_ref07_New : Nat → Nat → Option (Nat × Nat) := fun _ _ => none
theorem t_ref07_New (N : Nat) (a0 : Int) : symF (seat.mk' (spOf L_ref07_Apply) tm_ref07_New gh_ref07_New) N 400 62 [.i] [.table] a0 = G_ref07_New N a0 := by kernel_rfl
noncomputable def L_ref07_New : List (FuncId × Spec) := (62, ⟨[.i], [.table], S_ref07_New⟩) :: L_ref07_Apply
theorem ok_ref07_New : OrcOk Try.prog (orcOf L_ref07_New) := specs_cons sseat good primOk ok_ref07_Apply (by kernel_rfl) ⟨_, Try.func62, by rfl⟩ (tm := tm_ref07_New) (gh := gh_ref07_New) fun x y h => by obtain ⟨N, h⟩ := lim_spec h; exact ⟨N, 400, (t_ref07_New N x).trans h⟩
noncomputable def tm_ref03_keys : Nat → Option Tmpl := fun cx => cond (Nat.beq cx 1) (some ⟨[], [], 46, [], [.var (.list .i), J, J, .var .i, J, J, J, J, J, J, J, J, J, J, J, J, J, J, J, J, J, J, J, J, J, J, J, J, J, J, J, J, J, J, J, J, J, J, J, J, J, J, J, J, J, J], [], []⟩) <| none
noncomputable def gh_ref03_keys : Nat → Nat → Option (Nat × Nat) := fun _ _ => none
theorem t_ref03_keys (N : Nat) (a0 : (List Int)) : symF (seat.mk' (spOf L_ref07_New) tm_ref03_keys gh_ref03_keys) N 400 80 [(.list .i)] [.bool] a0 = G_ref03_keys N a0 := by kernel_rfl
noncomputable def L_ref03_keys : List (FuncId × Spec) := (80, ⟨[(.list .i)], [.bool], S_ref03_keys⟩) :: L_ref07_New
theorem ok_ref03_keys : OrcOk Try.prog (orcOf L_ref03_keys) := specs_cons sseat good primOk ok_ref07_New (by kernel_rfl) ⟨_, Try.func80, by rfl⟩ (tm := tm_ref03_keys) (gh := gh_ref03_keys) fun x y h => by obtain ⟨N, h⟩ := lim_spec h; exact ⟨N, 400, (t_ref03_keys N x).trans h⟩
noncomputable def tm_ref03_Right : Nat → Option Tmpl := fun cx => cond (Nat.beq cx 26) (some ⟨[], [], 58, [.st .record], [J, .fix (.ptr 0 0 0 0), J, .var .i, .fix (.ptr 0 0 0 1), J, J, J, .fix (.ptr 0 0 0 1), J, J, J, J, .fix (.ptr 0 0 0 2), J, J, J, J, .fix (.ptr 0 0 0 0), J, J, J, J, J, J, J, J, J, J, J, J, J, J, J, J, J, J, J, J, J, J, J, J, J, J, J, J, J, J, J, J, J, J, J, J, J, J, J, .agg .record], [], []⟩) <| none
noncomputable def gh_ref03_Right : Nat → Nat → Option (Nat × Nat) := fun _ _ => none
theorem t_ref03_Right (N : Nat) (a0 : Record) : symF (seat.mk' (spOf L_ref03_keys) tm_ref03_Right gh_ref03_Right) N 400 65 [.record] [.bool] a0 = G_ref03_Right N a0 := by kernel_rfl
noncomputable def L_ref03_Right : List (FuncId × Spec) := (65, ⟨[.record], [.bool], S_ref03_Right⟩) :: L_ref03_keys
theorem ok_ref03_Right : OrcOk Try.prog (orcOf L_ref03_Right) := specs_cons sseat good primOk ok_ref03_keys (by kernel_rfl) ⟨_, Try.func65, by rfl⟩ (tm := tm_ref03_Right) (gh := gh_ref03_Right) fun x y h => by obtain ⟨N, h⟩ := lim_spec h; exact ⟨N, 400, (t_ref03_Right N x).trans h⟩
noncomputable def tm_ref02_Put : Nat → Option Tmpl := fun cx => cond (Nat.beq cx 6) (some ⟨[], [], 28, [], [.var .i, J, J, .var .str, J, J, J, J, J, J, J, J, J, J, J, J, J, J, J, J, J, J, J, J, J, J, J, J], [], []⟩) <| none
noncomputable def gh_ref02_Put : Nat → Nat → Option (Nat × Nat) := fun _ _ => none
theorem t_ref02_Put (N : Nat) (a0 : Int) : symF (seat.mk' (spOf L_ref03_Right) tm_ref02_Put gh_ref02_Put) N 400 91 [.i] [.str] a0 = G_ref02_Put N a0 := by kernel_rfl
noncomputable def L_ref02_Put : List (FuncId × Spec) := (91, ⟨[.i], [.str], S_ref02_Put⟩) :: L_ref03_Right
theorem ok_ref02_Put : OrcOk Try.prog (orcOf L_ref02_Put) := specs_cons sseat good primOk ok_ref03_Right (by kernel_rfl) ⟨_, Try.func91, by rfl⟩ (tm := tm_ref02_Put) (gh := gh_ref02_Put) fun x y h => by obtain ⟨N, h⟩ := lim_spec h; exact ⟨N, 400, (t_ref02_Put N x).trans h⟩
noncomputable def tm_ref02_Pack : Nat → Option Tmpl := fun cx => cond (Nat.beq cx 1) (some ⟨[], [], 27, [], [.var (.list .i), J, J, J, .var .str, .var .i, J, J, J, J, J, J, J, J, J, J, J, J, J, J, J, J, J, J, J, J, J], [], []⟩) <| none
noncomputable def gh_ref02_Pack : Nat → Nat → Option (Nat × Nat) := fun _ _ => none
theorem t_ref02_Pack (N : Nat) (a0 : (List Int)) : symF (seat.mk' (spOf L_ref02_Put) tm_ref02_Pack gh_ref02_Pack) N 400 81 [(.list .i)] [.str, .i] a0 = G_ref02_Pack N a0 := by kernel_rfl
noncomputable def L_ref02_Pack : List (FuncId × Spec) := (81, ⟨[(.list .i)], [.str, .i], S_ref02_Pack⟩) :: L_ref02_Put
theorem ok_ref02_Pack : OrcOk Try.prog (orcOf L_ref02_Pack) := specs_cons sseat good primOk ok_ref02_Put (by kernel_rfl) ⟨_, Try.func81, by rfl⟩ (tm := tm_ref02_Pack) (gh := gh_ref02_Pack) fun x y h => by obtain ⟨N, h⟩ := lim_spec h; exact ⟨N, 400, (t_ref02_Pack N x).trans h⟩
noncomputable def tm_ref03_body : Nat → Option Tmpl := fun cx => cond (Nat.beq cx 1) (some ⟨[.tmp 4 .i], [(2, .i)], 54, [.st .record, .blk .i 0 false, .dead, .blk .i 0 true], [J, .fix (.ptr 0 0 0 0), J, .fix (.bref 1 0), .fix (.bref 3 0), .var .i, J, J, J, J, J, J, .fix (.ptr 0 0 0 0), J, .fix (.ptr 0 0 0 1), J, .fix (.bref 1 0), J, J, J, J, J, J, J, J, J, J, J, J, J, J, J, J, J, J, J, J, J, J, J, J, J, J, J, J, J, J, J, J, J, J, J, J, J, .agg .record, .var (.list .i), .var (.list .i)], [], []⟩) <| none
noncomputable def gh_ref03_body : Nat → Nat → Option (Nat × Nat) := fun _ _ => none
theorem t_ref03_body (N : Nat) (a0 : Record) : symF (seat.mk' (spOf L_ref02_Pack) tm_ref03_body gh_ref03_body) N 400 66 [.record] [.str] a0 = G_ref03_body N a0 := by kernel_rfl
noncomputable def L_ref03_body : List (FuncId × Spec) := (66, ⟨[.record], [.str], S_ref03_body⟩) :: L_ref02_Pack
theorem ok_ref03_body : OrcOk Try.prog (orcOf L_ref03_body) := specs_cons sseat good primOk ok_ref02_Pack (by kernel_rfl) ⟨_, Try.func66, by rfl⟩ (tm := tm_ref03_body) (gh := gh_ref03_body) fun x y h => by obtain ⟨N, h⟩ := lim_spec h; exact ⟨N, 400, (t_ref03_body N x).trans h⟩
noncomputable def tm_ref01_Bytes : Nat → Option Tmpl := fun _ => none
noncomputable def gh_ref01_Bytes : Nat → Nat → Option (Nat × Nat) := fun _ _ => none
theorem t_ref01_Bytes (N : Nat) (a0 : Int) : symF (seat.mk' (spOf L_ref03_body) tm_ref01_Bytes gh_ref01_Bytes) N 400 67 [.i] [.str] a0 = G_ref01_Bytes a0 := by kernel_rfl
noncomputable def L_ref01_Bytes : List (FuncId × Spec) := (67, ⟨[.i], [.str], S_ref01_Bytes⟩) :: L_ref03_body
theorem ok_ref01_Bytes : OrcOk Try.prog (orcOf L_ref01_Bytes) := specs_cons sseat good primOk ok_ref03_body (by kernel_rfl) ⟨_, Try.func67, by rfl⟩ (tm := tm_ref01_Bytes) (gh := gh_ref01_Bytes) fun x y h => ⟨0, 400, (t_ref01_Bytes 0 x).trans h⟩
noncomputable def tm_ref01_step : Nat → Option Tmpl := fun _ => none
noncomputable def gh_ref01_step : Nat → Nat → Option (Nat × Nat) := fun _ _ => none
theorem t_ref01_step (N : Nat) (a0 : Int) : symF (seat.mk' (spOf L_ref01_Bytes) tm_ref01_step gh_ref01_step) N 400 82 [.i] [.i] a0 = G_ref01_step a0 := by kernel_rfl
noncomputable def L_ref01_step : List (FuncId × Spec) := (82, ⟨[.i], [.i], S_ref01_step⟩) :: L_ref01_Bytes
theorem ok_ref01_step : OrcOk Try.prog (orcOf L_ref01_step) := specs_cons sseat good primOk ok_ref01_Bytes (by kernel_rfl) ⟨_, Try.func82, by rfl⟩ (tm := tm_ref01_step) (gh := gh_ref01_step) fun x y h => ⟨0, 400, (t_ref01_step 0 x).trans h⟩
noncomputable def tm_ref01_Sum : Nat → Option Tmpl := fun cx => cond (Nat.beq cx 1) (some ⟨[], [], 26, [], [.var .str, J, J, .var .i, .var .i, J, J, J, J, J, J, J, J, J, J, J, J, J, J, J, J, J, J, J, J, J], [], []⟩) <| cond (Nat.beq cx 29) (some ⟨[], [], 26, [], [.var .str, J, J, .var .i, .var .i, .var .i, J, J, J, J, J, J, J, J, J, J, J, J, J, J, J, J, J, J, J, J], [], []⟩) <| none
noncomputable def gh_ref01_Sum : Nat → Nat → Option (Nat × Nat) := fun _ _ => none
theorem t_ref01_Sum (N : Nat) (a0 : Str) : symF (seat.mk' (spOf L_ref01_step) tm_ref01_Sum gh_ref01_Sum) N 400 68 [.str] [.i] a0 = G_ref01_Sum N a0 := by kernel_rfl
noncomputable def L_ref01_Sum : List (FuncId × Spec) := (68, ⟨[.str], [.i], S_ref01_Sum⟩) :: L_ref01_step
theorem ok_ref01_Sum : OrcOk Try.prog (orcOf L_ref01_Sum) := specs_cons sseat good primOk ok_ref01_step (by kernel_rfl) ⟨_, Try.func68, by rfl⟩ (tm := tm_ref01_Sum) (gh := gh_ref01_Sum) fun x y h => by obtain ⟨N, h⟩ := lim_spec h; exact ⟨N, 400, (t_ref01_Sum N x).trans h⟩
noncomputable def tm_ref03_Encode : Nat → Option Tmpl := fun _ => none
noncomputable def gh_ref03_Encode : Nat → Nat → Option (Nat × Nat) := fun _ _ => none
theorem t_ref03_Encode (N : Nat) (a0 : Record) (a1 : Str) : symF (seat.mk' (spOf L_ref01_Sum) tm_ref03_Encode gh_ref03_Encode) N 400 49 [.record, .str] [.str, .i] (a0, a1) = G_ref03_Encode a0 a1 := by kernel_rfl
noncomputable def L_ref03_Encode : List (FuncId × Spec) := (49, ⟨[.record, .str], [.str, .i], S_ref03_Encode⟩) :: L_ref01_Sum
theorem ok_ref03_Encode : OrcOk Try.prog (orcOf L_ref03_Encode) := specs_cons sseat good primOk ok_ref01_Sum (by kernel_rfl) ⟨_, Try.func49, by rfl⟩ (tm := tm_ref03_Encode) (gh := gh_ref03_Encode) fun x y h => ⟨0, 400, (t_ref03_Encode 0 x.1 x.2).trans h⟩
noncomputable def tm_ref02_Take : Nat → Option Tmpl := fun cx => cond (Nat.beq cx 1) (some ⟨[], [], 48, [], [.var .str, J, J, J, J, .var .i, .var .i, .var .i, J, J, J, J, J, J, J, J, J, J, J, J, J, J, J, J, J, J, J, J, J, J, J, J, J, J, J, J, J, J, J, J, J, J, J, J, J, J, J, J], [], []⟩) <| none
noncomputable def gh_ref02_Take : Nat → Nat → Option (Nat × Nat) := fun _ _ => none
theorem t_ref02_Take (N : Nat) (a0 : Str) : symF (seat.mk' (spOf L_ref03_Encode) tm_ref02_Take gh_ref02_Take) N 400 78 [.str] [.i, .str, .bool] a0 = G_ref02_Take N a0 := by kernel_rfl
noncomputable def L_ref02_Take : List (FuncId × Spec) := (78, ⟨[.str], [.i, .str, .bool], S_ref02_Take⟩) :: L_ref03_Encode
theorem ok_ref02_Take : OrcOk Try.prog (orcOf L_ref02_Take) := specs_cons sseat good primOk ok_ref03_Encode (by kernel_rfl) ⟨_, Try.func78, by rfl⟩ (tm := tm_ref02_Take) (gh := gh_ref02_Take) fun x y h => by obtain ⟨N, h⟩ := lim_spec h; exact ⟨N, 400, (t_ref02_Take N x).trans h⟩
noncomputable def tm_ref02_Unpack : Nat → Option Tmpl := fun cx => cond (Nat.beq cx 6) (some ⟨[.tmp 8 .i], [(0, .i)], 47, [.dead, .blk .i 0 true], [J, J, J, J, J, .var .i, .var .str, J, .fix (.bref 1 0), .var .i, J, J, J, J, J, J, J, J, J, J, J, J, J, J, J, J, J, J, J, J, J, J, J, J, J, J, J, J, J, J, J, J, J, J, J, J, J, .var (.list .i)], [], []⟩) <| none
noncomputable def gh_ref02_Unpack : Nat → Nat → Option (Nat × Nat) := fun _ _ => none
theorem t_ref02_Unpack (N : Nat) (a0 : Str) : symF (seat.mk' (spOf L_ref02_Take) tm_ref02_Unpack gh_ref02_Unpack) N 400 61 [.str] [(.list .i), .str, .i] a0 = G_ref02_Unpack N a0 := by kernel_rfl
noncomputable def L_ref02_Unpack : List (FuncId × Spec) := (61, ⟨[.str], [(.list .i), .str, .i], S_ref02_Unpack⟩) :: L_ref02_Take
theorem ok_ref02_Unpack : OrcOk Try.prog (orcOf L_ref02_Unpack) := specs_cons sseat good primOk ok_ref02_Take (by kernel_rfl) ⟨_, Try.func61, by rfl⟩ (tm := tm_ref02_Unpack) (gh := gh_ref02_Unpack) fun x y h => by obtain ⟨N, h⟩ := lim_spec h; exact ⟨N, 400, (t_ref02_Unpack N x).trans h⟩
noncomputable def tm_ref03_Decode : Nat → Option Tmpl := fun cx => cond (Nat.beq cx 6) (some ⟨[.cell 9 0 3 .i], [(11, .i)], 91, [.raw 4 1, .dead, .dead, .dead, .dead, .dead, .dead, .dead, .dead, .raw 4 1, .dead, .dead, .blk .i 0 true], [.var .str, .var .str, J, J, .fix (.ptr 0 0 0 0), J, J, J, J, J, J, .var (.list .i), J, J, .fix (.ptr 9 0 0 0), .var .i, J, J, J, J, J, J, J, J, J, J, J, J, J, J, J, J, J, J, J, J, J, J, J, J, J, J, J, J, J, J, J, J, J, J, J, J, J, J, J, J, J, J, J, J, J, J, J, J, J, J, J, J, J, J, J, J, J, J, J, J, J, J, J, J, J, J, J, J, J, J, J, J, J, J, J, J, J, J, J, .var .i, .var .i, .var (.list .i), .fix (.bref 12 0), .var (.list .i)], [], []⟩) <| none
noncomputable def gh_ref03_Decode : Nat → Nat → Option (Nat × Nat) := fun _ _ => none
theorem t_ref03_Decode (N : Nat) (a0 : Str) (a1 : Str) : symF (seat.mk' (spOf L_ref02_Unpack) tm_ref03_Decode gh_ref03_Decode) N 400 37 [.str, .str] [.record, .i] (a0, a1) = G_ref03_Decode N a0 a1 := by kernel_rfl
noncomputable def L_ref03_Decode : List (FuncId × Spec) := (37, ⟨[.str, .str], [.record, .i], S_ref03_Decode⟩) :: L_ref02_Unpack
theorem ok_ref03_Decode : OrcOk Try.prog (orcOf L_ref03_Decode) := specs_cons sseat good primOk ok_ref02_Unpack (by kernel_rfl) ⟨_, Try.func37, by rfl⟩ (tm := tm_ref03_Decode) (gh := gh_ref03_Decode) fun x y h => by obtain ⟨N, h⟩ := lim_spec h; exact ⟨N, 400, (t_ref03_Decode N x.1 x.2).trans h⟩
noncomputable def tm_ref04_Look : Nat → Option Tmpl := fun _ => none
noncomputable def gh_ref04_Look : Nat → Nat → Option (Nat × Nat) := fun _ _ => none
theorem t_ref04_Look (N : Nat) (a0 : Page) : symF (seat.mk' (spOf L_ref03_Decode) tm_ref04_Look gh_ref04_Look) N 400 14 [.page] [.i, .record] a0 = G_ref04_Look a0 := by kernel_rfl
noncomputable def L_ref04_Look : List (FuncId × Spec) := (14, ⟨[.page], [.i, .record], S_ref04_Look⟩) :: L_ref03_Decode
theorem ok_ref04_Look : OrcOk Try.prog (orcOf L_ref04_Look) := specs_cons sseat good primOk ok_ref03_Decode (by kernel_rfl) ⟨_, Try.func14, by rfl⟩ (tm := tm_ref04_Look) (gh := gh_ref04_Look) fun x y h => ⟨0, 400, (t_ref04_Look 0 x).trans h⟩
noncomputable def tm_ref06_Place : Nat → Option Tmpl := fun _ => none
noncomputable def gh_ref06_Place : Nat → Nat → Option (Nat × Nat) := fun _ _ => none
theorem t_ref06_Place (N : Nat) (a0 : Int) (a1 : Int) : symF (seat.mk' (spOf L_ref04_Look) tm_ref06_Place gh_ref06_Place) N 400 30 [.i, .i] [.i] (a0, a1) = G_ref06_Place a0 a1 := by kernel_rfl
noncomputable def L_ref06_Place : List (FuncId × Spec) := (30, ⟨[.i, .i], [.i], S_ref06_Place⟩) :: L_ref04_Look
theorem ok_ref06_Place : OrcOk Try.prog (orcOf L_ref06_Place) := specs_cons sseat good primOk ok_ref04_Look (by kernel_rfl) ⟨_, Try.func30, by rfl⟩ (tm := tm_ref06_Place) (gh := gh_ref06_Place) fun x y h => ⟨0, 400, (t_ref06_Place 0 x.1 x.2).trans h⟩
noncomputable def tm_ref06_ahead : Nat → Option Tmpl := fun _ => none
noncomputable def gh_ref06_ahead : Nat → Nat → Option (Nat × Nat) := fun _ _ => none
theorem t_ref06_ahead (N : Nat) (a0 : Found) (a1 : Found) : symF (seat.mk' (spOf L_ref06_Place) tm_ref06_ahead gh_ref06_ahead) N 400 90 [.found, .found] [.bool] (a0, a1) = G_ref06_ahead a0 a1 := by kernel_rfl
noncomputable def L_ref06_ahead : List (FuncId × Spec) := (90, ⟨[.found, .found], [.bool], S_ref06_ahead⟩) :: L_ref06_Place
theorem ok_ref06_ahead : OrcOk Try.prog (orcOf L_ref06_ahead) := specs_cons sseat good primOk ok_ref06_Place (by kernel_rfl) ⟨_, Try.func90, by rfl⟩ (tm := tm_ref06_ahead) (gh := gh_ref06_ahead) fun x y h => ⟨0, 400, (t_ref06_ahead 0 x.1 x.2).trans h⟩
noncomputable def tm_ref06_put : Nat → Option Tmpl := fun cx => cond (Nat.beq cx 1) (some ⟨[.tmp 5 .found], [(1, .found)], 42, [.st .found, .dead, .blk .found 0 true], [.var (.list .found), J, J, .fix (.ptr 0 0 0 0), J, .fix (.bref 2 0), .var .bool, .var .i, J, J, J, J, J, J, J, J, J, J, J, J, J, J, J, J, J, J, J, J, J, J, J, J, J, J, J, J, J, J, J, J, J, J, .agg .found, .var (.list .found)], [], []⟩) <| none
noncomputable def gh_ref06_put : Nat → Nat → Option (Nat × Nat) := fun _ _ => none
theorem t_ref06_put (N : Nat) (a0 : (List Found)) (a1 : Found) : symF (seat.mk' (spOf L_ref06_ahead) tm_ref06_put gh_ref06_put) N 400 79 [(.list .found), .found] [(.list .found)] (a0, a1) = G_ref06_put N a0 a1 := by kernel_rfl
noncomputable def L_ref06_put : List (FuncId × Spec) := (79, ⟨[(.list .found), .found], [(.list .found)], S_ref06_put⟩) :: L_ref06_ahead
theorem ok_ref06_put : OrcOk Try.prog (orcOf L_ref06_put) := specs_cons sseat good primOk ok_ref06_ahead (by kernel_rfl) ⟨_, Try.func79, by rfl⟩ (tm := tm_ref06_put) (gh := gh_ref06_put) fun x y h => by obtain ⟨N, h⟩ := lim_spec h; exact ⟨N, 400, (t_ref06_put N x.1 x.2).trans h⟩
noncomputable def tm_ref06_All : Nat → Option Tmpl := fun cx => cond (Nat.beq cx 1) (some ⟨[], [], 55, [.st .chip], [J, .fix (.ptr 0 0 0 0), J, .var (.list .found), .var .i, J, J, J, J, J, J, J, J, J, J, J, J, J, J, J, J, J, J, J, J, J, J, J, J, J, J, J, J, J, J, J, J, J, J, J, J, J, J, J, J, J, J, J, J, J, J, J, J, J, J, .agg .chip], [], []⟩) <| cond (Nat.beq cx 29) (some ⟨[], [], 55, [.st .chip], [J, .fix (.ptr 0 0 0 0), J, .var (.list .found), .var .i, .var .i, J, J, J, J, .fix (.ptr 0 0 0 0), J, J, J, J, J, J, J, J, J, J, J, J, J, J, J, J, J, J, J, J, J, J, J, J, J, J, J, J, J, J, J, J, J, J, J, J, J, J, J, J, J, J, J, J, .agg .chip], [], []⟩) <| none
noncomputable def gh_ref06_All : Nat → Nat → Option (Nat × Nat) := fun _ _ => none
theorem t_ref06_All (N : Nat) (a0 : Chip) : symF (seat.mk' (spOf L_ref06_put) tm_ref06_All gh_ref06_All) N 400 63 [.chip] [(.list .found)] a0 = G_ref06_All N a0 := by kernel_rfl
noncomputable def L_ref06_All : List (FuncId × Spec) := (63, ⟨[.chip], [(.list .found)], S_ref06_All⟩) :: L_ref06_put
theorem ok_ref06_All : OrcOk Try.prog (orcOf L_ref06_All) := specs_cons sseat good primOk ok_ref06_put (by kernel_rfl) ⟨_, Try.func63, by rfl⟩ (tm := tm_ref06_All) (gh := gh_ref06_All) fun x y h => by obtain ⟨N, h⟩ := lim_spec h; exact ⟨N, 400, (t_ref06_All N x).trans h⟩
noncomputable def tm_ref07_Replay : Nat → Option Tmpl := fun cx => cond (Nat.beq cx 1) (some ⟨[], [], 37, [.raw 4 1, .raw 2 1, .st .table], [J, J, .fix (.ptr 0 0 0 0), J, .fix (.ptr 1 0 0 0), J, .fix (.ptr 2 0 0 0), .var (.list .found), .var .i, .var .i, J, J, J, J, J, J, J, J, J, J, J, J, J, J, J, J, J, J, J, J, J, J, J, J, J, J, J, J, J, J, J, J, J, .agg .table], [], []⟩) <| none
noncomputable def gh_ref07_Replay : Nat → Nat → Option (Nat × Nat) := fun _ _ => none
theorem t_ref07_Replay (N : Nat) (a0 : Chip) (a1 : Int) : symF (seat.mk' (spOf L_ref06_All) tm_ref07_Replay gh_ref07_Replay) N 400 39 [.chip, .i] [.table, .i] (a0, a1) = G_ref07_Replay N a0 a1 := by kernel_rfl
noncomputable def L_ref07_Replay : List (FuncId × Spec) := (39, ⟨[.chip, .i], [.table, .i], S_ref07_Replay⟩) :: L_ref06_All
theorem ok_ref07_Replay : OrcOk Try.prog (orcOf L_ref07_Replay) := specs_cons sseat good primOk ok_ref06_All (by kernel_rfl) ⟨_, Try.func39, by rfl⟩ (tm := tm_ref07_Replay) (gh := gh_ref07_Replay) fun x y h => by obtain ⟨N, h⟩ := lim_spec h; exact ⟨N, 400, (t_ref07_Replay N x.1 x.2).trans h⟩
noncomputable def tm_ref05_On : Nat → Option Tmpl := fun cx => cond (Nat.beq cx 1) (some ⟨[.tmp 3 .block], [(4, .block)], 29, [.raw 4 1, .raw 4 1, .st .chip, .raw 4 1, .dead, .nst true 0 true], [J, .fix (.ptr 2 0 0 0), .fix (.ptr 3 0 0 0), .fix (.bref 5 0), .var .i, J, J, J, J, J, J, J, J, J, J, J, J, J, J, J, J, J, J, J, J, J, J, J, J, J, J, J, J, J, J, J, J, .agg .chip, J, J, J, J, .var (.list .block)], [.nest 5 true], [.abs 5]⟩) <| none
noncomputable def gh_ref05_On : Nat → Nat → Option (Nat × Nat) := fun _ _ => none
theorem t_ref05_On (N : Nat) (a0 : Chip) : symF (seat.mk' (spOf L_ref07_Replay) tm_ref05_On gh_ref05_On) N 400 40 [.chip] [.chip] a0 = G_ref05_On N a0 := by kernel_rfl
noncomputable def L_ref05_On : List (FuncId × Spec) := (40, ⟨[.chip], [.chip], S_ref05_On⟩) :: L_ref07_Replay
theorem ok_ref05_On : OrcOk Try.prog (orcOf L_ref05_On) := specs_cons sseat good primOk ok_ref07_Replay (by kernel_rfl) ⟨_, Try.func40, by rfl⟩ (tm := tm_ref05_On) (gh := gh_ref05_On) fun x y h => by obtain ⟨N, h⟩ := lim_spec h; exact ⟨N, 400, (t_ref05_On N x).trans h⟩
noncomputable def tm_ref14_Mount : Nat → Option Tmpl := fun cx => cond (Nat.beq cx 6) (some ⟨[], [], 76, [.st .geometry, .st .chip, .raw 12 1], [J, J, .fix (.ptr 0 0 0 0), .fix (.ptr 1 0 0 0), .fix (.ptr 2 0 0 0), J, .var .i, .var .i, J, J, J, J, J, J, J, .fix (.ptr 1 0 0 0), J, J, .fix (.ptr 0 0 0 0), J, J, J, J, J, J, J, J, J, J, J, J, J, J, J, J, J, J, J, J, J, J, J, J, J, J, J, J, J, J, J, J, J, J, J, J, J, J, J, J, J, J, J, J, J, J, J, J, J, J, J, J, J, J, J, J, J, .agg .geometry, .agg .chip, J, J, J, J, J, J, J, J, J, J, J, J], [], []⟩) <| none
noncomputable def gh_ref14_Mount : Nat → Nat → Option (Nat × Nat) := fun _ _ => none
theorem t_ref14_Mount (N : Nat) (a0 : Geometry) (a1 : Chip) : symF (seat.mk' (spOf L_ref05_On) tm_ref14_Mount gh_ref14_Mount) N 400 15 [.geometry, .chip] [.device, .i] (a0, a1) = G_ref14_Mount N a0 a1 := by kernel_rfl
noncomputable def L_ref14_Mount : List (FuncId × Spec) := (15, ⟨[.geometry, .chip], [.device, .i], S_ref14_Mount⟩) :: L_ref05_On
theorem ok_ref14_Mount : OrcOk Try.prog (orcOf L_ref14_Mount) := specs_cons sseat good primOk ok_ref05_On (by kernel_rfl) ⟨_, Try.func15, by rfl⟩ (tm := tm_ref14_Mount) (gh := gh_ref14_Mount) fun x y h => by obtain ⟨N, h⟩ := lim_spec h; exact ⟨N, 400, (t_ref14_Mount N x.1 x.2).trans h⟩
noncomputable def tm_law14_Small : Nat → Option Tmpl := fun _ => none
noncomputable def gh_law14_Small : Nat → Nat → Option (Nat × Nat) := fun _ _ => none
theorem t_law14_Small (N : Nat) (a0 : Int) : symF (seat.mk' (spOf L_ref14_Mount) tm_law14_Small gh_law14_Small) N 400 18 [(.int .u8)] [.geometry] a0 = G_law14_Small a0 := by kernel_rfl
noncomputable def L_law14_Small : List (FuncId × Spec) := (18, ⟨[(.int .u8)], [.geometry], S_law14_Small⟩) :: L_ref14_Mount
theorem ok_law14_Small : OrcOk Try.prog (orcOf L_law14_Small) := specs_cons sseat good primOk ok_ref14_Mount (by kernel_rfl) ⟨_, Try.func18, by rfl⟩ (tm := tm_law14_Small) (gh := gh_law14_Small) fun x y h => ⟨0, 400, (t_law14_Small 0 x).trans h⟩
noncomputable def tm_ref05_there : Nat → Option Tmpl := fun _ => none
noncomputable def gh_ref05_there : Nat → Nat → Option (Nat × Nat) := fun _ _ => none
theorem t_ref05_there (N : Nat) (a0 : Chip) (a1 : Int) (a2 : Int) : symF (seat.mk' (spOf L_law14_Small) tm_ref05_there gh_ref05_there) N 400 52 [.chip, .i, .i] [.bool] (a0, a1, a2) = G_ref05_there a0 a1 a2 := by kernel_rfl
noncomputable def L_ref05_there : List (FuncId × Spec) := (52, ⟨[.chip, .i, .i], [.bool], S_ref05_there⟩) :: L_law14_Small
theorem ok_ref05_there : OrcOk Try.prog (orcOf L_ref05_there) := specs_cons sseat good primOk ok_law14_Small (by kernel_rfl) ⟨_, Try.func52, by rfl⟩ (tm := tm_ref05_there) (gh := gh_ref05_there) fun x y h => ⟨0, 400, (t_ref05_there 0 x.1 x.2.1 x.2.2).trans h⟩
end Clk.Ytflcnadgmlebcaa
namespace Clk.Ytflcnadgmlebcaa
open Go Go.Proofs Go.Proofs.Ytflcnadgmlebcaa
set_option maxRecDepth 1000000
set_option linter.unusedVariables false
noncomputable def tm_ref05_broken : Nat → Option Tmpl := fun cx => cond (Nat.beq cx 1) (some ⟨[.tmp 3 .block], [(4, .block)], 29, [.raw 4 1, .raw 4 1, .st .chip, .raw 4 1, .dead, .nst true 0 true], [J, .fix (.ptr 2 0 0 0), .fix (.ptr 3 0 0 0), .fix (.bref 5 0), .var .i, J, J, J, J, J, J, J, J, J, J, J, J, J, J, J, J, J, J, J, J, J, J, J, J, J, J, J, J, J, J, J, J, .agg .chip, J, J, J, J, .var (.list .block)], [.nest 5 true], [.abs 5]⟩) <| none
noncomputable def gh_ref05_broken : Nat → Nat → Option (Nat × Nat) := fun _ _ => none
theorem t_ref05_broken (N : Nat) (a0 : Chip) : symF (seat.mk' (spOf L_ref05_there) tm_ref05_broken gh_ref05_broken) N 400 53 [.chip] [.chip, .i] a0 = G_ref05_broken N a0 := by kernel_rfl
noncomputable def L_ref05_broken : List (FuncId × Spec) := (53, ⟨[.chip], [.chip, .i], S_ref05_broken⟩) :: L_ref05_there
theorem ok_ref05_broken : OrcOk Try.prog (orcOf L_ref05_broken) := specs_cons sseat good primOk ok_ref05_there (by kernel_rfl) ⟨_, Try.func53, by rfl⟩ (tm := tm_ref05_broken) (gh := gh_ref05_broken) fun x y h => by obtain ⟨N, h⟩ := lim_spec h; exact ⟨N, 400, (t_ref05_broken N x).trans h⟩
noncomputable def tm_ref05_Program : Nat → Option Tmpl := fun cx => cond (Nat.beq cx 5) (some ⟨[.tmp 3 .block], [(6, .block)], 29, [.raw 4 1, .raw 3 1, .raw 4 1, .raw 4 1, .st .chip, .raw 4 1, .dead, .nst true 0 true], [J, .fix (.ptr 4 0 0 0), .fix (.ptr 5 0 0 0), .fix (.bref 7 0), .var .i, J, J, J, J, J, J, J, J, J, J, J, J, J, J, J, J, J, J, J, J, J, J, J, J, J, J, J, J, J, J, J, J, J, J, J, J, J, J, J, .agg .chip, J, J, J, J, .var (.list .block)], [.nest 7 true], [.abs 7]⟩) <| cond (Nat.beq cx 26) (some ⟨[.tmp 3 .block], [(6, .block)], 29, [.raw 4 1, .st .page, .st .fate, .raw 4 1, .st .chip, .raw 4 1, .dead, .nst true 0 true], [J, .fix (.ptr 4 0 0 0), .fix (.ptr 5 0 0 0), .fix (.bref 7 0), .var .i, J, J, J, J, J, J, J, J, J, J, J, J, J, J, J, J, J, J, J, J, J, J, J, J, J, J, J, J, .agg .page, .agg .fate, J, J, J, J, .agg .chip, J, J, J, J, .var (.list .block)], [.nest 7 true], [.abs 7]⟩) <| none
noncomputable def gh_ref05_Program : Nat → Nat → Option (Nat × Nat) := fun cx id => cond (Nat.beq cx 27541 && Nat.beq id 18) (some (7, 1)) <| cond (Nat.beq cx 27542 && Nat.beq id 18) (some (7, 1)) <| cond (Nat.beq cx 27545 && Nat.beq id 18) (some (7, 1)) <| cond (Nat.beq cx 27546 && Nat.beq id 18) (some (7, 1)) <| cond (Nat.beq cx 27557 && Nat.beq id 18) (some (7, 1)) <| cond (Nat.beq cx 27558 && Nat.beq id 18) (some (7, 1)) <| cond (Nat.beq cx 27561 && Nat.beq id 18) (some (7, 1)) <| cond (Nat.beq cx 27562 && Nat.beq id 18) (some (7, 1)) <| none
theorem t_ref05_Program (N : Nat) (a0 : Chip) (a1 : Int) (a2 : Int) (a3 : Page) (a4 : Fate) : symF (seat.mk' (spOf L_ref05_broken) tm_ref05_Program gh_ref05_Program) N 400 28 [.chip, .i, .i, .page, .fate] [.chip, .i] (a0, a1, a2, a3, a4) = G_ref05_Program N a0 a1 a2 a3 a4 := by kernel_rfl
noncomputable def L_ref05_Program : List (FuncId × Spec) := (28, ⟨[.chip, .i, .i, .page, .fate], [.chip, .i], S_ref05_Program⟩) :: L_ref05_broken
theorem ok_ref05_Program : OrcOk Try.prog (orcOf L_ref05_Program) := specs_cons sseat good primOk ok_ref05_broken (by kernel_rfl) ⟨_, Try.func28, by rfl⟩ (tm := tm_ref05_Program) (gh := gh_ref05_Program) fun x y h => by obtain ⟨N, h⟩ := lim_spec h; exact ⟨N, 400, (t_ref05_Program N x.1 x.2.1 x.2.2.1 x.2.2.2.1 x.2.2.2.2).trans h⟩
noncomputable def tm_ref05_New : Nat → Option Tmpl := fun cx => cond (Nat.beq cx 6) (some ⟨[.cell 1 0 0 .block], [(2, .block)], 68, [.raw 4 1, .raw 4 1, .dead, .nst true 0 true], [.var .i, .var .i, .var (.list .i), J, J, J, .fix (.ptr 0 0 0 0), J, .fix (.ptr 1 0 0 0), .var .i, J, J, J, J, J, J, J, J, J, J, J, J, J, J, J, J, J, J, J, J, J, J, J, J, J, J, J, J, J, J, J, J, J, J, J, J, J, J, J, J, J, J, J, J, J, J, J, J, J, J, J, J, J, J, J, J, J, J, J, J, J, J, .fix (.bref 3 0), .var .bool, .var .bool, .var .i, .var (.list .block)], [.nest 3 true], [.abs 3]⟩) <| cond (Nat.beq cx 110) (some ⟨[], [], 68, [.raw 4 1, .raw 4 1, .dead, .nst true 0 false], [.var .i, J, .var (.list .i), J, J, J, .fix (.ptr 0 0 0 0), J, .fix (.ptr 1 0 0 0), J, .var .i, J, J, J, J, J, J, J, J, J, J, J, J, J, J, J, J, J, J, J, J, J, J, J, J, J, J, J, J, J, J, J, J, J, J, J, J, J, J, J, J, J, J, J, J, J, J, J, J, J, J, J, J, J, J, J, J, J, J, J, J, J, .fix (.bref 3 0), .var .bool, .var .bool, .var .i, .var (.list .block)], [], []⟩) <| none
noncomputable def gh_ref05_New : Nat → Nat → Option (Nat × Nat) := fun _ _ => none
theorem t_ref05_New (N : Nat) (a0 : Int) (a1 : Int) (a2 : (List Int)) : symF (seat.mk' (spOf L_ref05_Program) tm_ref05_New gh_ref05_New) N 400 42 [.i, .i, (.list .i)] [.chip, .i] (a0, a1, a2) = G_ref05_New N a0 a1 a2 := by kernel_rfl
noncomputable def L_ref05_New : List (FuncId × Spec) := (42, ⟨[.i, .i, (.list .i)], [.chip, .i], S_ref05_New⟩) :: L_ref05_Program
theorem ok_ref05_New : OrcOk Try.prog (orcOf L_ref05_New) := specs_cons sseat good primOk ok_ref05_Program (by kernel_rfl) ⟨_, Try.func42, by rfl⟩ (tm := tm_ref05_New) (gh := gh_ref05_New) fun x y h => by obtain ⟨N, h⟩ := lim_spec h; exact ⟨N, 400, (t_ref05_New N x.1 x.2.1 x.2.2).trans h⟩
noncomputable def tm_law03_Made : Nat → Option Tmpl := fun cx => cond (Nat.beq cx 1365) (some ⟨[.cell 2 0 2 .i, .cell 2 0 3 .i], [(4, .i), (5, .i)], 55, [.raw 1 1, .raw 4 1, .raw 4 1, .raw 1 1, .dead, .dead, .blk .i 0 true, .blk .i 0 true], [J, .fix (.ptr 0 0 0 0), .fix (.ptr 1 0 0 0), .fix (.ptr 2 0 0 0), .fix (.ptr 3 0 0 0), .fix (.fn 21 [] [(.ptr 3 0 0 0), (.ptr 0 0 0 0)]), .var .i, .var .i, .fix (.fn 21 [] [(.ptr 3 0 0 0), (.ptr 0 0 0 0)]), .fix (.fn 21 [] [(.ptr 3 0 0 0), (.ptr 0 0 0 0)]), J, J, .fix (.ptr 2 0 0 0), .fix (.fn 21 [] [(.ptr 3 0 0 0), (.ptr 0 0 0 0)]), J, .fix (.fn 21 [] [(.ptr 3 0 0 0), (.ptr 0 0 0 0)]), J, J, J, .fix (.ptr 2 0 0 1), .fix (.fn 21 [] [(.ptr 3 0 0 0), (.ptr 0 0 0 0)]), J, .fix (.fn 21 [] [(.ptr 3 0 0 0), (.ptr 0 0 0 0)]), J, J, J, J, J, J, J, J, J, J, J, J, J, J, J, J, J, J, J, J, J, J, J, J, J, J, J, J, J, J, J, J, .var (.list (.int .u16)), J, J, J, J, .var .i, .var .i, .fix (.bref 6 0), .fix (.bref 7 0), .var .i, .var (.list .i), .var (.list .i)], [], []⟩) <| cond (Nat.beq cx 1366) (some ⟨[.cell 2 0 2 .i, .cell 2 0 3 .i], [(4, .i), (5, .i)], 55, [.raw 1 1, .raw 4 1, .raw 4 1, .raw 1 1, .dead, .dead, .blk .i 0 true, .blk .i 0 true], [J, .fix (.ptr 0 0 0 0), .fix (.ptr 1 0 0 0), .fix (.ptr 2 0 0 0), .fix (.ptr 3 0 0 0), .fix (.fn 21 [] [(.ptr 3 0 0 0), (.ptr 0 0 0 0)]), .var .i, .var .i, .fix (.fn 21 [] [(.ptr 3 0 0 0), (.ptr 0 0 0 0)]), .fix (.fn 21 [] [(.ptr 3 0 0 0), (.ptr 0 0 0 0)]), J, J, .fix (.ptr 2 0 0 0), .fix (.fn 21 [] [(.ptr 3 0 0 0), (.ptr 0 0 0 0)]), J, .fix (.fn 21 [] [(.ptr 3 0 0 0), (.ptr 0 0 0 0)]), J, J, J, .fix (.ptr 2 0 0 1), .fix (.fn 21 [] [(.ptr 3 0 0 0), (.ptr 0 0 0 0)]), J, .fix (.fn 21 [] [(.ptr 3 0 0 0), (.ptr 0 0 0 0)]), J, J, J, J, J, J, J, J, J, J, J, J, J, J, J, J, J, J, J, J, J, J, J, J, J, J, J, J, J, J, J, J, .var (.list (.int .u16)), J, J, J, J, .var .i, .var .i, .fix (.bref 6 0), .fix (.bref 7 0), .var .i, .var (.list .i), .var (.list .i)], [], []⟩) <| cond (Nat.beq cx 1369) (some ⟨[.cell 2 0 2 .i, .cell 2 0 3 .i], [(4, .i), (5, .i)], 55, [.raw 1 1, .raw 4 1, .raw 4 1, .raw 1 1, .dead, .dead, .blk .i 0 true, .blk .i 0 true], [J, .fix (.ptr 0 0 0 0), .fix (.ptr 1 0 0 0), .fix (.ptr 2 0 0 0), .fix (.ptr 3 0 0 0), .fix (.fn 21 [] [(.ptr 3 0 0 0), (.ptr 0 0 0 0)]), .var .i, .var .i, .fix (.fn 21 [] [(.ptr 3 0 0 0), (.ptr 0 0 0 0)]), .fix (.fn 21 [] [(.ptr 3 0 0 0), (.ptr 0 0 0 0)]), J, J, .fix (.ptr 2 0 0 0), .fix (.fn 21 [] [(.ptr 3 0 0 0), (.ptr 0 0 0 0)]), J, .fix (.fn 21 [] [(.ptr 3 0 0 0), (.ptr 0 0 0 0)]), J, J, J, .fix (.ptr 2 0 0 1), .fix (.fn 21 [] [(.ptr 3 0 0 0), (.ptr 0 0 0 0)]), J, .fix (.fn 21 [] [(.ptr 3 0 0 0), (.ptr 0 0 0 0)]), J, J, J, J, J, J, J, J, J, J, J, J, J, J, J, J, J, J, J, J, J, J, J, J, J, J, J, J, J, J, J, J, .var (.list (.int .u16)), J, J, J, J, .var .i, .var .i, .fix (.bref 6 0), .fix (.bref 7 0), .var .i, .var (.list .i), .var (.list .i)], [], []⟩) <| cond (Nat.beq cx 1370) (some ⟨[.cell 2 0 2 .i, .cell 2 0 3 .i], [(4, .i), (5, .i)], 55, [.raw 1 1, .raw 4 1, .raw 4 1, .raw 1 1, .dead, .dead, .blk .i 0 true, .blk .i 0 true], [J, .fix (.ptr 0 0 0 0), .fix (.ptr 1 0 0 0), .fix (.ptr 2 0 0 0), .fix (.ptr 3 0 0 0), .fix (.fn 21 [] [(.ptr 3 0 0 0), (.ptr 0 0 0 0)]), .var .i, .var .i, .fix (.fn 21 [] [(.ptr 3 0 0 0), (.ptr 0 0 0 0)]), .fix (.fn 21 [] [(.ptr 3 0 0 0), (.ptr 0 0 0 0)]), J, J, .fix (.ptr 2 0 0 0), .fix (.fn 21 [] [(.ptr 3 0 0 0), (.ptr 0 0 0 0)]), J, .fix (.fn 21 [] [(.ptr 3 0 0 0), (.ptr 0 0 0 0)]), J, J, J, .fix (.ptr 2 0 0 1), .fix (.fn 21 [] [(.ptr 3 0 0 0), (.ptr 0 0 0 0)]), J, .fix (.fn 21 [] [(.ptr 3 0 0 0), (.ptr 0 0 0 0)]), J, J, J, J, J, J, J, J, J, J, J, J, J, J, J, J, J, J, J, J, J, J, J, J, J, J, J, J, J, J, J, J, .var (.list (.int .u16)), J, J, J, J, .var .i, .var .i, .fix (.bref 6 0), .fix (.bref 7 0), .var .i, .var (.list .i), .var (.list .i)], [], []⟩) <| cond (Nat.beq cx 1381) (some ⟨[.cell 2 0 2 .i, .cell 2 0 3 .i], [(4, .i), (5, .i)], 55, [.raw 1 1, .raw 4 1, .raw 4 1, .raw 1 1, .dead, .dead, .blk .i 0 true, .blk .i 0 true], [J, .fix (.ptr 0 0 0 0), .fix (.ptr 1 0 0 0), .fix (.ptr 2 0 0 0), .fix (.ptr 3 0 0 0), .fix (.fn 21 [] [(.ptr 3 0 0 0), (.ptr 0 0 0 0)]), .var .i, .var .i, .fix (.fn 21 [] [(.ptr 3 0 0 0), (.ptr 0 0 0 0)]), .fix (.fn 21 [] [(.ptr 3 0 0 0), (.ptr 0 0 0 0)]), J, J, .fix (.ptr 2 0 0 0), .fix (.fn 21 [] [(.ptr 3 0 0 0), (.ptr 0 0 0 0)]), J, .fix (.fn 21 [] [(.ptr 3 0 0 0), (.ptr 0 0 0 0)]), J, J, J, .fix (.ptr 2 0 0 1), .fix (.fn 21 [] [(.ptr 3 0 0 0), (.ptr 0 0 0 0)]), J, .fix (.fn 21 [] [(.ptr 3 0 0 0), (.ptr 0 0 0 0)]), J, J, J, J, J, J, J, J, J, J, J, J, J, J, J, J, J, J, J, J, J, J, J, J, J, J, J, J, J, J, J, J, .var (.list (.int .u16)), J, J, J, J, .var .i, .var .i, .fix (.bref 6 0), .fix (.bref 7 0), .var .i, .var (.list .i), .var (.list .i)], [], []⟩) <| cond (Nat.beq cx 1382) (some ⟨[.cell 2 0 2 .i, .cell 2 0 3 .i], [(4, .i), (5, .i)], 55, [.raw 1 1, .raw 4 1, .raw 4 1, .raw 1 1, .dead, .dead, .blk .i 0 true, .blk .i 0 true], [J, .fix (.ptr 0 0 0 0), .fix (.ptr 1 0 0 0), .fix (.ptr 2 0 0 0), .fix (.ptr 3 0 0 0), .fix (.fn 21 [] [(.ptr 3 0 0 0), (.ptr 0 0 0 0)]), .var .i, .var .i, .fix (.fn 21 [] [(.ptr 3 0 0 0), (.ptr 0 0 0 0)]), .fix (.fn 21 [] [(.ptr 3 0 0 0), (.ptr 0 0 0 0)]), J, J, .fix (.ptr 2 0 0 0), .fix (.fn 21 [] [(.ptr 3 0 0 0), (.ptr 0 0 0 0)]), J, .fix (.fn 21 [] [(.ptr 3 0 0 0), (.ptr 0 0 0 0)]), J, J, J, .fix (.ptr 2 0 0 1), .fix (.fn 21 [] [(.ptr 3 0 0 0), (.ptr 0 0 0 0)]), J, .fix (.fn 21 [] [(.ptr 3 0 0 0), (.ptr 0 0 0 0)]), J, J, J, J, J, J, J, J, J, J, J, J, J, J, J, J, J, J, J, J, J, J, J, J, J, J, J, J, J, J, J, J, .var (.list (.int .u16)), J, J, J, J, .var .i, .var .i, .fix (.bref 6 0), .fix (.bref 7 0), .var .i, .var (.list .i), .var (.list .i)], [], []⟩) <| cond (Nat.beq cx 1385) (some ⟨[.cell 2 0 2 .i, .cell 2 0 3 .i], [(4, .i), (5, .i)], 55, [.raw 1 1, .raw 4 1, .raw 4 1, .raw 1 1, .dead, .dead, .blk .i 0 true, .blk .i 0 true], [J, .fix (.ptr 0 0 0 0), .fix (.ptr 1 0 0 0), .fix (.ptr 2 0 0 0), .fix (.ptr 3 0 0 0), .fix (.fn 21 [] [(.ptr 3 0 0 0), (.ptr 0 0 0 0)]), .var .i, .var .i, .fix (.fn 21 [] [(.ptr 3 0 0 0), (.ptr 0 0 0 0)]), .fix (.fn 21 [] [(.ptr 3 0 0 0), (.ptr 0 0 0 0)]), J, J, .fix (.ptr 2 0 0 0), .fix (.fn 21 [] [(.ptr 3 0 0 0), (.ptr 0 0 0 0)]), J, .fix (.fn 21 [] [(.ptr 3 0 0 0), (.ptr 0 0 0 0)]), J, J, J, .fix (.ptr 2 0 0 1), .fix (.fn 21 [] [(.ptr 3 0 0 0), (.ptr 0 0 0 0)]), J, .fix (.fn 21 [] [(.ptr 3 0 0 0), (.ptr 0 0 0 0)]), J, J, J, J, J, J, J, J, J, J, J, J, J, J, J, J, J, J, J, J, J, J, J, J, J, J, J, J, J, J, J, J, .var (.list (.int .u16)), J, J, J, J, .var .i, .var .i, .fix (.bref 6 0), .fix (.bref 7 0), .var .i, .var (.list .i), .var (.list .i)], [], []⟩) <| cond (Nat.beq cx 1386) (some ⟨[.cell 2 0 2 .i, .cell 2 0 3 .i], [(4, .i), (5, .i)], 55, [.raw 1 1, .raw 4 1, .raw 4 1, .raw 1 1, .dead, .dead, .blk .i 0 true, .blk .i 0 true], [J, .fix (.ptr 0 0 0 0), .fix (.ptr 1 0 0 0), .fix (.ptr 2 0 0 0), .fix (.ptr 3 0 0 0), .fix (.fn 21 [] [(.ptr 3 0 0 0), (.ptr 0 0 0 0)]), .var .i, .var .i, .fix (.fn 21 [] [(.ptr 3 0 0 0), (.ptr 0 0 0 0)]), .fix (.fn 21 [] [(.ptr 3 0 0 0), (.ptr 0 0 0 0)]), J, J, .fix (.ptr 2 0 0 0), .fix (.fn 21 [] [(.ptr 3 0 0 0), (.ptr 0 0 0 0)]), J, .fix (.fn 21 [] [(.ptr 3 0 0 0), (.ptr 0 0 0 0)]), J, J, J, .fix (.ptr 2 0 0 1), .fix (.fn 21 [] [(.ptr 3 0 0 0), (.ptr 0 0 0 0)]), J, .fix (.fn 21 [] [(.ptr 3 0 0 0), (.ptr 0 0 0 0)]), J, J, J, J, J, J, J, J, J, J, J, J, J, J, J, J, J, J, J, J, J, J, J, J, J, J, J, J, J, J, J, J, .var (.list (.int .u16)), J, J, J, J, .var .i, .var .i, .fix (.bref 6 0), .fix (.bref 7 0), .var .i, .var (.list .i), .var (.list .i)], [], []⟩) <| cond (Nat.beq cx 1429) (some ⟨[.cell 2 0 2 .i, .cell 2 0 3 .i], [(4, .i), (5, .i)], 55, [.raw 1 1, .raw 4 1, .raw 4 1, .raw 1 1, .dead, .dead, .blk .i 0 true, .blk .i 0 true], [J, .fix (.ptr 0 0 0 0), .fix (.ptr 1 0 0 0), .fix (.ptr 2 0 0 0), .fix (.ptr 3 0 0 0), .fix (.fn 21 [] [(.ptr 3 0 0 0), (.ptr 0 0 0 0)]), .var .i, .var .i, .fix (.fn 21 [] [(.ptr 3 0 0 0), (.ptr 0 0 0 0)]), .fix (.fn 21 [] [(.ptr 3 0 0 0), (.ptr 0 0 0 0)]), J, J, .fix (.ptr 2 0 0 0), .fix (.fn 21 [] [(.ptr 3 0 0 0), (.ptr 0 0 0 0)]), J, .fix (.fn 21 [] [(.ptr 3 0 0 0), (.ptr 0 0 0 0)]), J, J, J, .fix (.ptr 2 0 0 1), .fix (.fn 21 [] [(.ptr 3 0 0 0), (.ptr 0 0 0 0)]), J, .fix (.fn 21 [] [(.ptr 3 0 0 0), (.ptr 0 0 0 0)]), J, J, J, J, J, J, J, J, J, J, J, J, J, J, J, J, J, J, J, J, J, J, J, J, J, J, J, J, J, J, J, J, .var (.list (.int .u16)), J, J, J, J, .var .i, .var .i, .fix (.bref 6 0), .fix (.bref 7 0), .var .i, .var (.list .i), .var (.list .i)], [], []⟩) <| cond (Nat.beq cx 1430) (some ⟨[.cell 2 0 2 .i, .cell 2 0 3 .i], [(4, .i), (5, .i)], 55, [.raw 1 1, .raw 4 1, .raw 4 1, .raw 1 1, .dead, .dead, .blk .i 0 true, .blk .i 0 true], [J, .fix (.ptr 0 0 0 0), .fix (.ptr 1 0 0 0), .fix (.ptr 2 0 0 0), .fix (.ptr 3 0 0 0), .fix (.fn 21 [] [(.ptr 3 0 0 0), (.ptr 0 0 0 0)]), .var .i, .var .i, .fix (.fn 21 [] [(.ptr 3 0 0 0), (.ptr 0 0 0 0)]), .fix (.fn 21 [] [(.ptr 3 0 0 0), (.ptr 0 0 0 0)]), J, J, .fix (.ptr 2 0 0 0), .fix (.fn 21 [] [(.ptr 3 0 0 0), (.ptr 0 0 0 0)]), J, .fix (.fn 21 [] [(.ptr 3 0 0 0), (.ptr 0 0 0 0)]), J, J, J, .fix (.ptr 2 0 0 1), .fix (.fn 21 [] [(.ptr 3 0 0 0), (.ptr 0 0 0 0)]), J, .fix (.fn 21 [] [(.ptr 3 0 0 0), (.ptr 0 0 0 0)]), J, J, J, J, J, J, J, J, J, J, J, J, J, J, J, J, J, J, J, J, J, J, J, J, J, J, J, J, J, J, J, J, .var (.list (.int .u16)), J, J, J, J, .var .i, .var .i, .fix (.bref 6 0), .fix (.bref 7 0), .var .i, .var (.list .i), .var (.list .i)], [], []⟩) <| cond (Nat.beq cx 1433) (some ⟨[.cell 2 0 2 .i, .cell 2 0 3 .i], [(4, .i), (5, .i)], 55, [.raw 1 1, .raw 4 1, .raw 4 1, .raw 1 1, .dead, .dead, .blk .i 0 true, .blk .i 0 true], [J, .fix (.ptr 0 0 0 0), .fix (.ptr 1 0 0 0), .fix (.ptr 2 0 0 0), .fix (.ptr 3 0 0 0), .fix (.fn 21 [] [(.ptr 3 0 0 0), (.ptr 0 0 0 0)]), .var .i, .var .i, .fix (.fn 21 [] [(.ptr 3 0 0 0), (.ptr 0 0 0 0)]), .fix (.fn 21 [] [(.ptr 3 0 0 0), (.ptr 0 0 0 0)]), J, J, .fix (.ptr 2 0 0 0), .fix (.fn 21 [] [(.ptr 3 0 0 0), (.ptr 0 0 0 0)]), J, .fix (.fn 21 [] [(.ptr 3 0 0 0), (.ptr 0 0 0 0)]), J, J, J, .fix (.ptr 2 0 0 1), .fix (.fn 21 [] [(.ptr 3 0 0 0), (.ptr 0 0 0 0)]), J, .fix (.fn 21 [] [(.ptr 3 0 0 0), (.ptr 0 0 0 0)]), J, J, J, J, J, J, J, J, J, J, J, J, J, J, J, J, J, J, J, J, J, J, J, J, J, J, J, J, J, J, J, J, .var (.list (.int .u16)), J, J, J, J, .var .i, .var .i, .fix (.bref 6 0), .fix (.bref 7 0), .var .i, .var (.list .i), .var (.list .i)], [], []⟩) <| cond (Nat.beq cx 1434) (some ⟨[.cell 2 0 2 .i, .cell 2 0 3 .i], [(4, .i), (5, .i)], 55, [.raw 1 1, .raw 4 1, .raw 4 1, .raw 1 1, .dead, .dead, .blk .i 0 true, .blk .i 0 true], [J, .fix (.ptr 0 0 0 0), .fix (.ptr 1 0 0 0), .fix (.ptr 2 0 0 0), .fix (.ptr 3 0 0 0), .fix (.fn 21 [] [(.ptr 3 0 0 0), (.ptr 0 0 0 0)]), .var .i, .var .i, .fix (.fn 21 [] [(.ptr 3 0 0 0), (.ptr 0 0 0 0)]), .fix (.fn 21 [] [(.ptr 3 0 0 0), (.ptr 0 0 0 0)]), J, J, .fix (.ptr 2 0 0 0), .fix (.fn 21 [] [(.ptr 3 0 0 0), (.ptr 0 0 0 0)]), J, .fix (.fn 21 [] [(.ptr 3 0 0 0), (.ptr 0 0 0 0)]), J, J, J, .fix (.ptr 2 0 0 1), .fix (.fn 21 [] [(.ptr 3 0 0 0), (.ptr 0 0 0 0)]), J, .fix (.fn 21 [] [(.ptr 3 0 0 0), (.ptr 0 0 0 0)]), J, J, J, J, J, J, J, J, J, J, J, J, J, J, J, J, J, J, J, J, J, J, J, J, J, J, J, J, J, J, J, J, .var (.list (.int .u16)), J, J, J, J, .var .i, .var .i, .fix (.bref 6 0), .fix (.bref 7 0), .var .i, .var (.list .i), .var (.list .i)], [], []⟩) <| cond (Nat.beq cx 1445) (some ⟨[.cell 2 0 2 .i, .cell 2 0 3 .i], [(4, .i), (5, .i)], 55, [.raw 1 1, .raw 4 1, .raw 4 1, .raw 1 1, .dead, .dead, .blk .i 0 true, .blk .i 0 true], [J, .fix (.ptr 0 0 0 0), .fix (.ptr 1 0 0 0), .fix (.ptr 2 0 0 0), .fix (.ptr 3 0 0 0), .fix (.fn 21 [] [(.ptr 3 0 0 0), (.ptr 0 0 0 0)]), .var .i, .var .i, .fix (.fn 21 [] [(.ptr 3 0 0 0), (.ptr 0 0 0 0)]), .fix (.fn 21 [] [(.ptr 3 0 0 0), (.ptr 0 0 0 0)]), J, J, .fix (.ptr 2 0 0 0), .fix (.fn 21 [] [(.ptr 3 0 0 0), (.ptr 0 0 0 0)]), J, .fix (.fn 21 [] [(.ptr 3 0 0 0), (.ptr 0 0 0 0)]), J, J, J, .fix (.ptr 2 0 0 1), .fix (.fn 21 [] [(.ptr 3 0 0 0), (.ptr 0 0 0 0)]), J, .fix (.fn 21 [] [(.ptr 3 0 0 0), (.ptr 0 0 0 0)]), J, J, J, J, J, J, J, J, J, J, J, J, J, J, J, J, J, J, J, J, J, J, J, J, J, J, J, J, J, J, J, J, .var (.list (.int .u16)), J, J, J, J, .var .i, .var .i, .fix (.bref 6 0), .fix (.bref 7 0), .var .i, .var (.list .i), .var (.list .i)], [], []⟩) <| cond (Nat.beq cx 1446) (some ⟨[.cell 2 0 2 .i, .cell 2 0 3 .i], [(4, .i), (5, .i)], 55, [.raw 1 1, .raw 4 1, .raw 4 1, .raw 1 1, .dead, .dead, .blk .i 0 true, .blk .i 0 true], [J, .fix (.ptr 0 0 0 0), .fix (.ptr 1 0 0 0), .fix (.ptr 2 0 0 0), .fix (.ptr 3 0 0 0), .fix (.fn 21 [] [(.ptr 3 0 0 0), (.ptr 0 0 0 0)]), .var .i, .var .i, .fix (.fn 21 [] [(.ptr 3 0 0 0), (.ptr 0 0 0 0)]), .fix (.fn 21 [] [(.ptr 3 0 0 0), (.ptr 0 0 0 0)]), J, J, .fix (.ptr 2 0 0 0), .fix (.fn 21 [] [(.ptr 3 0 0 0), (.ptr 0 0 0 0)]), J, .fix (.fn 21 [] [(.ptr 3 0 0 0), (.ptr 0 0 0 0)]), J, J, J, .fix (.ptr 2 0 0 1), .fix (.fn 21 [] [(.ptr 3 0 0 0), (.ptr 0 0 0 0)]), J, .fix (.fn 21 [] [(.ptr 3 0 0 0), (.ptr 0 0 0 0)]), J, J, J, J, J, J, J, J, J, J, J, J, J, J, J, J, J, J, J, J, J, J, J, J, J, J, J, J, J, J, J, J, .var (.list (.int .u16)), J, J, J, J, .var .i, .var .i, .fix (.bref 6 0), .fix (.bref 7 0), .var .i, .var (.list .i), .var (.list .i)], [], []⟩) <| cond (Nat.beq cx 1449) (some ⟨[.cell 2 0 2 .i, .cell 2 0 3 .i], [(4, .i), (5, .i)], 55, [.raw 1 1, .raw 4 1, .raw 4 1, .raw 1 1, .dead, .dead, .blk .i 0 true, .blk .i 0 true], [J, .fix (.ptr 0 0 0 0), .fix (.ptr 1 0 0 0), .fix (.ptr 2 0 0 0), .fix (.ptr 3 0 0 0), .fix (.fn 21 [] [(.ptr 3 0 0 0), (.ptr 0 0 0 0)]), .var .i, .var .i, .fix (.fn 21 [] [(.ptr 3 0 0 0), (.ptr 0 0 0 0)]), .fix (.fn 21 [] [(.ptr 3 0 0 0), (.ptr 0 0 0 0)]), J, J, .fix (.ptr 2 0 0 0), .fix (.fn 21 [] [(.ptr 3 0 0 0), (.ptr 0 0 0 0)]), J, .fix (.fn 21 [] [(.ptr 3 0 0 0), (.ptr 0 0 0 0)]), J, J, J, .fix (.ptr 2 0 0 1), .fix (.fn 21 [] [(.ptr 3 0 0 0), (.ptr 0 0 0 0)]), J, .fix (.fn 21 [] [(.ptr 3 0 0 0), (.ptr 0 0 0 0)]), J, J, J, J, J, J, J, J, J, J, J, J, J, J, J, J, J, J, J, J, J, J, J, J, J, J, J, J, J, J, J, J, .var (.list (.int .u16)), J, J, J, J, .var .i, .var .i, .fix (.bref 6 0), .fix (.bref 7 0), .var .i, .var (.list .i), .var (.list .i)], [], []⟩) <| cond (Nat.beq cx 1450) (some ⟨[.cell 2 0 2 .i, .cell 2 0 3 .i], [(4, .i), (5, .i)], 55, [.raw 1 1, .raw 4 1, .raw 4 1, .raw 1 1, .dead, .dead, .blk .i 0 true, .blk .i 0 true], [J, .fix (.ptr 0 0 0 0), .fix (.ptr 1 0 0 0), .fix (.ptr 2 0 0 0), .fix (.ptr 3 0 0 0), .fix (.fn 21 [] [(.ptr 3 0 0 0), (.ptr 0 0 0 0)]), .var .i, .var .i, .fix (.fn 21 [] [(.ptr 3 0 0 0), (.ptr 0 0 0 0)]), .fix (.fn 21 [] [(.ptr 3 0 0 0), (.ptr 0 0 0 0)]), J, J, .fix (.ptr 2 0 0 0), .fix (.fn 21 [] [(.ptr 3 0 0 0), (.ptr 0 0 0 0)]), J, .fix (.fn 21 [] [(.ptr 3 0 0 0), (.ptr 0 0 0 0)]), J, J, J, .fix (.ptr 2 0 0 1), .fix (.fn 21 [] [(.ptr 3 0 0 0), (.ptr 0 0 0 0)]), J, .fix (.fn 21 [] [(.ptr 3 0 0 0), (.ptr 0 0 0 0)]), J, J, J, J, J, J, J, J, J, J, J, J, J, J, J, J, J, J, J, J, J, J, J, J, J, J, J, J, J, J, J, J, .var (.list (.int .u16)), J, J, J, J, .var .i, .var .i, .fix (.bref 6 0), .fix (.bref 7 0), .var .i, .var (.list .i), .var (.list .i)], [], []⟩) <| cond (Nat.beq cx 1621) (some ⟨[.cell 2 0 2 .i, .cell 2 0 3 .i], [(4, .i), (5, .i)], 55, [.raw 1 1, .raw 4 1, .raw 4 1, .raw 1 1, .dead, .dead, .blk .i 0 true, .blk .i 0 true], [J, .fix (.ptr 0 0 0 0), .fix (.ptr 1 0 0 0), .fix (.ptr 2 0 0 0), .fix (.ptr 3 0 0 0), .fix (.fn 21 [] [(.ptr 3 0 0 0), (.ptr 0 0 0 0)]), .var .i, .var .i, .fix (.fn 21 [] [(.ptr 3 0 0 0), (.ptr 0 0 0 0)]), .fix (.fn 21 [] [(.ptr 3 0 0 0), (.ptr 0 0 0 0)]), J, J, .fix (.ptr 2 0 0 0), .fix (.fn 21 [] [(.ptr 3 0 0 0), (.ptr 0 0 0 0)]), J, .fix (.fn 21 [] [(.ptr 3 0 0 0), (.ptr 0 0 0 0)]), J, J, J, .fix (.ptr 2 0 0 1), .fix (.fn 21 [] [(.ptr 3 0 0 0), (.ptr 0 0 0 0)]), J, .fix (.fn 21 [] [(.ptr 3 0 0 0), (.ptr 0 0 0 0)]), J, J, J, J, J, J, J, J, J, J, J, J, J, J, J, J, J, J, J, J, J, J, J, J, J, J, J, J, J, J, J, J, .var (.list (.int .u16)), J, J, J, J, .var .i, .var .i, .fix (.bref 6 0), .fix (.bref 7 0), .var .i, .var (.list .i), .var (.list .i)], [], []⟩) <| cond (Nat.beq cx 1622) (some ⟨[.cell 2 0 2 .i, .cell 2 0 3 .i], [(4, .i), (5, .i)], 55, [.raw 1 1, .raw 4 1, .raw 4 1, .raw 1 1, .dead, .dead, .blk .i 0 true, .blk .i 0 true], [J, .fix (.ptr 0 0 0 0), .fix (.ptr 1 0 0 0), .fix (.ptr 2 0 0 0), .fix (.ptr 3 0 0 0), .fix (.fn 21 [] [(.ptr 3 0 0 0), (.ptr 0 0 0 0)]), .var .i, .var .i, .fix (.fn 21 [] [(.ptr 3 0 0 0), (.ptr 0 0 0 0)]), .fix (.fn 21 [] [(.ptr 3 0 0 0), (.ptr 0 0 0 0)]), J, J, .fix (.ptr 2 0 0 0), .fix (.fn 21 [] [(.ptr 3 0 0 0), (.ptr 0 0 0 0)]), J, .fix (.fn 21 [] [(.ptr 3 0 0 0), (.ptr 0 0 0 0)]), J, J, J, .fix (.ptr 2 0 0 1), .fix (.fn 21 [] [(.ptr 3 0 0 0), (.ptr 0 0 0 0)]), J, .fix (.fn 21 [] [(.ptr 3 0 0 0), (.ptr 0 0 0 0)]), J, J, J, J, J, J, J, J, J, J, J, J, J, J, J, J, J, J, J, J, J, J, J, J, J, J, J, J, J, J, J, J, .var (.list (.int .u16)), J, J, J, J, .var .i, .var .i, .fix (.bref 6 0), .fix (.bref 7 0), .var .i, .var (.list .i), .var (.list .i)], [], []⟩) <| cond (Nat.beq cx 1625) (some ⟨[.cell 2 0 2 .i, .cell 2 0 3 .i], [(4, .i), (5, .i)], 55, [.raw 1 1, .raw 4 1, .raw 4 1, .raw 1 1, .dead, .dead, .blk .i 0 true, .blk .i 0 true], [J, .fix (.ptr 0 0 0 0), .fix (.ptr 1 0 0 0), .fix (.ptr 2 0 0 0), .fix (.ptr 3 0 0 0), .fix (.fn 21 [] [(.ptr 3 0 0 0), (.ptr 0 0 0 0)]), .var .i, .var .i, .fix (.fn 21 [] [(.ptr 3 0 0 0), (.ptr 0 0 0 0)]), .fix (.fn 21 [] [(.ptr 3 0 0 0), (.ptr 0 0 0 0)]), J, J, .fix (.ptr 2 0 0 0), .fix (.fn 21 [] [(.ptr 3 0 0 0), (.ptr 0 0 0 0)]), J, .fix (.fn 21 [] [(.ptr 3 0 0 0), (.ptr 0 0 0 0)]), J, J, J, .fix (.ptr 2 0 0 1), .fix (.fn 21 [] [(.ptr 3 0 0 0), (.ptr 0 0 0 0)]), J, .fix (.fn 21 [] [(.ptr 3 0 0 0), (.ptr 0 0 0 0)]), J, J, J, J, J, J, J, J, J, J, J, J, J, J, J, J, J, J, J, J, J, J, J, J, J, J, J, J, J, J, J, J, .var (.list (.int .u16)), J, J, J, J, .var .i, .var .i, .fix (.bref 6 0), .fix (.bref 7 0), .var .i, .var (.list .i), .var (.list .i)], [], []⟩) <| cond (Nat.beq cx 1626) (some ⟨[.cell 2 0 2 .i, .cell 2 0 3 .i], [(4, .i), (5, .i)], 55, [.raw 1 1, .raw 4 1, .raw 4 1, .raw 1 1, .dead, .dead, .blk .i 0 true, .blk .i 0 true], [J, .fix (.ptr 0 0 0 0), .fix (.ptr 1 0 0 0), .fix (.ptr 2 0 0 0), .fix (.ptr 3 0 0 0), .fix (.fn 21 [] [(.ptr 3 0 0 0), (.ptr 0 0 0 0)]), .var .i, .var .i, .fix (.fn 21 [] [(.ptr 3 0 0 0), (.ptr 0 0 0 0)]), .fix (.fn 21 [] [(.ptr 3 0 0 0), (.ptr 0 0 0 0)]), J, J, .fix (.ptr 2 0 0 0), .fix (.fn 21 [] [(.ptr 3 0 0 0), (.ptr 0 0 0 0)]), J, .fix (.fn 21 [] [(.ptr 3 0 0 0), (.ptr 0 0 0 0)]), J, J, J, .fix (.ptr 2 0 0 1), .fix (.fn 21 [] [(.ptr 3 0 0 0), (.ptr 0 0 0 0)]), J, .fix (.fn 21 [] [(.ptr 3 0 0 0), (.ptr 0 0 0 0)]), J, J, J, J, J, J, J, J, J, J, J, J, J, J, J, J, J, J, J, J, J, J, J, J, J, J, J, J, J, J, J, J, .var (.list (.int .u16)), J, J, J, J, .var .i, .var .i, .fix (.bref 6 0), .fix (.bref 7 0), .var .i, .var (.list .i), .var (.list .i)], [], []⟩) <| cond (Nat.beq cx 1637) (some ⟨[.cell 2 0 2 .i, .cell 2 0 3 .i], [(4, .i), (5, .i)], 55, [.raw 1 1, .raw 4 1, .raw 4 1, .raw 1 1, .dead, .dead, .blk .i 0 true, .blk .i 0 true], [J, .fix (.ptr 0 0 0 0), .fix (.ptr 1 0 0 0), .fix (.ptr 2 0 0 0), .fix (.ptr 3 0 0 0), .fix (.fn 21 [] [(.ptr 3 0 0 0), (.ptr 0 0 0 0)]), .var .i, .var .i, .fix (.fn 21 [] [(.ptr 3 0 0 0), (.ptr 0 0 0 0)]), .fix (.fn 21 [] [(.ptr 3 0 0 0), (.ptr 0 0 0 0)]), J, J, .fix (.ptr 2 0 0 0), .fix (.fn 21 [] [(.ptr 3 0 0 0), (.ptr 0 0 0 0)]), J, .fix (.fn 21 [] [(.ptr 3 0 0 0), (.ptr 0 0 0 0)]), J, J, J, .fix (.ptr 2 0 0 1), .fix (.fn 21 [] [(.ptr 3 0 0 0), (.ptr 0 0 0 0)]), J, .fix (.fn 21 [] [(.ptr 3 0 0 0), (.ptr 0 0 0 0)]), J, J, J, J, J, J, J, J, J, J, J, J, J, J, J, J, J, J, J, J, J, J, J, J, J, J, J, J, J, J, J, J, .var (.list (.int .u16)), J, J, J, J, .var .i, .var .i, .fix (.bref 6 0), .fix (.bref 7 0), .var .i, .var (.list .i), .var (.list .i)], [], []⟩) <| cond (Nat.beq cx 1638) (some ⟨[.cell 2 0 2 .i, .cell 2 0 3 .i], [(4, .i), (5, .i)], 55, [.raw 1 1, .raw 4 1, .raw 4 1, .raw 1 1, .dead, .dead, .blk .i 0 true, .blk .i 0 true], [J, .fix (.ptr 0 0 0 0), .fix (.ptr 1 0 0 0), .fix (.ptr 2 0 0 0), .fix (.ptr 3 0 0 0), .fix (.fn 21 [] [(.ptr 3 0 0 0), (.ptr 0 0 0 0)]), .var .i, .var .i, .fix (.fn 21 [] [(.ptr 3 0 0 0), (.ptr 0 0 0 0)]), .fix (.fn 21 [] [(.ptr 3 0 0 0), (.ptr 0 0 0 0)]), J, J, .fix (.ptr 2 0 0 0), .fix (.fn 21 [] [(.ptr 3 0 0 0), (.ptr 0 0 0 0)]), J, .fix (.fn 21 [] [(.ptr 3 0 0 0), (.ptr 0 0 0 0)]), J, J, J, .fix (.ptr 2 0 0 1), .fix (.fn 21 [] [(.ptr 3 0 0 0), (.ptr 0 0 0 0)]), J, .fix (.fn 21 [] [(.ptr 3 0 0 0), (.ptr 0 0 0 0)]), J, J, J, J, J, J, J, J, J, J, J, J, J, J, J, J, J, J, J, J, J, J, J, J, J, J, J, J, J, J, J, J, .var (.list (.int .u16)), J, J, J, J, .var .i, .var .i, .fix (.bref 6 0), .fix (.bref 7 0), .var .i, .var (.list .i), .var (.list .i)], [], []⟩) <| cond (Nat.beq cx 1641) (some ⟨[.cell 2 0 2 .i, .cell 2 0 3 .i], [(4, .i), (5, .i)], 55, [.raw 1 1, .raw 4 1, .raw 4 1, .raw 1 1, .dead, .dead, .blk .i 0 true, .blk .i 0 true], [J, .fix (.ptr 0 0 0 0), .fix (.ptr 1 0 0 0), .fix (.ptr 2 0 0 0), .fix (.ptr 3 0 0 0), .fix (.fn 21 [] [(.ptr 3 0 0 0), (.ptr 0 0 0 0)]), .var .i, .var .i, .fix (.fn 21 [] [(.ptr 3 0 0 0), (.ptr 0 0 0 0)]), .fix (.fn 21 [] [(.ptr 3 0 0 0), (.ptr 0 0 0 0)]), J, J, .fix (.ptr 2 0 0 0), .fix (.fn 21 [] [(.ptr 3 0 0 0), (.ptr 0 0 0 0)]), J, .fix (.fn 21 [] [(.ptr 3 0 0 0), (.ptr 0 0 0 0)]), J, J, J, .fix (.ptr 2 0 0 1), .fix (.fn 21 [] [(.ptr 3 0 0 0), (.ptr 0 0 0 0)]), J, .fix (.fn 21 [] [(.ptr 3 0 0 0), (.ptr 0 0 0 0)]), J, J, J, J, J, J, J, J, J, J, J, J, J, J, J, J, J, J, J, J, J, J, J, J, J, J, J, J, J, J, J, J, .var (.list (.int .u16)), J, J, J, J, .var .i, .var .i, .fix (.bref 6 0), .fix (.bref 7 0), .var .i, .var (.list .i), .var (.list .i)], [], []⟩) <| cond (Nat.beq cx 1642) (some ⟨[.cell 2 0 2 .i, .cell 2 0 3 .i], [(4, .i), (5, .i)], 55, [.raw 1 1, .raw 4 1, .raw 4 1, .raw 1 1, .dead, .dead, .blk .i 0 true, .blk .i 0 true], [J, .fix (.ptr 0 0 0 0), .fix (.ptr 1 0 0 0), .fix (.ptr 2 0 0 0), .fix (.ptr 3 0 0 0), .fix (.fn 21 [] [(.ptr 3 0 0 0), (.ptr 0 0 0 0)]), .var .i, .var .i, .fix (.fn 21 [] [(.ptr 3 0 0 0), (.ptr 0 0 0 0)]), .fix (.fn 21 [] [(.ptr 3 0 0 0), (.ptr 0 0 0 0)]), J, J, .fix (.ptr 2 0 0 0), .fix (.fn 21 [] [(.ptr 3 0 0 0), (.ptr 0 0 0 0)]), J, .fix (.fn 21 [] [(.ptr 3 0 0 0), (.ptr 0 0 0 0)]), J, J, J, .fix (.ptr 2 0 0 1), .fix (.fn 21 [] [(.ptr 3 0 0 0), (.ptr 0 0 0 0)]), J, .fix (.fn 21 [] [(.ptr 3 0 0 0), (.ptr 0 0 0 0)]), J, J, J, J, J, J, J, J, J, J, J, J, J, J, J, J, J, J, J, J, J, J, J, J, J, J, J, J, J, J, J, J, .var (.list (.int .u16)), J, J, J, J, .var .i, .var .i, .fix (.bref 6 0), .fix (.bref 7 0), .var .i, .var (.list .i), .var (.list .i)], [], []⟩) <| cond (Nat.beq cx 1685) (some ⟨[.cell 2 0 2 .i, .cell 2 0 3 .i], [(4, .i), (5, .i)], 55, [.raw 1 1, .raw 4 1, .raw 4 1, .raw 1 1, .dead, .dead, .blk .i 0 true, .blk .i 0 true], [J, .fix (.ptr 0 0 0 0), .fix (.ptr 1 0 0 0), .fix (.ptr 2 0 0 0), .fix (.ptr 3 0 0 0), .fix (.fn 21 [] [(.ptr 3 0 0 0), (.ptr 0 0 0 0)]), .var .i, .var .i, .fix (.fn 21 [] [(.ptr 3 0 0 0), (.ptr 0 0 0 0)]), .fix (.fn 21 [] [(.ptr 3 0 0 0), (.ptr 0 0 0 0)]), J, J, .fix (.ptr 2 0 0 0), .fix (.fn 21 [] [(.ptr 3 0 0 0), (.ptr 0 0 0 0)]), J, .fix (.fn 21 [] [(.ptr 3 0 0 0), (.ptr 0 0 0 0)]), J, J, J, .fix (.ptr 2 0 0 1), .fix (.fn 21 [] [(.ptr 3 0 0 0), (.ptr 0 0 0 0)]), J, .fix (.fn 21 [] [(.ptr 3 0 0 0), (.ptr 0 0 0 0)]), J, J, J, J, J, J, J, J, J, J, J, J, J, J, J, J, J, J, J, J, J, J, J, J, J, J, J, J, J, J, J, J, .var (.list (.int .u16)), J, J, J, J, .var .i, .var .i, .fix (.bref 6 0), .fix (.bref 7 0), .var .i, .var (.list .i), .var (.list .i)], [], []⟩) <| cond (Nat.beq cx 1686) (some ⟨[.cell 2 0 2 .i, .cell 2 0 3 .i], [(4, .i), (5, .i)], 55, [.raw 1 1, .raw 4 1, .raw 4 1, .raw 1 1, .dead, .dead, .blk .i 0 true, .blk .i 0 true], [J, .fix (.ptr 0 0 0 0), .fix (.ptr 1 0 0 0), .fix (.ptr 2 0 0 0), .fix (.ptr 3 0 0 0), .fix (.fn 21 [] [(.ptr 3 0 0 0), (.ptr 0 0 0 0)]), .var .i, .var .i, .fix (.fn 21 [] [(.ptr 3 0 0 0), (.ptr 0 0 0 0)]), .fix (.fn 21 [] [(.ptr 3 0 0 0), (.ptr 0 0 0 0)]), J, J, .fix (.ptr 2 0 0 0), .fix (.fn 21 [] [(.ptr 3 0 0 0), (.ptr 0 0 0 0)]), J, .fix (.fn 21 [] [(.ptr 3 0 0 0), (.ptr 0 0 0 0)]), J, J, J, .fix (.ptr 2 0 0 1), .fix (.fn 21 [] [(.ptr 3 0 0 0), (.ptr 0 0 0 0)]), J, .fix (.fn 21 [] [(.ptr 3 0 0 0), (.ptr 0 0 0 0)]), J, J, J, J, J, J, J, J, J, J, J, J, J, J, J, J, J, J, J, J, J, J, J, J, J, J, J, J, J, J, J, J, .var (.list (.int .u16)), J, J, J, J, .var .i, .var .i, .fix (.bref 6 0), .fix (.bref 7 0), .var .i, .var (.list .i), .var (.list .i)], [], []⟩) <| cond (Nat.beq cx 1689) (some ⟨[.cell 2 0 2 .i, .cell 2 0 3 .i], [(4, .i), (5, .i)], 55, [.raw 1 1, .raw 4 1, .raw 4 1, .raw 1 1, .dead, .dead, .blk .i 0 true, .blk .i 0 true], [J, .fix (.ptr 0 0 0 0), .fix (.ptr 1 0 0 0), .fix (.ptr 2 0 0 0), .fix (.ptr 3 0 0 0), .fix (.fn 21 [] [(.ptr 3 0 0 0), (.ptr 0 0 0 0)]), .var .i, .var .i, .fix (.fn 21 [] [(.ptr 3 0 0 0), (.ptr 0 0 0 0)]), .fix (.fn 21 [] [(.ptr 3 0 0 0), (.ptr 0 0 0 0)]), J, J, .fix (.ptr 2 0 0 0), .fix (.fn 21 [] [(.ptr 3 0 0 0), (.ptr 0 0 0 0)]), J, .fix (.fn 21 [] [(.ptr 3 0 0 0), (.ptr 0 0 0 0)]), J, J, J, .fix (.ptr 2 0 0 1), .fix (.fn 21 [] [(.ptr 3 0 0 0), (.ptr 0 0 0 0)]), J, .fix (.fn 21 [] [(.ptr 3 0 0 0), (.ptr 0 0 0 0)]), J, J, J, J, J, J, J, J, J, J, J, J, J, J, J, J, J, J, J, J, J, J, J, J, J, J, J, J, J, J, J, J, .var (.list (.int .u16)), J, J, J, J, .var .i, .var .i, .fix (.bref 6 0), .fix (.bref 7 0), .var .i, .var (.list .i), .var (.list .i)], [], []⟩) <| cond (Nat.beq cx 1690) (some ⟨[.cell 2 0 2 .i, .cell 2 0 3 .i], [(4, .i), (5, .i)], 55, [.raw 1 1, .raw 4 1, .raw 4 1, .raw 1 1, .dead, .dead, .blk .i 0 true, .blk .i 0 true], [J, .fix (.ptr 0 0 0 0), .fix (.ptr 1 0 0 0), .fix (.ptr 2 0 0 0), .fix (.ptr 3 0 0 0), .fix (.fn 21 [] [(.ptr 3 0 0 0), (.ptr 0 0 0 0)]), .var .i, .var .i, .fix (.fn 21 [] [(.ptr 3 0 0 0), (.ptr 0 0 0 0)]), .fix (.fn 21 [] [(.ptr 3 0 0 0), (.ptr 0 0 0 0)]), J, J, .fix (.ptr 2 0 0 0), .fix (.fn 21 [] [(.ptr 3 0 0 0), (.ptr 0 0 0 0)]), J, .fix (.fn 21 [] [(.ptr 3 0 0 0), (.ptr 0 0 0 0)]), J, J, J, .fix (.ptr 2 0 0 1), .fix (.fn 21 [] [(.ptr 3 0 0 0), (.ptr 0 0 0 0)]), J, .fix (.fn 21 [] [(.ptr 3 0 0 0), (.ptr 0 0 0 0)]), J, J, J, J, J, J, J, J, J, J, J, J, J, J, J, J, J, J, J, J, J, J, J, J, J, J, J, J, J, J, J, J, .var (.list (.int .u16)), J, J, J, J, .var .i, .var .i, .fix (.bref 6 0), .fix (.bref 7 0), .var .i, .var (.list .i), .var (.list .i)], [], []⟩) <| cond (Nat.beq cx 1701) (some ⟨[.cell 2 0 2 .i, .cell 2 0 3 .i], [(4, .i), (5, .i)], 55, [.raw 1 1, .raw 4 1, .raw 4 1, .raw 1 1, .dead, .dead, .blk .i 0 true, .blk .i 0 true], [J, .fix (.ptr 0 0 0 0), .fix (.ptr 1 0 0 0), .fix (.ptr 2 0 0 0), .fix (.ptr 3 0 0 0), .fix (.fn 21 [] [(.ptr 3 0 0 0), (.ptr 0 0 0 0)]), .var .i, .var .i, .fix (.fn 21 [] [(.ptr 3 0 0 0), (.ptr 0 0 0 0)]), .fix (.fn 21 [] [(.ptr 3 0 0 0), (.ptr 0 0 0 0)]), J, J, .fix (.ptr 2 0 0 0), .fix (.fn 21 [] [(.ptr 3 0 0 0), (.ptr 0 0 0 0)]), J, .fix (.fn 21 [] [(.ptr 3 0 0 0), (.ptr 0 0 0 0)]), J, J, J, .fix (.ptr 2 0 0 1), .fix (.fn 21 [] [(.ptr 3 0 0 0), (.ptr 0 0 0 0)]), J, .fix (.fn 21 [] [(.ptr 3 0 0 0), (.ptr 0 0 0 0)]), J, J, J, J, J, J, J, J, J, J, J, J, J, J, J, J, J, J, J, J, J, J, J, J, J, J, J, J, J, J, J, J, .var (.list (.int .u16)), J, J, J, J, .var .i, .var .i, .fix (.bref 6 0), .fix (.bref 7 0), .var .i, .var (.list .i), .var (.list .i)], [], []⟩) <| cond (Nat.beq cx 1702) (some ⟨[.cell 2 0 2 .i, .cell 2 0 3 .i], [(4, .i), (5, .i)], 55, [.raw 1 1, .raw 4 1, .raw 4 1, .raw 1 1, .dead, .dead, .blk .i 0 true, .blk .i 0 true], [J, .fix (.ptr 0 0 0 0), .fix (.ptr 1 0 0 0), .fix (.ptr 2 0 0 0), .fix (.ptr 3 0 0 0), .fix (.fn 21 [] [(.ptr 3 0 0 0), (.ptr 0 0 0 0)]), .var .i, .var .i, .fix (.fn 21 [] [(.ptr 3 0 0 0), (.ptr 0 0 0 0)]), .fix (.fn 21 [] [(.ptr 3 0 0 0), (.ptr 0 0 0 0)]), J, J, .fix (.ptr 2 0 0 0), .fix (.fn 21 [] [(.ptr 3 0 0 0), (.ptr 0 0 0 0)]), J, .fix (.fn 21 [] [(.ptr 3 0 0 0), (.ptr 0 0 0 0)]), J, J, J, .fix (.ptr 2 0 0 1), .fix (.fn 21 [] [(.ptr 3 0 0 0), (.ptr 0 0 0 0)]), J, .fix (.fn 21 [] [(.ptr 3 0 0 0), (.ptr 0 0 0 0)]), J, J, J, J, J, J, J, J, J, J, J, J, J, J, J, J, J, J, J, J, J, J, J, J, J, J, J, J, J, J, J, J, .var (.list (.int .u16)), J, J, J, J, .var .i, .var .i, .fix (.bref 6 0), .fix (.bref 7 0), .var .i, .var (.list .i), .var (.list .i)], [], []⟩) <| cond (Nat.beq cx 1705) (some ⟨[.cell 2 0 2 .i, .cell 2 0 3 .i], [(4, .i), (5, .i)], 55, [.raw 1 1, .raw 4 1, .raw 4 1, .raw 1 1, .dead, .dead, .blk .i 0 true, .blk .i 0 true], [J, .fix (.ptr 0 0 0 0), .fix (.ptr 1 0 0 0), .fix (.ptr 2 0 0 0), .fix (.ptr 3 0 0 0), .fix (.fn 21 [] [(.ptr 3 0 0 0), (.ptr 0 0 0 0)]), .var .i, .var .i, .fix (.fn 21 [] [(.ptr 3 0 0 0), (.ptr 0 0 0 0)]), .fix (.fn 21 [] [(.ptr 3 0 0 0), (.ptr 0 0 0 0)]), J, J, .fix (.ptr 2 0 0 0), .fix (.fn 21 [] [(.ptr 3 0 0 0), (.ptr 0 0 0 0)]), J, .fix (.fn 21 [] [(.ptr 3 0 0 0), (.ptr 0 0 0 0)]), J, J, J, .fix (.ptr 2 0 0 1), .fix (.fn 21 [] [(.ptr 3 0 0 0), (.ptr 0 0 0 0)]), J, .fix (.fn 21 [] [(.ptr 3 0 0 0), (.ptr 0 0 0 0)]), J, J, J, J, J, J, J, J, J, J, J, J, J, J, J, J, J, J, J, J, J, J, J, J, J, J, J, J, J, J, J, J, .var (.list (.int .u16)), J, J, J, J, .var .i, .var .i, .fix (.bref 6 0), .fix (.bref 7 0), .var .i, .var (.list .i), .var (.list .i)], [], []⟩) <| cond (Nat.beq cx 1706) (some ⟨[.cell 2 0 2 .i, .cell 2 0 3 .i], [(4, .i), (5, .i)], 55, [.raw 1 1, .raw 4 1, .raw 4 1, .raw 1 1, .dead, .dead, .blk .i 0 true, .blk .i 0 true], [J, .fix (.ptr 0 0 0 0), .fix (.ptr 1 0 0 0), .fix (.ptr 2 0 0 0), .fix (.ptr 3 0 0 0), .fix (.fn 21 [] [(.ptr 3 0 0 0), (.ptr 0 0 0 0)]), .var .i, .var .i, .fix (.fn 21 [] [(.ptr 3 0 0 0), (.ptr 0 0 0 0)]), .fix (.fn 21 [] [(.ptr 3 0 0 0), (.ptr 0 0 0 0)]), J, J, .fix (.ptr 2 0 0 0), .fix (.fn 21 [] [(.ptr 3 0 0 0), (.ptr 0 0 0 0)]), J, .fix (.fn 21 [] [(.ptr 3 0 0 0), (.ptr 0 0 0 0)]), J, J, J, .fix (.ptr 2 0 0 1), .fix (.fn 21 [] [(.ptr 3 0 0 0), (.ptr 0 0 0 0)]), J, .fix (.fn 21 [] [(.ptr 3 0 0 0), (.ptr 0 0 0 0)]), J, J, J, J, J, J, J, J, J, J, J, J, J, J, J, J, J, J, J, J, J, J, J, J, J, J, J, J, J, J, J, J, .var (.list (.int .u16)), J, J, J, J, .var .i, .var .i, .fix (.bref 6 0), .fix (.bref 7 0), .var .i, .var (.list .i), .var (.list .i)], [], []⟩) <| none
noncomputable def gh_law03_Made : Nat → Nat → Option (Nat × Nat) := fun _ _ => none
theorem t_law03_Made (N : Nat) (a0 : (List Int)) : symF (seat.mk' (spOf L_ref05_New) tm_law03_Made gh_law03_Made) N 400 9 [(.list (.int .u16))] [.record] a0 = G_law03_Made N a0 := by kernel_rfl
noncomputable def L_law03_Made : List (FuncId × Spec) := (9, ⟨[(.list (.int .u16))], [.record], S_law03_Made⟩) :: L_ref05_New
theorem ok_law03_Made : OrcOk Try.prog (orcOf L_law03_Made) := specs_cons sseat good primOk ok_ref05_New (by kernel_rfl) ⟨_, Try.func9, by rfl⟩ (tm := tm_law03_Made) (gh := gh_law03_Made) fun x y h => by obtain ⟨N, h⟩ := lim_spec h; exact ⟨N, 400, (t_law03_Made N x).trans h⟩
noncomputable def tm_ref04_Make : Nat → Option Tmpl := fun _ => none
noncomputable def gh_ref04_Make : Nat → Nat → Option (Nat × Nat) := fun _ _ => none
theorem t_ref04_Make (N : Nat) (a0 : Write) : symF (seat.mk' (spOf L_law03_Made) tm_ref04_Make gh_ref04_Make) N 400 24 [.write] [.page, .i] a0 = G_ref04_Make a0 := by kernel_rfl
noncomputable def L_ref04_Make : List (FuncId × Spec) := (24, ⟨[.write], [.page, .i], S_ref04_Make⟩) :: L_law03_Made
theorem ok_ref04_Make : OrcOk Try.prog (orcOf L_ref04_Make) := specs_cons sseat good primOk ok_law03_Made (by kernel_rfl) ⟨_, Try.func24, by rfl⟩ (tm := tm_ref04_Make) (gh := gh_ref04_Make) fun x y h => ⟨0, 400, (t_ref04_Make 0 x).trans h⟩
noncomputable def tm_law06_Page : Nat → Option Tmpl := fun _ => none
noncomputable def gh_law06_Page : Nat → Nat → Option (Nat × Nat) := fun _ _ => none
theorem t_law06_Page (N : Nat) (a0 : Int) (a1 : (List Int)) : symF (seat.mk' (spOf L_ref04_Make) tm_law06_Page gh_law06_Page) N 400 46 [.i, (.list (.int .u16))] [.page] (a0, a1) = G_law06_Page a0 a1 := by kernel_rfl
noncomputable def L_law06_Page : List (FuncId × Spec) := (46, ⟨[.i, (.list (.int .u16))], [.page], S_law06_Page⟩) :: L_ref04_Make
theorem ok_law06_Page : OrcOk Try.prog (orcOf L_law06_Page) := specs_cons sseat good primOk ok_ref04_Make (by kernel_rfl) ⟨_, Try.func46, by rfl⟩ (tm := tm_law06_Page) (gh := gh_law06_Page) fun x y h => ⟨0, 400, (t_law06_Page 0 x.1 x.2).trans h⟩
noncomputable def tm_ref05_Erase : Nat → Option Tmpl := fun cx => cond (Nat.beq cx 5) (some ⟨[.tmp 3 .block], [(5, .block)], 29, [.raw 4 1, .raw 4 1, .raw 4 1, .st .chip, .raw 4 1, .dead, .nst true 0 true], [J, .fix (.ptr 3 0 0 0), .fix (.ptr 4 0 0 0), .fix (.bref 6 0), .var .i, J, J, J, J, J, J, J, J, J, J, J, J, J, J, J, J, J, J, J, J, J, J, J, J, J, J, J, J, J, J, J, J, J, J, J, J, .agg .chip, J, J, J, J, .var (.list .block)], [.nest 6 true], [.abs 6]⟩) <| cond (Nat.beq cx 26) (some ⟨[.tmp 3 .block], [(5, .block)], 29, [.raw 4 1, .st .fate, .raw 4 1, .st .chip, .raw 4 1, .dead, .nst true 0 true], [J, .fix (.ptr 3 0 0 0), .fix (.ptr 4 0 0 0), .fix (.bref 6 0), .var .i, J, J, J, J, J, J, J, J, J, J, J, J, J, J, J, J, J, J, J, J, J, J, J, J, J, J, J, J, .agg .fate, J, J, J, J, .agg .chip, J, J, J, J, .var (.list .block)], [.nest 6 true], [.abs 6]⟩) <| cond (Nat.beq cx 1722) (some ⟨[], [], 112, [.raw 4 1, .st .fate, .raw 4 1, .raw 4 1, .raw 4 1, .dead, .nst true 0 false, .raw 4 1], [J, J, J, .fix (.ptr 0 0 0 0), J, .fix (.ptr 1 0 0 0), .fix (.ptr 2 0 0 0), J, .fix (.ptr 7 0 0 0), .pt 6 0 0, .var .i, .fix (.ptr 0 0 0 2), J, J, J, J, J, J, J, .fix (.ptr 0 0 0 0), J, J, J, J, J, .fix (.ptr 0 0 0 0), J, J, J, J, J, J, J, .fix (.ptr 1 0 0 0), J, J, J, J, .fix (.ptr 1 0 0 0), J, J, J, J, J, J, J, J, J, .fix (.ptr 7 0 0 3), J, J, .fix (.ptr 7 0 0 3), .fix (.ptr 7 0 0 0), .fix (.bref 6 0), J, J, .fix (.ptr 1 0 0 0), J, J, J, J, J, J, J, J, J, J, J, J, J, J, J, J, J, J, J, J, J, J, J, J, J, J, J, J, J, J, J, J, J, J, J, J, J, J, J, J, J, J, J, J, J, J, J, J, J, J, J, J, J, J, J, J, J, J, J, .agg .fate, J, J, J, J, .fix (.bref 6 0), J, J, J, .fix (.bref 6 0), J, J, J, .var (.list .block), .fix (.bref 6 0), .var .bool, .var .bool, .var .i], [], [.abs 6]⟩) <| none
noncomputable def gh_ref05_Erase : Nat → Nat → Option (Nat × Nat) := fun cx id => cond (Nat.beq cx 6891 && Nat.beq id 13) (some (6, 9)) <| none
theorem t_ref05_Erase (N : Nat) (a0 : Chip) (a1 : Int) (a2 : Fate) : symF (seat.mk' (spOf L_law06_Page) tm_ref05_Erase gh_ref05_Erase) N 400 47 [.chip, .i, .fate] [.chip, .i] (a0, a1, a2) = G_ref05_Erase N a0 a1 a2 := by kernel_rfl
noncomputable def L_ref05_Erase : List (FuncId × Spec) := (47, ⟨[.chip, .i, .fate], [.chip, .i], S_ref05_Erase⟩) :: L_law06_Page
theorem ok_ref05_Erase : OrcOk Try.prog (orcOf L_ref05_Erase) := specs_cons sseat good primOk ok_law06_Page (by kernel_rfl) ⟨_, Try.func47, by rfl⟩ (tm := tm_ref05_Erase) (gh := gh_ref05_Erase) fun x y h => by obtain ⟨N, h⟩ := lim_spec h; exact ⟨N, 400, (t_ref05_Erase N x.1 x.2.1 x.2.2).trans h⟩
noncomputable def tm_law06_Made : Nat → Option Tmpl := fun cx => cond (Nat.beq cx 1) (some ⟨[], [], 98, [.raw 4 1, .st .chip], [.var (.list (.int .u16)), .var .i, J, J, J, J, .fix (.ptr 0 0 0 0), .fix (.ptr 1 0 0 0), J, .var .i, .var .i, J, J, J, J, J, J, J, J, J, J, J, J, J, J, J, J, J, J, J, J, J, J, J, J, J, J, J, J, J, J, J, J, J, J, J, J, J, J, J, J, J, J, J, J, J, J, J, J, J, J, J, J, J, J, J, J, J, J, J, J, J, J, J, J, J, J, J, J, J, J, J, J, J, J, J, J, J, J, J, J, J, J, J, J, J, J, J, J, J, J, J, .agg .chip], [], []⟩) <| none
noncomputable def gh_law06_Made : Nat → Nat → Option (Nat × Nat) := fun _ _ => none
theorem t_law06_Made (N : Nat) (a0 : (List Int)) (a1 : Int) (a2 : Int) : symF (seat.mk' (spOf L_ref05_Erase) tm_law06_Made gh_law06_Made) N 400 20 [(.list (.int .u16)), .i, .i] [.chip] (a0, a1, a2) = G_law06_Made N a0 a1 a2 := by kernel_rfl
noncomputable def L_law06_Made : List (FuncId × Spec) := (20, ⟨[(.list (.int .u16)), .i, .i], [.chip], S_law06_Made⟩) :: L_ref05_Erase
theorem ok_law06_Made : OrcOk Try.prog (orcOf L_law06_Made) := specs_cons sseat good primOk ok_ref05_Erase (by kernel_rfl) ⟨_, Try.func20, by rfl⟩ (tm := tm_law06_Made) (gh := gh_law06_Made) fun x y h => by obtain ⟨N, h⟩ := lim_spec h; exact ⟨N, 400, (t_law06_Made N x.1 x.2.1 x.2.2).trans h⟩
noncomputable def tm_law15_Made : Nat → Option Tmpl := fun _ => none
noncomputable def gh_law15_Made : Nat → Nat → Option (Nat × Nat) := fun _ _ => none
theorem t_law15_Made (N : Nat) (a0 : (List Int)) (a1 : Int) : symF (seat.mk' (spOf L_law06_Made) tm_law15_Made gh_law15_Made) N 400 7 [(.list (.int .u16)), (.int .u8)] [.device] (a0, a1) = G_law15_Made a0 a1 := by kernel_rfl
noncomputable def L_law15_Made : List (FuncId × Spec) := (7, ⟨[(.list (.int .u16)), (.int .u8)], [.device], S_law15_Made⟩) :: L_law06_Made
theorem ok_law15_Made : OrcOk Try.prog (orcOf L_law15_Made) := specs_cons sseat good primOk ok_law06_Made (by kernel_rfl) ⟨_, Try.func7, by rfl⟩ (tm := tm_law15_Made) (gh := gh_law15_Made) fun x y h => ⟨0, 400, (t_law15_Made 0 x.1 x.2).trans h⟩
noncomputable def tm_law15_Fates : Nat → Option Tmpl := fun cx => cond (Nat.beq cx 1) (some ⟨[.tmp 3 .fate], [(0, .fate)], 42, [.dead, .blk .fate 0 true], [.var (.list (.int .u8)), J, J, .fix (.bref 1 0), .var .i, J, J, J, J, J, J, J, J, J, J, J, J, J, J, J, J, J, J, J, J, J, J, J, J, J, J, J, J, J, J, J, J, J, J, J, J, J, .var (.list .fate)], [], []⟩) <| none
noncomputable def gh_law15_Fates : Nat → Nat → Option (Nat × Nat) := fun _ _ => none
theorem t_law15_Fates (N : Nat) (a0 : (List Int)) : symF (seat.mk' (spOf L_law15_Made) tm_law15_Fates gh_law15_Fates) N 400 8 [(.list (.int .u8))] [(.list .fate)] a0 = G_law15_Fates N a0 := by kernel_rfl
noncomputable def L_law15_Fates : List (FuncId × Spec) := (8, ⟨[(.list (.int .u8))], [(.list .fate)], S_law15_Fates⟩) :: L_law15_Made
theorem ok_law15_Fates : OrcOk Try.prog (orcOf L_law15_Fates) := specs_cons sseat good primOk ok_law15_Made (by kernel_rfl) ⟨_, Try.func8, by rfl⟩ (tm := tm_law15_Fates) (gh := gh_law15_Fates) fun x y h => by obtain ⟨N, h⟩ := lim_spec h; exact ⟨N, 400, (t_law15_Fates N x).trans h⟩
noncomputable def tm_ref10_State : Nat → Option Tmpl := fun cx => cond (Nat.beq cx 26) (some ⟨[], [], 63, [.raw 4 1, .st .block], [J, J, J, .fix (.ptr 0 0 0 0), J, J, J, .fix (.ptr 1 0 0 0), .var .i, J, J, J, J, .fix (.ptr 0 0 0 0), J, J, J, J, J, .fix (.ptr 0 0 0 0), J, J, J, J, J, J, .fix (.ptr 0 0 0 0), J, J, J, J, J, J, J, J, J, J, J, J, J, J, J, J, J, J, J, J, J, J, J, J, J, J, J, J, J, J, J, J, J, J, J, J, J, J, J, J, .agg .block], [], []⟩) <| none
noncomputable def gh_ref10_State : Nat → Nat → Option (Nat × Nat) := fun _ _ => none
theorem t_ref10_State (N : Nat) (a0 : Chip) (a1 : Int) (a2 : Int) : symF (seat.mk' (spOf L_law15_Fates) tm_ref10_State gh_ref10_State) N 400 50 [.chip, .i, .i] [.i] (a0, a1, a2) = G_ref10_State N a0 a1 a2 := by kernel_rfl
noncomputable def L_ref10_State : List (FuncId × Spec) := (50, ⟨[.chip, .i, .i], [.i], S_ref10_State⟩) :: L_law15_Fates
theorem ok_ref10_State : OrcOk Try.prog (orcOf L_ref10_State) := specs_cons sseat good primOk ok_law15_Fates (by kernel_rfl) ⟨_, Try.func50, by rfl⟩ (tm := tm_ref10_State) (gh := gh_ref10_State) fun x y h => by obtain ⟨N, h⟩ := lim_spec h; exact ⟨N, 400, (t_ref10_State N x.1 x.2.1 x.2.2).trans h⟩
noncomputable def tm_ref11_Rest : Nat → Option Tmpl := fun _ => none
noncomputable def gh_ref11_Rest : Nat → Nat → Option (Nat × Nat) := fun _ _ => none
theorem t_ref11_Rest (N : Nat) (a0 : Chip) (a1 : Int) : symF (seat.mk' (spOf L_ref10_State) tm_ref11_Rest gh_ref11_Rest) N 400 25 [.chip, .i] [.i] (a0, a1) = G_ref11_Rest a0 a1 := by kernel_rfl
noncomputable def L_ref11_Rest : List (FuncId × Spec) := (25, ⟨[.chip, .i], [.i], S_ref11_Rest⟩) :: L_ref10_State
theorem ok_ref11_Rest : OrcOk Try.prog (orcOf L_ref11_Rest) := specs_cons sseat good primOk ok_ref10_State (by kernel_rfl) ⟨_, Try.func25, by rfl⟩ (tm := tm_ref11_Rest) (gh := gh_ref11_Rest) fun x y h => ⟨0, 400, (t_ref11_Rest 0 x.1 x.2).trans h⟩
noncomputable def tm_ref10_Pick : Nat → Option Tmpl := fun cx => cond (Nat.beq cx 1) (some ⟨[], [], 40, [.st .chip], [J, .var .i, .fix (.ptr 0 0 0 0), J, J, .var .i, .var .i, J, J, J, J, J, J, J, J, J, J, J, J, J, J, J, J, J, J, J, J, J, J, J, J, J, J, J, J, J, J, J, J, J, .agg .chip], [], []⟩) <| none
noncomputable def gh_ref10_Pick : Nat → Nat → Option (Nat × Nat) := fun _ _ => none
theorem t_ref10_Pick (N : Nat) (a0 : Chip) (a1 : Int) : symF (seat.mk' (spOf L_ref11_Rest) tm_ref10_Pick gh_ref10_Pick) N 400 26 [.chip, .i] [.i] (a0, a1) = G_ref10_Pick N a0 a1 := by kernel_rfl
noncomputable def L_ref10_Pick : List (FuncId × Spec) := (26, ⟨[.chip, .i], [.i], S_ref10_Pick⟩) :: L_ref11_Rest
theorem ok_ref10_Pick : OrcOk Try.prog (orcOf L_ref10_Pick) := specs_cons sseat good primOk ok_ref11_Rest (by kernel_rfl) ⟨_, Try.func26, by rfl⟩ (tm := tm_ref10_Pick) (gh := gh_ref10_Pick) fun x y h => by obtain ⟨N, h⟩ := lim_spec h; exact ⟨N, 400, (t_ref10_Pick N x.1 x.2).trans h⟩
noncomputable def tm_ref15_Fate : Nat → Option Tmpl := fun _ => none
noncomputable def gh_ref15_Fate : Nat → Nat → Option (Nat × Nat) := fun _ _ => none
theorem t_ref15_Fate (N : Nat) (a0 : (List Fate)) : symF (seat.mk' (spOf L_ref10_Pick) tm_ref15_Fate gh_ref15_Fate) N 400 27 [(.list .fate)] [.fate, (.list .fate)] a0 = G_ref15_Fate a0 := by kernel_rfl
noncomputable def L_ref15_Fate : List (FuncId × Spec) := (27, ⟨[(.list .fate)], [.fate, (.list .fate)], S_ref15_Fate⟩) :: L_ref10_Pick
theorem ok_ref15_Fate : OrcOk Try.prog (orcOf L_ref15_Fate) := specs_cons sseat good primOk ok_ref10_Pick (by kernel_rfl) ⟨_, Try.func27, by rfl⟩ (tm := tm_ref15_Fate) (gh := gh_ref15_Fate) fun x y h => ⟨0, 400, (t_ref15_Fate 0 x).trans h⟩
noncomputable def tm_ref15_Put : Nat → Option Tmpl := fun cx => cond (Nat.beq cx 6) (some ⟨[], [], 104, [.st .device, .st .write, .raw 12 1, .st .page], [J, J, .var (.list .fate), .fix (.ptr 0 0 0 0), .fix (.ptr 1 0 0 0), J, .fix (.ptr 2 0 0 0), J, J, .fix (.ptr 3 0 0 0), J, J, J, J, .fix (.ptr 0 0 0 10), J, .fix (.ptr 1 0 0 1), .fix (.ptr 1 0 0 2), J, J, J, J, J, J, J, J, J, J, J, J, J, J, J, J, J, J, J, J, J, J, J, J, J, J, J, J, J, J, J, J, J, J, J, J, J, J, J, J, J, J, J, J, J, J, J, J, J, J, J, J, J, J, J, J, J, J, J, J, J, J, J, J, J, J, J, J, J, J, J, J, J, J, J, J, J, J, J, J, J, J, J, J, J, J, .agg .device, .agg .write, J, J, J, J, J, J, J, J, J, J, J, J, .agg .page], [], []⟩) <| none
noncomputable def gh_ref15_Put : Nat → Nat → Option (Nat × Nat) := fun _ _ => none
theorem t_ref15_Put (N : Nat) (a0 : Device) (a1 : Write) (a2 : (List Fate)) : symF (seat.mk' (spOf L_ref15_Fate) tm_ref15_Put gh_ref15_Put) N 400 11 [.device, .write, (.list .fate)] [.device, (.list .fate), .i] (a0, a1, a2) = G_ref15_Put N a0 a1 a2 := by kernel_rfl
noncomputable def L_ref15_Put : List (FuncId × Spec) := (11, ⟨[.device, .write, (.list .fate)], [.device, (.list .fate), .i], S_ref15_Put⟩) :: L_ref15_Fate
theorem ok_ref15_Put : OrcOk Try.prog (orcOf L_ref15_Put) := specs_cons sseat good primOk ok_ref15_Fate (by kernel_rfl) ⟨_, Try.func11, by rfl⟩ (tm := tm_ref15_Put) (gh := gh_ref15_Put) fun x y h => by obtain ⟨N, h⟩ := lim_spec h; exact ⟨N, 400, (t_ref15_Put N x.1 x.2.1 x.2.2).trans h⟩
noncomputable def tm_cmp_isNaN : Nat → Option Tmpl := fun _ => none
noncomputable def gh_cmp_isNaN : Nat → Nat → Option (Nat × Nat) := fun _ _ => none
theorem t_cmp_isNaN (N : Nat) (a0 : Int) : symF (seat.mk' (spOf L_ref15_Put) tm_cmp_isNaN gh_cmp_isNaN) N 400 98 [.i] [.bool] a0 = G_cmp_isNaN a0 := by kernel_rfl
noncomputable def L_cmp_isNaN : List (FuncId × Spec) := (98, ⟨[.i], [.bool], S_cmp_isNaN⟩) :: L_ref15_Put
theorem ok_cmp_isNaN : OrcOk Try.prog (orcOf L_cmp_isNaN) := specs_cons sseat good primOk ok_ref15_Put (by kernel_rfl) ⟨_, Try.func98, by rfl⟩ (tm := tm_cmp_isNaN) (gh := gh_cmp_isNaN) fun x y h => ⟨0, 400, (t_cmp_isNaN 0 x).trans h⟩
noncomputable def tm_cmp_Less : Nat → Option Tmpl := fun _ => none
noncomputable def gh_cmp_Less : Nat → Nat → Option (Nat × Nat) := fun _ _ => none
theorem t_cmp_Less (N : Nat) (a0 : Int) (a1 : Int) : symF (seat.mk' (spOf L_cmp_isNaN) tm_cmp_Less gh_cmp_Less) N 400 97 [.i, .i] [.bool] (a0, a1) = G_cmp_Less a0 a1 := by kernel_rfl
noncomputable def L_cmp_Less : List (FuncId × Spec) := (97, ⟨[.i, .i], [.bool], S_cmp_Less⟩) :: L_cmp_isNaN
theorem ok_cmp_Less : OrcOk Try.prog (orcOf L_cmp_Less) := specs_cons sseat good primOk ok_cmp_isNaN (by kernel_rfl) ⟨_, Try.func97, by rfl⟩ (tm := tm_cmp_Less) (gh := gh_cmp_Less) fun x y h => ⟨0, 400, (t_cmp_Less 0 x.1 x.2).trans h⟩
noncomputable def tm_slices_IsSorted : Nat → Option Tmpl := fun cx => cond (Nat.beq cx 1) (some ⟨[], [], 21, [], [.var (.list .i), J, J, .var .i, J, J, J, J, J, J, J, J, J, J, J, J, J, J, J, J, J], [], []⟩) <| none
noncomputable def gh_slices_IsSorted : Nat → Nat → Option (Nat × Nat) := fun _ _ => none
theorem t_slices_IsSorted (N : Nat) (a0 : (List Int)) : symF (seat.mk' (spOf L_cmp_Less) tm_slices_IsSorted gh_slices_IsSorted) N 400 93 [(.list .i)] [.bool] a0 = G_slices_IsSorted N a0 := by kernel_rfl
noncomputable def L_slices_IsSorted : List (FuncId × Spec) := (93, ⟨[(.list .i)], [.bool], S_slices_IsSorted⟩) :: L_cmp_Less
theorem ok_slices_IsSorted : OrcOk Try.prog (orcOf L_slices_IsSorted) := specs_cons sseat good primOk ok_cmp_Less (by kernel_rfl) ⟨_, Try.func93, by rfl⟩ (tm := tm_slices_IsSorted) (gh := gh_slices_IsSorted) fun x y h => by obtain ⟨N, h⟩ := lim_spec h; exact ⟨N, 400, (t_slices_IsSorted N x).trans h⟩
noncomputable def tm_tag_keys : Nat → Option Tmpl := fun cx => cond (Nat.beq cx 1) (some ⟨[], [], 19, [], [.var (.list .i), .fix (.fn 92 [] []), J, J, J, J, J, .var .i, .var .i, J, J, J, J, J, J, J, J, J, J], [], []⟩) <| cond (Nat.beq cx 5) (some ⟨[], [], 19, [.blk .i 0 false], [.var (.list .i), .fix (.fn 92 [] []), J, J, J, J, J, .var .i, .var .i, J, J, J, J, J, J, J, J, J, J, .var (.list .i)], [], []⟩) <| cond (Nat.beq cx 6) (some ⟨[], [], 61, [.blk .i 0 false], [.fix (.bref 0 0), J, J, .var .i, J, J, .fix (.bref 0 0), J, J, J, J, J, J, J, J, J, J, J, J, J, J, J, J, J, J, J, J, J, J, J, J, J, J, J, J, J, J, J, J, J, J, J, J, J, J, J, J, J, J, J, J, J, J, J, J, J, J, J, J, J, J, .var (.list .i)], [], []⟩) <| cond (Nat.beq cx 110) (some ⟨[], [], 19, [.blk .i 0 false], [.var (.list .i), .fix (.fn 92 [] []), J, J, J, J, J, .var .i, .var .i, J, J, J, J, J, J, J, J, J, J, .var (.list .i)], [], []⟩) <| cond (Nat.beq cx 437) (some ⟨[], [], 61, [.blk .i 0 false, .dead, .dead, .dead, .dead, .dead, .dead, .dead, .dead, .dead, .dead], [.fix (.bref 0 0), J, J, .var .i, .sub 0 0, .var .i, .fix (.bref 0 0), J, J, J, J, .fix (.bref 0 0), J, J, J, J, .fix (.bref 0 0), J, J, J, .fix (.bref 0 0), J, J, J, J, J, .fix (.bref 0 0), J, J, J, J, J, J, J, J, J, J, J, J, J, J, J, J, J, J, J, J, J, J, J, J, J, J, J, J, J, J, J, J, J, J, .var (.list .i)], [], []⟩) <| cond (Nat.beq cx 7006) (some ⟨[], [], 19, [.blk .i 0 false, .dead, .dead, .dead, .dead, .dead, .dead, .dead, .dead, .dead, .dead], [.var (.list .i), .fix (.fn 92 [] []), J, J, J, J, J, .var .i, .var .i, J, J, J, J, J, J, J, J, J, J, .var (.list .i)], [], []⟩) <| none
noncomputable def gh_tag_keys : Nat → Nat → Option (Nat × Nat) := fun _ _ => none
theorem t_tag_keys (N : Nat) (a0 : (List Int)) : symF (seat.mk' (spOf L_slices_IsSorted) tm_tag_keys gh_tag_keys) N 400 84 [(.list .i)] [.bool] a0 = G_tag_keys N a0 := by kernel_rfl
noncomputable def L_tag_keys : List (FuncId × Spec) := (84, ⟨[(.list .i)], [.bool], S_tag_keys⟩) :: L_slices_IsSorted
theorem ok_tag_keys : OrcOk Try.prog (orcOf L_tag_keys) := specs_cons sseat good primOk ok_slices_IsSorted (by kernel_rfl) ⟨_, Try.func84, by rfl⟩ (tm := tm_tag_keys) (gh := gh_tag_keys) fun x y h => by obtain ⟨N, h⟩ := lim_spec h; exact ⟨N, 400, (t_tag_keys N x).trans h⟩
noncomputable def tm_tag_Right : Nat → Option Tmpl := fun cx => cond (Nat.beq cx 106) (some ⟨[], [], 19, [.st .record], [.var (.list .i), .fix (.fn 83 [] []), J, J, J, J, J, .var .i, .var .i, J, J, J, J, J, J, J, J, J, J, .agg .record], [], []⟩) <| none
noncomputable def gh_tag_Right : Nat → Nat → Option (Nat × Nat) := fun _ _ => none
theorem t_tag_Right (N : Nat) (a0 : Record) : symF (seat.mk' (spOf L_tag_keys) tm_tag_Right gh_tag_Right) N 400 69 [.record] [.bool] a0 = G_tag_Right N a0 := by kernel_rfl
noncomputable def L_tag_Right : List (FuncId × Spec) := (69, ⟨[.record], [.bool], S_tag_Right⟩) :: L_tag_keys
theorem ok_tag_Right : OrcOk Try.prog (orcOf L_tag_Right) := specs_cons sseat good primOk ok_tag_keys (by kernel_rfl) ⟨_, Try.func69, by rfl⟩ (tm := tm_tag_Right) (gh := gh_tag_Right) fun x y h => by obtain ⟨N, h⟩ := lim_spec h; exact ⟨N, 400, (t_tag_Right N x).trans h⟩
noncomputable def tm_tag_moved : Nat → Option Tmpl := fun cx => cond (Nat.beq cx 1) (some ⟨[], [], 22, [.blk .i 0 false], [.fix (.bref 0 0), .var .i, J, J, J, J, J, .fix (.bref 0 0), .fix (.bref 0 0), .var .i, .var .i, J, J, J, J, J, J, J, J, J, J, J, .var (.list .i)], [], []⟩) <| none
noncomputable def gh_tag_moved : Nat → Nat → Option (Nat × Nat) := fun _ _ => none
theorem t_tag_moved (N : Nat) (a0 : (List Int)) (a1 : Int) : symF (seat.mk' (spOf L_tag_Right) tm_tag_moved gh_tag_moved) N 400 70 [(.list .i), .i] [(.list .i)] (a0, a1) = G_tag_moved N a0 a1 := by kernel_rfl
noncomputable def L_tag_moved : List (FuncId × Spec) := (70, ⟨[(.list .i), .i], [(.list .i)], S_tag_moved⟩) :: L_tag_Right
theorem ok_tag_moved : OrcOk Try.prog (orcOf L_tag_moved) := specs_cons sseat good primOk ok_tag_Right (by kernel_rfl) ⟨_, Try.func70, by rfl⟩ (tm := tm_tag_moved) (gh := gh_tag_moved) fun x y h => by obtain ⟨N, h⟩ := lim_spec h; exact ⟨N, 400, (t_tag_moved N x.1 x.2).trans h⟩
noncomputable def tm_pack_Put : Nat → Option Tmpl := fun cx => cond (Nat.beq cx 6) (some ⟨[.tmp 3 (.int .u8)], [(0, (.int .u8))], 26, [.dead, .blk (.int .u8) 0 true], [.var .i, J, J, .fix (.bref 1 0), J, J, J, J, J, J, J, J, J, J, J, J, J, J, J, J, J, J, J, J, J, J, .var (.list (.int .u8))], [], []⟩) <| none
noncomputable def gh_pack_Put : Nat → Nat → Option (Nat × Nat) := fun _ _ => none
theorem t_pack_Put (N : Nat) (a0 : Int) : symF (seat.mk' (spOf L_tag_moved) tm_pack_Put gh_pack_Put) N 400 86 [.i] [.str] a0 = G_pack_Put N a0 := by kernel_rfl
noncomputable def L_pack_Put : List (FuncId × Spec) := (86, ⟨[.i], [.str], S_pack_Put⟩) :: L_tag_moved
theorem ok_pack_Put : OrcOk Try.prog (orcOf L_pack_Put) := specs_cons sseat good primOk ok_tag_moved (by kernel_rfl) ⟨_, Try.func86, by rfl⟩ (tm := tm_pack_Put) (gh := gh_pack_Put) fun x y h => by obtain ⟨N, h⟩ := lim_spec h; exact ⟨N, 400, (t_pack_Put N x).trans h⟩
noncomputable def tm_pack_Pack : Nat → Option Tmpl := fun cx => cond (Nat.beq cx 1) (some ⟨[], [], 26, [], [J, J, J, J, .var .str, J, J, J, J, J, J, .var (.list .i), .var .i, .var .i, J, J, J, J, J, J, J, J, J, J, J, J], [], []⟩) <| none
noncomputable def gh_pack_Pack : Nat → Nat → Option (Nat × Nat) := fun _ _ => none
theorem t_pack_Pack (N : Nat) (a0 : (List Int)) : symF (seat.mk' (spOf L_pack_Put) tm_pack_Pack gh_pack_Pack) N 400 71 [(.list .i)] [.str, .i] a0 = G_pack_Pack N a0 := by kernel_rfl
noncomputable def L_pack_Pack : List (FuncId × Spec) := (71, ⟨[(.list .i)], [.str, .i], S_pack_Pack⟩) :: L_pack_Put
theorem ok_pack_Pack : OrcOk Try.prog (orcOf L_pack_Pack) := specs_cons sseat good primOk ok_pack_Put (by kernel_rfl) ⟨_, Try.func71, by rfl⟩ (tm := tm_pack_Pack) (gh := gh_pack_Pack) fun x y h => by obtain ⟨N, h⟩ := lim_spec h; exact ⟨N, 400, (t_pack_Pack N x).trans h⟩
noncomputable def tm_crc_Bytes : Nat → Option Tmpl := fun cx => cond (Nat.beq cx 6) (some ⟨[], [], 23, [.blk (.int .u8) 0 false], [.var .i, J, J, .fix (.ptr 0 0 0 0), J, J, J, J, J, J, .var .i, J, J, J, J, J, J, J, J, J, J, J, J, .var (.list (.int .u8))], [], []⟩) <| none
noncomputable def gh_crc_Bytes : Nat → Nat → Option (Nat × Nat) := fun _ _ => none
theorem t_crc_Bytes (N : Nat) (a0 : Int) : symF (seat.mk' (spOf L_pack_Pack) tm_crc_Bytes gh_crc_Bytes) N 400 72 [.i] [.str] a0 = G_crc_Bytes N a0 := by kernel_rfl
noncomputable def L_crc_Bytes : List (FuncId × Spec) := (72, ⟨[.i], [.str], S_crc_Bytes⟩) :: L_pack_Pack
theorem ok_crc_Bytes : OrcOk Try.prog (orcOf L_crc_Bytes) := specs_cons sseat good primOk ok_pack_Pack (by kernel_rfl) ⟨_, Try.func72, by rfl⟩ (tm := tm_crc_Bytes) (gh := gh_crc_Bytes) fun x y h => by obtain ⟨N, h⟩ := lim_spec h; exact ⟨N, 400, (t_crc_Bytes N x).trans h⟩
noncomputable def tm_crc_Sum : Nat → Option Tmpl := fun cx => cond (Nat.beq cx 1) (some ⟨[], [], 32, [], [.var .str, J, J, .var (.int .u32), J, J, J, .var .i, .var .i, J, J, J, J, J, J, J, J, J, J, J, J, J, J, J, J, J, J, J, J, J, J, J], [], []⟩) <| cond (Nat.beq cx 29) (some ⟨[], [], 32, [], [.var .str, J, J, .var (.int .u32), J, J, J, .var .i, .var .i, J, J, J, J, J, J, J, J, .var .i, J, J, J, J, J, J, J, J, J, J, J, J, J, J], [], []⟩) <| none
noncomputable def gh_crc_Sum : Nat → Nat → Option (Nat × Nat) := fun _ _ => none
theorem t_crc_Sum (N : Nat) (a0 : Str) : symF (seat.mk' (spOf L_crc_Bytes) tm_crc_Sum gh_crc_Sum) N 400 73 [.str] [.i] a0 = G_crc_Sum N a0 := by kernel_rfl
noncomputable def L_crc_Sum : List (FuncId × Spec) := (73, ⟨[.str], [.i], S_crc_Sum⟩) :: L_crc_Bytes
theorem ok_crc_Sum : OrcOk Try.prog (orcOf L_crc_Sum) := specs_cons sseat good primOk ok_crc_Bytes (by kernel_rfl) ⟨_, Try.func73, by rfl⟩ (tm := tm_crc_Sum) (gh := gh_crc_Sum) fun x y h => by obtain ⟨N, h⟩ := lim_spec h; exact ⟨N, 400, (t_crc_Sum N x).trans h⟩
end Clk.Ytflcnadgmlebcaa
