/- A part of the proof of ReplayPlaces: an evaluator of the program's code that the kernel runs, its soundness, what the functions compute. -/
import Derived.Test.YtnkakbjfdfoehabPartD
set_option linter.unusedVariables false
set_option linter.unusedSimpArgs false
namespace Clk
open Go
set_option linter.unusedVariables false
noncomputable def G_ref03_keys_L1 (ih0 : ((List Int) × Int) → Option (Bool)) (v1 : (List Int)) (v2 : Int) : Option (Bool) :=
 cond (decide (v2 < ((v1.length : Nat) : Int)))
  (cond (decide (0 ≤ v2)) (cond (decide (v2 < ((v1.length : Nat) : Int))) (cond (decide ((v1.getD (Int.toNat v2) 0) < 0))
    (some false)
    (cond (decide (0 ≤ v2)) (cond (decide (v2 < ((v1.length : Nat) : Int))) (cond (decide (64 ≤ (v1.getD (Int.toNat v2) 0)))
      (some false)
      (cond (decide (0 < v2))
        (cond (decide (0 ≤ v2)) (cond (decide (v2 < ((v1.length : Nat) : Int))) (cond (decide (0 ≤ (w64 (v2 - 1)))) (cond (decide ((w64 (v2 - 1)) < ((v1.length : Nat) : Int))) (cond (decide ((v1.getD (Int.toNat v2) 0) ≤ (v1.getD (Int.toNat (w64 (v2 - 1))) 0)))
          (some false)
          (ih0 (v1, (w64 (v2 + 1))))) none) none) none) none)
        (ih0 (v1, (w64 (v2 + 1)))))) none) none)) none) none)
  (cond (decide (0 < ((v1.length : Nat) : Int)))
    (some (decide (((v1.length : Nat) : Int) ≤ 8)))
    (some false))
noncomputable def F_ref03_keys_L1 : (((List Int) × Int) → Option (Bool)) → ((List Int) × Int) → Option (Bool) := fun ih x => G_ref03_keys_L1 ih x.1 x.2
theorem F_ref03_keys_L1_eq (ih : ((List Int) × Int) → Option (Bool)) (x : (List Int) × Int) : F_ref03_keys_L1 ih x = G_ref03_keys_L1 ih x.1 x.2 := rfl
noncomputable def G_ref03_keys (N : Nat) (a0 : (List Int)) : Option (Bool) :=
 iterF F_ref03_keys_L1 N (a0, 0)
noncomputable def S_ref03_keys (x : (List Int)) : Option (Bool) := lim fun N => G_ref03_keys N x
noncomputable def G_ref03_Right_L1 (ih0 : (Int × Record) → Option (Bool)) (v1 : Int) (v2 : Record) : Option (Bool) :=
 cond (decide (v1 < ((v2.values.length : Nat) : Int)))
  (cond (decide (0 ≤ v1)) (cond (decide (v1 < ((v2.values.length : Nat) : Int))) (cond (decide ((v2.values.getD (Int.toNat v1) 0) < (-1)))
    (some false)
    (cond (decide (0 ≤ v1)) (cond (decide (v1 < ((v2.values.length : Nat) : Int))) (cond (decide (512 ≤ (v2.values.getD (Int.toNat v1) 0)))
      (some false)
      (ih0 ((w64 (v1 + 1)), v2))) none) none)) none) none)
  (cond (decide (v2.kind = 2))
    (some (decide (((v2.values.length : Nat) : Int) = ((v2.keys.length : Nat) : Int))))
    (some false))
noncomputable def F_ref03_Right_L1 : ((Int × Record) → Option (Bool)) → (Int × Record) → Option (Bool) := fun ih x => G_ref03_Right_L1 ih x.1 x.2
theorem F_ref03_Right_L1_eq (ih : (Int × Record) → Option (Bool)) (x : Int × Record) : F_ref03_Right_L1 ih x = G_ref03_Right_L1 ih x.1 x.2 := rfl
noncomputable def G_ref03_Right (N : Nat) (a0 : Record) : Option (Bool) :=
 cond (decide (a0.seq < 0))
  (some false)
  (cond (decide (1099511627776 < a0.seq))
    (some false)
    (Option.bind (S_ref03_keys a0.keys) fun r1 =>
    cond (!r1)
     (some false)
     (cond (decide (a0.kind = 1))
       (some (decide (((a0.values.length : Nat) : Int) = 0)))
       (iterF F_ref03_Right_L1 N (0, a0)))))
noncomputable def S_ref03_Right (x : Record) : Option (Bool) := lim fun N => G_ref03_Right N x
noncomputable def G_ref02_Put_L1 (ih0 : (Int × Str) → Option (Str)) (v1 : Int) (v2 : Str) : Option (Str) :=
 cond (decide (127 < v1))
  (cond (decide (v2.length + (bytesOf [(Go.IntKind.u8.wrap (w64 (128 + (Int.tmod v1 128))))]).length ≤ 9223372036854775807)) (ih0 ((w64 (Int.tdiv v1 128)), (v2 ++ (bytesOf [(Go.IntKind.u8.wrap (w64 (128 + (Int.tmod v1 128))))])))) none)
  (cond (decide (v2.length + (bytesOf [(Go.IntKind.u8.wrap v1)]).length ≤ 9223372036854775807)) (some (v2 ++ (bytesOf [(Go.IntKind.u8.wrap v1)]))) none)
noncomputable def F_ref02_Put_L1 : ((Int × Str) → Option (Str)) → (Int × Str) → Option (Str) := fun ih x => G_ref02_Put_L1 ih x.1 x.2
theorem F_ref02_Put_L1_eq (ih : (Int × Str) → Option (Str)) (x : Int × Str) : F_ref02_Put_L1 ih x = G_ref02_Put_L1 ih x.1 x.2 := rfl
noncomputable def G_ref02_Put (N : Nat) (a0 : Int) : Option (Str) :=
 cond (decide (a0 < 0))
  (some [])
  (cond (decide (1099511627776 < a0))
    (some [])
    (iterF F_ref02_Put_L1 N (a0, [])))
noncomputable def S_ref02_Put (x : Int) : Option (Str) := lim fun N => G_ref02_Put N x
noncomputable def G_ref02_Pack_L1 (ih0 : ((List Int) × Str × Int) → Option (Str × Int)) (v1 : (List Int)) (v2 : Str) (v3 : Int) : Option (Str × Int) :=
 cond (decide (v3 < ((v1.length : Nat) : Int)))
  (cond (decide (0 ≤ v3)) (cond (decide (v3 < ((v1.length : Nat) : Int))) (Option.bind (S_ref02_Put (v1.getD (Int.toNat v3) 0)) fun r4 =>
  cond (decide (r4 = []))
   (some ([], 1))
   (cond (decide (v2.length + r4.length ≤ 9223372036854775807)) (ih0 (v1, (v2 ++ r4), (w64 (v3 + 1)))) none)) none) none)
  (some (v2, 0))
noncomputable def F_ref02_Pack_L1 : (((List Int) × Str × Int) → Option (Str × Int)) → ((List Int) × Str × Int) → Option (Str × Int) := fun ih x => G_ref02_Pack_L1 ih x.1 x.2.1 x.2.2
theorem F_ref02_Pack_L1_eq (ih : ((List Int) × Str × Int) → Option (Str × Int)) (x : (List Int) × Str × Int) : F_ref02_Pack_L1 ih x = G_ref02_Pack_L1 ih x.1 x.2.1 x.2.2 := rfl
noncomputable def G_ref02_Pack (N : Nat) (a0 : (List Int)) : Option (Str × Int) :=
 Option.bind (S_ref02_Put ((a0.length : Nat) : Int)) fun r1 =>
 iterF F_ref02_Pack_L1 N (a0, r1, 0)
noncomputable def S_ref02_Pack (x : (List Int)) : Option (Str × Int) := lim fun N => G_ref02_Pack N x
noncomputable def G_ref03_body_L1 (ih0 : (Int × Record × (List Int) × (List Int)) → Option (Str)) (v1 : Int) (v2 : Record) (v3 : (List Int)) (v4 : (List Int)) : Option (Str) :=
 cond (decide (v1 < ((v2.values.length : Nat) : Int)))
  (cond (decide (0 ≤ v1)) (cond (decide (v1 < ((v2.values.length : Nat) : Int))) (cond (decide ((v4.length + [(w64 ((v2.values.getD (Int.toNat v1) 0) + 1))].length) * 8 ≤ 70368744177664)) (cond (decide (v4.length + [(w64 ((v2.values.getD (Int.toNat v1) 0) + 1))].length ≤ 70368744177664)) (ih0 ((w64 (v1 + 1)), v2, v3, (v4 ++ [(w64 ((v2.values.getD (Int.toNat v1) 0) + 1))]))) none) none) none) none)
  (Option.bind (S_ref02_Pack v3) fun r5 =>
  Option.bind (S_ref02_Pack v2.keys) fun r6 =>
  Option.bind (S_ref02_Pack v4) fun r7 =>
  cond (decide (r5.1.length + r6.1.length ≤ 9223372036854775807)) (cond (decide ((r5.1 ++ r6.1).length + r7.1.length ≤ 9223372036854775807)) (some ((r5.1 ++ r6.1) ++ r7.1)) none) none)
noncomputable def F_ref03_body_L1 : ((Int × Record × (List Int) × (List Int)) → Option (Str)) → (Int × Record × (List Int) × (List Int)) → Option (Str) := fun ih x => G_ref03_body_L1 ih x.1 x.2.1 x.2.2.1 x.2.2.2
theorem F_ref03_body_L1_eq (ih : (Int × Record × (List Int) × (List Int)) → Option (Str)) (x : Int × Record × (List Int) × (List Int)) : F_ref03_body_L1 ih x = G_ref03_body_L1 ih x.1 x.2.1 x.2.2.1 x.2.2.2 := rfl
noncomputable def G_ref03_body (N : Nat) (a0 : Record) : Option (Str) :=
 iterF F_ref03_body_L1 N (0, a0, [a0.kind, a0.seq], [])
noncomputable def S_ref03_body (x : Record) : Option (Str) := lim fun N => G_ref03_body N x
noncomputable def G_ref01_Bytes (a0 : Int) : Option (Str) :=
 cond (decide (a0 < 0))
  (some [])
  (cond (decide (4294967295 < a0))
    (some [])
    (some (bytesOf [(Go.IntKind.u8.wrap (Int.tmod a0 256)), (Go.IntKind.u8.wrap (Int.tmod (w64 (Int.tdiv a0 256)) 256)), (Go.IntKind.u8.wrap (Int.tmod (w64 (Int.tdiv a0 65536)) 256)), (Go.IntKind.u8.wrap (w64 (Int.tdiv a0 16777216)))])))
noncomputable def S_ref01_Bytes (x : Int) : Option (Str) := G_ref01_Bytes x
noncomputable def G_ref01_step (a0 : Int) : Option (Int) :=
 cond (decide ((Int.tmod a0 2) = 1))
  (some (w64 (bXor .i64 (w64 (Int.tdiv a0 2)) 3988292384)))
  (some (w64 (Int.tdiv a0 2)))
noncomputable def S_ref01_step (x : Int) : Option (Int) := G_ref01_step x
noncomputable def G_ref01_Sum_L2 (ih0 : (Str × Int × Int) → Option (Int)) (ih1 : (Str × Int × Int × Int) → Option (Int)) (v2 : Str) (v3 : Int) (v4 : Int) (v5 : Int) : Option (Int) :=
 cond (decide (v5 < 8))
  (Option.bind (S_ref01_step v3) fun r6 =>
  ih1 (v2, r6, v4, (w64 (v5 + 1))))
  (ih0 (v2, v3, (w64 (v4 + 1))))
noncomputable def F_ref01_Sum_L2 (ih4 : (Str × Int × Int) → Option (Int)) : ((Str × Int × Int × Int) → Option (Int)) → (Str × Int × Int × Int) → Option (Int) := fun ih x => G_ref01_Sum_L2 ih4 ih x.1 x.2.1 x.2.2.1 x.2.2.2
noncomputable def G_ref01_Sum_L1 (N : Nat) (ih0 : (Str × Int × Int) → Option (Int)) (v1 : Str) (v2 : Int) (v3 : Int) : Option (Int) :=
 cond (decide (v3 < ((v1.length : Nat) : Int)))
  (cond (decide (0 ≤ v3)) (cond (decide (v3 < ((v1.length : Nat) : Int))) (iterF (F_ref01_Sum_L2 ih0) N (v1, (w64 (bXor .i64 v2 (w64 ((v1.getD (Int.toNat v3) 0).toNat : Int)))), v3, 0)) none) none)
  (some (w64 (bXor .i64 v2 4294967295)))
noncomputable def F_ref01_Sum_L1 (N : Nat) : ((Str × Int × Int) → Option (Int)) → (Str × Int × Int) → Option (Int) := fun ih x => G_ref01_Sum_L1 N ih x.1 x.2.1 x.2.2
noncomputable def G_ref01_Sum (N : Nat) (a0 : Str) : Option (Int) :=
 iterF (F_ref01_Sum_L1 N) N (a0, 4294967295, 0)
noncomputable def S_ref01_Sum (x : Str) : Option (Int) := lim fun N => G_ref01_Sum N x
noncomputable def G_ref03_Encode (a0 : Record) (a1 : Str) : Option (Str × Int) :=
 Option.bind (S_ref03_Right a0) fun r1 =>
 cond (!r1)
  (some ([], 1))
  (cond (decide (16 < ((a1.length : Nat) : Int)))
    (some ([], 1))
    (Option.bind (S_ref03_body a0) fun r2 =>
    cond (decide (r2.length + a1.length ≤ 9223372036854775807)) (Option.bind (S_ref01_Sum (r2 ++ a1)) fun r3 =>
    Option.bind (S_ref01_Bytes r3) fun r4 =>
    cond (decide (r2.length + r4.length ≤ 9223372036854775807)) (some ((r2 ++ r4), 0)) none) none))
noncomputable def S_ref03_Encode (x : Record × Str) : Option (Str × Int) := G_ref03_Encode x.1 x.2
noncomputable def G_ref02_Take_L1 (ih0 : (Str × Int × Int × Int) → Option (Int × Str × Bool)) (v1 : Str) (v2 : Int) (v3 : Int) (v4 : Int) : Option (Int × Str × Bool) :=
 cond (decide (v4 < ((v1.length : Nat) : Int)))
  (cond (decide (v4 < 6))
    (cond (decide (0 ≤ v4)) (cond (decide (v4 < ((v1.length : Nat) : Int))) (cond (decide ((w64 ((v1.getD (Int.toNat v4) 0).toNat : Int)) < 128))
      (cond (decide (1099511627776 < (w64 (v2 + (w64 ((Int.tmod (w64 ((v1.getD (Int.toNat v4) 0).toNat : Int)) 128) * v3))))))
        (some (0, [], false))
        (cond (decide (0 < v4))
          (cond (decide ((w64 ((v1.getD (Int.toNat v4) 0).toNat : Int)) = 0))
            (some (0, [], false))
            (cond (decide (0 ≤ (w64 (v4 + 1)))) (cond (decide ((w64 (v4 + 1)) ≤ ((v1.length : Nat) : Int))) (some ((w64 (v2 + (w64 ((Int.tmod (w64 ((v1.getD (Int.toNat v4) 0).toNat : Int)) 128) * v3)))), (v1.drop (Int.toNat (w64 (v4 + 1)))), true)) none) none))
          (cond (decide (0 ≤ (w64 (v4 + 1)))) (cond (decide ((w64 (v4 + 1)) ≤ ((v1.length : Nat) : Int))) (some ((w64 (v2 + (w64 ((Int.tmod (w64 ((v1.getD (Int.toNat v4) 0).toNat : Int)) 128) * v3)))), (v1.drop (Int.toNat (w64 (v4 + 1)))), true)) none) none)))
      (ih0 (v1, (w64 (v2 + (w64 ((Int.tmod (w64 ((v1.getD (Int.toNat v4) 0).toNat : Int)) 128) * v3)))), (w64 (v3 * 128)), (w64 (v4 + 1))))) none) none)
    (some (0, [], false)))
  (some (0, [], false))
noncomputable def F_ref02_Take_L1 : ((Str × Int × Int × Int) → Option (Int × Str × Bool)) → (Str × Int × Int × Int) → Option (Int × Str × Bool) := fun ih x => G_ref02_Take_L1 ih x.1 x.2.1 x.2.2.1 x.2.2.2
theorem F_ref02_Take_L1_eq (ih : (Str × Int × Int × Int) → Option (Int × Str × Bool)) (x : Str × Int × Int × Int) : F_ref02_Take_L1 ih x = G_ref02_Take_L1 ih x.1 x.2.1 x.2.2.1 x.2.2.2 := rfl
noncomputable def G_ref02_Take (N : Nat) (a0 : Str) : Option (Int × Str × Bool) :=
 iterF F_ref02_Take_L1 N (a0, 0, 1, 0)
noncomputable def S_ref02_Take (x : Str) : Option (Int × Str × Bool) := lim fun N => G_ref02_Take N x
noncomputable def G_ref02_Unpack_L1 (ih0 : (Int × Str × Int × (List Int)) → Option ((List Int) × Str × Int)) (v1 : Int) (v2 : Str) (v3 : Int) (v4 : (List Int)) : Option ((List Int) × Str × Int) :=
 cond (decide (v3 < v1))
  (Option.bind (S_ref02_Take v2) fun r5 =>
  cond (!r5.2.2)
   (some ([], [], 20))
   (cond (decide ((v4.length + [r5.1].length) * 8 ≤ 70368744177664)) (cond (decide (v4.length + [r5.1].length ≤ 70368744177664)) (ih0 (v1, r5.2.1, (w64 (v3 + 1)), (v4 ++ [r5.1]))) none) none))
  (some (v4, v2, 0))
noncomputable def F_ref02_Unpack_L1 : ((Int × Str × Int × (List Int)) → Option ((List Int) × Str × Int)) → (Int × Str × Int × (List Int)) → Option ((List Int) × Str × Int) := fun ih x => G_ref02_Unpack_L1 ih x.1 x.2.1 x.2.2.1 x.2.2.2
theorem F_ref02_Unpack_L1_eq (ih : (Int × Str × Int × (List Int)) → Option ((List Int) × Str × Int)) (x : Int × Str × Int × (List Int)) : F_ref02_Unpack_L1 ih x = G_ref02_Unpack_L1 ih x.1 x.2.1 x.2.2.1 x.2.2.2 := rfl
noncomputable def G_ref02_Unpack (N : Nat) (a0 : Str) : Option ((List Int) × Str × Int) :=
 Option.bind (S_ref02_Take a0) fun r1 =>
 cond (!r1.2.2)
  (some ([], [], 20))
  (cond (decide (((r1.2.1.length : Nat) : Int) < r1.1))
    (some ([], [], 20))
    (iterF F_ref02_Unpack_L1 N (r1.1, r1.2.1, 0, [])))
noncomputable def S_ref02_Unpack (x : Str) : Option ((List Int) × Str × Int) := lim fun N => G_ref02_Unpack N x
noncomputable def G_ref03_Decode_L1 (ih0 : (Str × Str × (List Int) × Int × Int × Int × (List Int) × (List Int)) → Option (Record × Int)) (v1 : Str) (v2 : Str) (v3 : (List Int)) (v4 : Int) (v5 : Int) (v6 : Int) (v7 : (List Int)) (v8 : (List Int)) : Option (Record × Int) :=
 cond (decide (v4 < ((v3.length : Nat) : Int)))
  (cond (decide (0 ≤ v4)) (cond (decide (v4 < ((v3.length : Nat) : Int))) (cond (decide ((v8.length + [(w64 ((v3.getD (Int.toNat v4) 0) - 1))].length) * 8 ≤ 70368744177664)) (cond (decide (v8.length + [(w64 ((v3.getD (Int.toNat v4) 0) - 1))].length ≤ 70368744177664)) (ih0 (v1, v2, v3, (w64 (v4 + 1)), v5, v6, v7, (v8 ++ [(w64 ((v3.getD (Int.toNat v4) 0) - 1))]))) none) none) none) none)
  (Option.bind (S_ref03_Encode ((Record.mk v5 v6 v7 v8), v2)) fun r9 =>
  cond (!(decide (r9.2 = 0)))
   (some ((Record.mk 0 0 [] []), 30))
   (cond (!(decide (r9.1 = v1)))
     (some ((Record.mk 0 0 [] []), 30))
     (some ((Record.mk v5 v6 v7 v8), 0))))
noncomputable def F_ref03_Decode_L1 : ((Str × Str × (List Int) × Int × Int × Int × (List Int) × (List Int)) → Option (Record × Int)) → (Str × Str × (List Int) × Int × Int × Int × (List Int) × (List Int)) → Option (Record × Int) := fun ih x => G_ref03_Decode_L1 ih x.1 x.2.1 x.2.2.1 x.2.2.2.1 x.2.2.2.2.1 x.2.2.2.2.2.1 x.2.2.2.2.2.2.1 x.2.2.2.2.2.2.2
theorem F_ref03_Decode_L1_eq (ih : (Str × Str × (List Int) × Int × Int × Int × (List Int) × (List Int)) → Option (Record × Int)) (x : Str × Str × (List Int) × Int × Int × Int × (List Int) × (List Int)) : F_ref03_Decode_L1 ih x = G_ref03_Decode_L1 ih x.1 x.2.1 x.2.2.1 x.2.2.2.1 x.2.2.2.2.1 x.2.2.2.2.2.1 x.2.2.2.2.2.2.1 x.2.2.2.2.2.2.2 := rfl
noncomputable def G_ref03_Decode (N : Nat) (a0 : Str) (a1 : Str) : Option (Record × Int) :=
 Option.bind (S_ref02_Unpack a0) fun r1 =>
 Option.bind (S_ref02_Unpack r1.2.1) fun r2 =>
 Option.bind (S_ref02_Unpack r2.2.1) fun r3 =>
 cond (!(decide (r1.2.2 = 0)))
  (some ((Record.mk 0 0 [] []), 30))
  (cond (!(decide (r2.2.2 = 0)))
    (some ((Record.mk 0 0 [] []), 30))
    (cond (!(decide (r3.2.2 = 0)))
      (some ((Record.mk 0 0 [] []), 30))
      (cond (!(decide (((r1.1.length : Nat) : Int) = 2)))
        (some ((Record.mk 0 0 [] []), 30))
        (cond (decide (0 < ((r1.1.length : Nat) : Int))) (cond (decide (1 < ((r1.1.length : Nat) : Int))) (iterF F_ref03_Decode_L1 N (a0, a1, r3.1, 0, (r1.1.getD 0 0), (r1.1.getD 1 0), r2.1, [])) none) none))))
noncomputable def S_ref03_Decode (x : Str × Str) : Option (Record × Int) := lim fun N => G_ref03_Decode N x.1 x.2
noncomputable def G_ref04_Look (a0 : Page) : Option (Int × Record) :=
 cond (!a0.written)
  (some (0, (Record.mk 0 0 [] [])))
  (Option.bind (S_ref03_Decode (a0.tag, a0.data)) fun r1 =>
  cond (!(decide (r1.2 = 0)))
   (some (2, (Record.mk 0 0 [] [])))
   (some (1, r1.1)))
noncomputable def S_ref04_Look (x : Page) : Option (Int × Record) := G_ref04_Look x
noncomputable def G_ref06_Place (a0 : Int) (a1 : Int) : Option (Int) :=
 cond (decide (a0 < 0))
  (some (-1))
  (cond (decide (32 ≤ a0))
    (some (-1))
    (cond (decide (a1 < 0))
      (some (-1))
      (cond (decide (16 ≤ a1))
        (some (-1))
        (some (w64 ((w64 (a0 * 16)) + a1))))))
noncomputable def S_ref06_Place (x : Int × Int) : Option (Int) := G_ref06_Place x.1 x.2
noncomputable def G_ref06_ahead (a0 : Found) (a1 : Found) : Option (Bool) :=
 cond (decide (a0.record.seq < a1.record.seq))
  (some true)
  (cond (decide (a0.record.seq = a1.record.seq))
    (some (decide (a0.place < a1.place)))
    (some false))
noncomputable def S_ref06_ahead (x : Found × Found) : Option (Bool) := G_ref06_ahead x.1 x.2
noncomputable def G_ref06_put_L1 (ih0 : ((List Found) × Bool × Int × Found × (List Found)) → Option ((List Found))) (v1 : (List Found)) (v2 : Bool) (v3 : Int) (v4 : Found) (v5 : (List Found)) : Option ((List Found)) :=
 cond (decide (v3 < ((v1.length : Nat) : Int)))
  (cond (!v2)
    (cond (decide (0 ≤ v3)) (cond (decide (v3 < ((v1.length : Nat) : Int))) (Option.bind (S_ref06_ahead (v4, (v1.getD (Int.toNat v3) default))) fun r6 =>
    cond r6
     (cond (decide ((v5.length + [v4].length) * 72 ≤ 70368744177664)) (cond (decide (v5.length + [v4].length ≤ 70368744177664)) (cond (decide (0 ≤ v3)) (cond (decide (v3 < ((v1.length : Nat) : Int))) (cond (decide (((v5 ++ [v4]).length + [(v1.getD (Int.toNat v3) default)].length) * 72 ≤ 70368744177664)) (cond (decide ((v5 ++ [v4]).length + [(v1.getD (Int.toNat v3) default)].length ≤ 70368744177664)) (ih0 (v1, true, (w64 (v3 + 1)), v4, ((v5 ++ [v4]) ++ [(v1.getD (Int.toNat v3) default)]))) none) none) none) none) none) none)
     (cond (decide (0 ≤ v3)) (cond (decide (v3 < ((v1.length : Nat) : Int))) (cond (decide ((v5.length + [(v1.getD (Int.toNat v3) default)].length) * 72 ≤ 70368744177664)) (cond (decide (v5.length + [(v1.getD (Int.toNat v3) default)].length ≤ 70368744177664)) (ih0 (v1, v2, (w64 (v3 + 1)), v4, (v5 ++ [(v1.getD (Int.toNat v3) default)]))) none) none) none) none)) none) none)
    (cond (decide (0 ≤ v3)) (cond (decide (v3 < ((v1.length : Nat) : Int))) (cond (decide ((v5.length + [(v1.getD (Int.toNat v3) default)].length) * 72 ≤ 70368744177664)) (cond (decide (v5.length + [(v1.getD (Int.toNat v3) default)].length ≤ 70368744177664)) (ih0 (v1, v2, (w64 (v3 + 1)), v4, (v5 ++ [(v1.getD (Int.toNat v3) default)]))) none) none) none) none))
  (cond (!v2)
    (cond (decide ((v5.length + [v4].length) * 72 ≤ 70368744177664)) (cond (decide (v5.length + [v4].length ≤ 70368744177664)) (some (v5 ++ [v4])) none) none)
    (some v5))
noncomputable def F_ref06_put_L1 : (((List Found) × Bool × Int × Found × (List Found)) → Option ((List Found))) → ((List Found) × Bool × Int × Found × (List Found)) → Option ((List Found)) := fun ih x => G_ref06_put_L1 ih x.1 x.2.1 x.2.2.1 x.2.2.2.1 x.2.2.2.2
theorem F_ref06_put_L1_eq (ih : ((List Found) × Bool × Int × Found × (List Found)) → Option ((List Found))) (x : (List Found) × Bool × Int × Found × (List Found)) : F_ref06_put_L1 ih x = G_ref06_put_L1 ih x.1 x.2.1 x.2.2.1 x.2.2.2.1 x.2.2.2.2 := rfl
noncomputable def G_ref06_put (N : Nat) (a0 : (List Found)) (a1 : Found) : Option ((List Found)) :=
 iterF F_ref06_put_L1 N (a0, false, 0, a1, [])
noncomputable def S_ref06_put (x : (List Found) × Found) : Option ((List Found)) := lim fun N => G_ref06_put N x.1 x.2
noncomputable def G_ref06_All_L2 (ih0 : ((List Found) × Int × Chip) → Option ((List Found))) (ih1 : ((List Found) × Int × Int × Chip) → Option ((List Found))) (v2 : (List Found)) (v3 : Int) (v4 : Int) (v5 : Chip) : Option ((List Found)) :=
 cond (decide (0 ≤ v3)) (cond (decide (v3 < ((v5.blocks.length : Nat) : Int))) (cond (decide (v4 < (((v5.blocks.getD (Int.toNat v3) default).pages.length : Nat) : Int)))
  (cond (decide (0 ≤ v3)) (cond (decide (v3 < ((v5.blocks.length : Nat) : Int))) (cond (decide (0 ≤ v4)) (cond (decide (v4 < (((v5.blocks.getD (Int.toNat v3) default).pages.length : Nat) : Int))) (Option.bind (S_ref04_Look ((v5.blocks.getD (Int.toNat v3) default).pages.getD (Int.toNat v4) default)) fun r6 =>
  Option.bind (S_ref06_Place (v3, v4)) fun r7 =>
  cond (decide (r6.1 = 1))
   (cond (decide (0 ≤ r7))
     (Option.bind (S_ref06_put (v2, (Found.mk r7 r6.2))) fun r8 =>
     ih1 (r8, v3, (w64 (v4 + 1)), v5))
     (ih1 (v2, v3, (w64 (v4 + 1)), v5)))
   (ih1 (v2, v3, (w64 (v4 + 1)), v5))) none) none) none) none)
  (ih0 (v2, (w64 (v3 + 1)), v5))) none) none
noncomputable def F_ref06_All_L2 (ih4 : ((List Found) × Int × Chip) → Option ((List Found))) : (((List Found) × Int × Int × Chip) → Option ((List Found))) → ((List Found) × Int × Int × Chip) → Option ((List Found)) := fun ih x => G_ref06_All_L2 ih4 ih x.1 x.2.1 x.2.2.1 x.2.2.2
theorem F_ref06_All_L2_eq (ih4 : ((List Found) × Int × Chip) → Option ((List Found))) (ih : ((List Found) × Int × Int × Chip) → Option ((List Found))) (x : (List Found) × Int × Int × Chip) : F_ref06_All_L2 ih4 ih x = G_ref06_All_L2 ih4 ih x.1 x.2.1 x.2.2.1 x.2.2.2 := rfl
noncomputable def G_ref06_All_L1 (N : Nat) (ih0 : ((List Found) × Int × Chip) → Option ((List Found))) (v1 : (List Found)) (v2 : Int) (v3 : Chip) : Option ((List Found)) :=
 cond (decide (v2 < ((v3.blocks.length : Nat) : Int)))
  (iterF (F_ref06_All_L2 ih0) N (v1, v2, 0, v3))
  (some v1)
noncomputable def F_ref06_All_L1 (N : Nat) : (((List Found) × Int × Chip) → Option ((List Found))) → ((List Found) × Int × Chip) → Option ((List Found)) := fun ih x => G_ref06_All_L1 N ih x.1 x.2.1 x.2.2
theorem F_ref06_All_L1_eq (N : Nat) (ih : ((List Found) × Int × Chip) → Option ((List Found))) (x : (List Found) × Int × Chip) : F_ref06_All_L1 N ih x = G_ref06_All_L1 N ih x.1 x.2.1 x.2.2 := rfl
noncomputable def G_ref06_All (N : Nat) (a0 : Chip) : Option ((List Found)) :=
 iterF (F_ref06_All_L1 N) N ([], 0, a0)
noncomputable def S_ref06_All (x : Chip) : Option ((List Found)) := lim fun N => G_ref06_All N x
noncomputable def G_ref05_there (a0 : Chip) (a1 : Int) (a2 : Int) : Option (Bool) :=
 cond (decide (0 ≤ a1))
  (cond (decide (a1 < ((a0.blocks.length : Nat) : Int)))
    (cond (decide (0 ≤ a2))
      (cond (decide (0 ≤ a1)) (cond (decide (a1 < ((a0.blocks.length : Nat) : Int))) (some (decide (a2 < (((a0.blocks.getD (Int.toNat a1) default).pages.length : Nat) : Int)))) none) none)
      (some false))
    (some false))
  (some false)
noncomputable def S_ref05_there (x : Chip × Int × Int) : Option (Bool) := G_ref05_there x.1 x.2.1 x.2.2
noncomputable def G_ref05_broken_L1 (ih0 : (Int × Chip × (List Block)) → Option (Chip × Int)) (v1 : Int) (v2 : Chip) (v3 : (List Block)) : Option (Chip × Int) :=
 cond (decide (v1 < ((v2.blocks.length : Nat) : Int)))
  (cond (decide (0 ≤ v1)) (cond (decide (v1 < ((v2.blocks.length : Nat) : Int))) (cond (decide ((0 + (v2.blocks.getD (Int.toNat v1) default).pages.length) * 40 ≤ 70368744177664)) (cond (decide (0 + (v2.blocks.getD (Int.toNat v1) default).pages.length ≤ 70368744177664)) (cond (decide ((v3.length + 1) * 48 ≤ 70368744177664)) (cond (decide (v3.length + 1 ≤ 70368744177664)) (ih0 ((w64 (v1 + 1)), v2, (bPages (v3 ++ [(Block.mk [] (v2.blocks.getD (Int.toNat v1) default).next (v2.blocks.getD (Int.toNat v1) default).erases (v2.blocks.getD (Int.toNat v1) default).bad)]) v3.length ([] ++ (v2.blocks.getD (Int.toNat v1) default).pages)))) none) none) none) none) none) none)
  (some ((Chip.mk v3 true v2.off v2.ops), 1))
noncomputable def F_ref05_broken_L1 : ((Int × Chip × (List Block)) → Option (Chip × Int)) → (Int × Chip × (List Block)) → Option (Chip × Int) := fun ih x => G_ref05_broken_L1 ih x.1 x.2.1 x.2.2
theorem F_ref05_broken_L1_eq (ih : (Int × Chip × (List Block)) → Option (Chip × Int)) (x : Int × Chip × (List Block)) : F_ref05_broken_L1 ih x = G_ref05_broken_L1 ih x.1 x.2.1 x.2.2 := rfl
noncomputable def G_ref05_broken (N : Nat) (a0 : Chip) : Option (Chip × Int) :=
 iterF F_ref05_broken_L1 N (0, a0, [])
noncomputable def S_ref05_broken (x : Chip) : Option (Chip × Int) := lim fun N => G_ref05_broken N x
noncomputable def G_ref05_Program_L1 (ih0 : (Int × Chip × (List Block)) → Option (Chip × Int)) (v1 : Int) (v2 : Chip) (v3 : (List Block)) : Option (Chip × Int) :=
 cond (decide (v1 < ((v2.blocks.length : Nat) : Int)))
  (cond (decide (0 ≤ v1)) (cond (decide (v1 < ((v2.blocks.length : Nat) : Int))) (cond (decide ((0 + (v2.blocks.getD (Int.toNat v1) default).pages.length) * 40 ≤ 70368744177664)) (cond (decide (0 + (v2.blocks.getD (Int.toNat v1) default).pages.length ≤ 70368744177664)) (cond (decide ((v3.length + 1) * 48 ≤ 70368744177664)) (cond (decide (v3.length + 1 ≤ 70368744177664)) (ih0 ((w64 (v1 + 1)), v2, (bPages (v3 ++ [(Block.mk [] (v2.blocks.getD (Int.toNat v1) default).next (v2.blocks.getD (Int.toNat v1) default).erases (v2.blocks.getD (Int.toNat v1) default).bad)]) v3.length ([] ++ (v2.blocks.getD (Int.toNat v1) default).pages)))) none) none) none) none) none) none)
  (some ((Chip.mk v3 v2.broken v2.off v2.ops), 52))
noncomputable def F_ref05_Program_L1 : ((Int × Chip × (List Block)) → Option (Chip × Int)) → (Int × Chip × (List Block)) → Option (Chip × Int) := fun ih x => G_ref05_Program_L1 ih x.1 x.2.1 x.2.2
theorem F_ref05_Program_L1_eq (ih : (Int × Chip × (List Block)) → Option (Chip × Int)) (x : Int × Chip × (List Block)) : F_ref05_Program_L1 ih x = G_ref05_Program_L1 ih x.1 x.2.1 x.2.2 := rfl
noncomputable def G_ref05_Program_L2 (a1 : Int) (a2 : Int) (ih0 : (Int × Page × Fate × Chip × (List Block)) → Option (Chip × Int)) (v1 : Int) (v2 : Page) (v3 : Fate) (v4 : Chip) (v5 : (List Block)) : Option (Chip × Int) :=
 cond (decide (v1 < ((v4.blocks.length : Nat) : Int)))
  (cond (decide (0 ≤ v1)) (cond (decide (v1 < ((v4.blocks.length : Nat) : Int))) (cond (decide ((0 + (v4.blocks.getD (Int.toNat v1) default).pages.length) * 40 ≤ 70368744177664)) (cond (decide (0 + (v4.blocks.getD (Int.toNat v1) default).pages.length ≤ 70368744177664)) (cond (decide ((v5.length + 1) * 48 ≤ 70368744177664)) (cond (decide (v5.length + 1 ≤ 70368744177664)) (ih0 ((w64 (v1 + 1)), v2, v3, v4, (bPages (v5 ++ [(Block.mk [] (v4.blocks.getD (Int.toNat v1) default).next (v4.blocks.getD (Int.toNat v1) default).erases (v4.blocks.getD (Int.toNat v1) default).bad)]) v5.length ([] ++ (v4.blocks.getD (Int.toNat v1) default).pages)))) none) none) none) none) none) none)
  (cond (decide (0 ≤ a1)) (cond (decide (a1 < ((v5.length : Nat) : Int))) (cond (decide ((Int.toNat a1) < v5.length)) (cond (decide (0 ≤ a1)) (cond (decide (a1 < ((v5.length : Nat) : Int))) (cond (decide ((Int.toNat a1) < v5.length)) (cond (!(decide (v3.kind = 0)))
    (cond (decide (v3.kind = 1))
      (cond (decide (0 ≤ a1)) (cond (decide (a1 < (((bNext v5 (Int.toNat a1) (w64 ((v5.getD (Int.toNat a1) default).next + 1))).length : Nat) : Int))) (cond (decide ((Int.toNat a1) < (bNext v5 (Int.toNat a1) (w64 ((v5.getD (Int.toNat a1) default).next + 1))).length)) (cond (decide (v3.kind = 2))
        (cond (decide ((Int.toNat a1) < (bBad (bNext v5 (Int.toNat a1) (w64 ((v5.getD (Int.toNat a1) default).next + 1))) (Int.toNat a1) true).length)) (cond (decide (0 ≤ a1)) (cond (decide (a1 < (((bBad (bNext v5 (Int.toNat a1) (w64 ((v5.getD (Int.toNat a1) default).next + 1))) (Int.toNat a1) true).length : Nat) : Int))) (cond (decide ((Int.toNat a1) < (bBad (bNext v5 (Int.toNat a1) (w64 ((v5.getD (Int.toNat a1) default).next + 1))) (Int.toNat a1) true).length)) (cond (decide ((Int.toNat a1) = (Int.toNat a1))) (cond (decide (0 ≤ a2)) (cond (decide (a2 < ((((bBad (bNext v5 (Int.toNat a1) (w64 ((v5.getD (Int.toNat a1) default).next + 1))) (Int.toNat a1) true).getD (Int.toNat a1) default).pages.length : Nat) : Int))) (cond (decide ((Int.toNat a2) < ((bBad (bNext v5 (Int.toNat a1) (w64 ((v5.getD (Int.toNat a1) default).next + 1))) (Int.toNat a1) true).getD (Int.toNat a1) default).pages.length)) (some ((Chip.mk (bPages (bBad (bNext v5 (Int.toNat a1) (w64 ((v5.getD (Int.toNat a1) default).next + 1))) (Int.toNat a1) true) (Int.toNat a1) (((bBad (bNext v5 (Int.toNat a1) (w64 ((v5.getD (Int.toNat a1) default).next + 1))) (Int.toNat a1) true).getD (Int.toNat a1) default).pages.set (Int.toNat a2) (Page.mk true v3.data v3.tag))) v4.broken true (w64 (v4.ops + 1))), 52)) none) none) none) none) none) none) none) none)
        (cond (decide ((Int.toNat a1) < (bBad (bNext v5 (Int.toNat a1) (w64 ((v5.getD (Int.toNat a1) default).next + 1))) (Int.toNat a1) true).length)) (cond (decide (0 ≤ a1)) (cond (decide (a1 < (((bBad (bNext v5 (Int.toNat a1) (w64 ((v5.getD (Int.toNat a1) default).next + 1))) (Int.toNat a1) true).length : Nat) : Int))) (cond (decide ((Int.toNat a1) < (bBad (bNext v5 (Int.toNat a1) (w64 ((v5.getD (Int.toNat a1) default).next + 1))) (Int.toNat a1) true).length)) (cond (decide ((Int.toNat a1) = (Int.toNat a1))) (cond (decide (0 ≤ a2)) (cond (decide (a2 < ((((bBad (bNext v5 (Int.toNat a1) (w64 ((v5.getD (Int.toNat a1) default).next + 1))) (Int.toNat a1) true).getD (Int.toNat a1) default).pages.length : Nat) : Int))) (cond (decide ((Int.toNat a2) < ((bBad (bNext v5 (Int.toNat a1) (w64 ((v5.getD (Int.toNat a1) default).next + 1))) (Int.toNat a1) true).getD (Int.toNat a1) default).pages.length)) (some ((Chip.mk (bPages (bBad (bNext v5 (Int.toNat a1) (w64 ((v5.getD (Int.toNat a1) default).next + 1))) (Int.toNat a1) true) (Int.toNat a1) (((bBad (bNext v5 (Int.toNat a1) (w64 ((v5.getD (Int.toNat a1) default).next + 1))) (Int.toNat a1) true).getD (Int.toNat a1) default).pages.set (Int.toNat a2) (Page.mk true v3.data v3.tag))) v4.broken v4.off (w64 (v4.ops + 1))), 53)) none) none) none) none) none) none) none) none)) none) none) none)
      (cond (decide (v3.kind = 2))
        (cond (decide ((Int.toNat a1) < (bNext v5 (Int.toNat a1) (w64 ((v5.getD (Int.toNat a1) default).next + 1))).length)) (cond (decide (0 ≤ a1)) (cond (decide (a1 < (((bNext v5 (Int.toNat a1) (w64 ((v5.getD (Int.toNat a1) default).next + 1))).length : Nat) : Int))) (cond (decide ((Int.toNat a1) < (bNext v5 (Int.toNat a1) (w64 ((v5.getD (Int.toNat a1) default).next + 1))).length)) (cond (decide ((Int.toNat a1) = (Int.toNat a1))) (cond (decide (0 ≤ a2)) (cond (decide (a2 < ((((bNext v5 (Int.toNat a1) (w64 ((v5.getD (Int.toNat a1) default).next + 1))).getD (Int.toNat a1) default).pages.length : Nat) : Int))) (cond (decide ((Int.toNat a2) < ((bNext v5 (Int.toNat a1) (w64 ((v5.getD (Int.toNat a1) default).next + 1))).getD (Int.toNat a1) default).pages.length)) (some ((Chip.mk (bPages (bNext v5 (Int.toNat a1) (w64 ((v5.getD (Int.toNat a1) default).next + 1))) (Int.toNat a1) (((bNext v5 (Int.toNat a1) (w64 ((v5.getD (Int.toNat a1) default).next + 1))).getD (Int.toNat a1) default).pages.set (Int.toNat a2) (Page.mk true v3.data v3.tag))) v4.broken true (w64 (v4.ops + 1))), 52)) none) none) none) none) none) none) none) none)
        (cond (decide ((Int.toNat a1) < (bNext v5 (Int.toNat a1) (w64 ((v5.getD (Int.toNat a1) default).next + 1))).length)) (cond (decide (0 ≤ a1)) (cond (decide (a1 < (((bNext v5 (Int.toNat a1) (w64 ((v5.getD (Int.toNat a1) default).next + 1))).length : Nat) : Int))) (cond (decide ((Int.toNat a1) < (bNext v5 (Int.toNat a1) (w64 ((v5.getD (Int.toNat a1) default).next + 1))).length)) (cond (decide ((Int.toNat a1) = (Int.toNat a1))) (cond (decide (0 ≤ a2)) (cond (decide (a2 < ((((bNext v5 (Int.toNat a1) (w64 ((v5.getD (Int.toNat a1) default).next + 1))).getD (Int.toNat a1) default).pages.length : Nat) : Int))) (cond (decide ((Int.toNat a2) < ((bNext v5 (Int.toNat a1) (w64 ((v5.getD (Int.toNat a1) default).next + 1))).getD (Int.toNat a1) default).pages.length)) (some ((Chip.mk (bPages (bNext v5 (Int.toNat a1) (w64 ((v5.getD (Int.toNat a1) default).next + 1))) (Int.toNat a1) (((bNext v5 (Int.toNat a1) (w64 ((v5.getD (Int.toNat a1) default).next + 1))).getD (Int.toNat a1) default).pages.set (Int.toNat a2) (Page.mk true v3.data v3.tag))) v4.broken v4.off (w64 (v4.ops + 1))), 53)) none) none) none) none) none) none) none) none)))
    (cond (decide (v3.kind = 1))
      (cond (decide (0 ≤ a1)) (cond (decide (a1 < (((bNext v5 (Int.toNat a1) (w64 ((v5.getD (Int.toNat a1) default).next + 1))).length : Nat) : Int))) (cond (decide ((Int.toNat a1) < (bNext v5 (Int.toNat a1) (w64 ((v5.getD (Int.toNat a1) default).next + 1))).length)) (cond (decide (v3.kind = 2))
        (cond (decide ((Int.toNat a1) < (bBad (bNext v5 (Int.toNat a1) (w64 ((v5.getD (Int.toNat a1) default).next + 1))) (Int.toNat a1) true).length)) (cond (decide (0 ≤ a1)) (cond (decide (a1 < (((bBad (bNext v5 (Int.toNat a1) (w64 ((v5.getD (Int.toNat a1) default).next + 1))) (Int.toNat a1) true).length : Nat) : Int))) (cond (decide ((Int.toNat a1) < (bBad (bNext v5 (Int.toNat a1) (w64 ((v5.getD (Int.toNat a1) default).next + 1))) (Int.toNat a1) true).length)) (cond (decide ((Int.toNat a1) = (Int.toNat a1))) (cond (decide (0 ≤ a2)) (cond (decide (a2 < ((((bBad (bNext v5 (Int.toNat a1) (w64 ((v5.getD (Int.toNat a1) default).next + 1))) (Int.toNat a1) true).getD (Int.toNat a1) default).pages.length : Nat) : Int))) (cond (decide ((Int.toNat a2) < ((bBad (bNext v5 (Int.toNat a1) (w64 ((v5.getD (Int.toNat a1) default).next + 1))) (Int.toNat a1) true).getD (Int.toNat a1) default).pages.length)) (some ((Chip.mk (bPages (bBad (bNext v5 (Int.toNat a1) (w64 ((v5.getD (Int.toNat a1) default).next + 1))) (Int.toNat a1) true) (Int.toNat a1) (((bBad (bNext v5 (Int.toNat a1) (w64 ((v5.getD (Int.toNat a1) default).next + 1))) (Int.toNat a1) true).getD (Int.toNat a1) default).pages.set (Int.toNat a2) (Page.mk true v2.data v2.tag))) v4.broken true (w64 (v4.ops + 1))), 52)) none) none) none) none) none) none) none) none)
        (cond (decide ((Int.toNat a1) < (bBad (bNext v5 (Int.toNat a1) (w64 ((v5.getD (Int.toNat a1) default).next + 1))) (Int.toNat a1) true).length)) (cond (decide (0 ≤ a1)) (cond (decide (a1 < (((bBad (bNext v5 (Int.toNat a1) (w64 ((v5.getD (Int.toNat a1) default).next + 1))) (Int.toNat a1) true).length : Nat) : Int))) (cond (decide ((Int.toNat a1) < (bBad (bNext v5 (Int.toNat a1) (w64 ((v5.getD (Int.toNat a1) default).next + 1))) (Int.toNat a1) true).length)) (cond (decide ((Int.toNat a1) = (Int.toNat a1))) (cond (decide (0 ≤ a2)) (cond (decide (a2 < ((((bBad (bNext v5 (Int.toNat a1) (w64 ((v5.getD (Int.toNat a1) default).next + 1))) (Int.toNat a1) true).getD (Int.toNat a1) default).pages.length : Nat) : Int))) (cond (decide ((Int.toNat a2) < ((bBad (bNext v5 (Int.toNat a1) (w64 ((v5.getD (Int.toNat a1) default).next + 1))) (Int.toNat a1) true).getD (Int.toNat a1) default).pages.length)) (some ((Chip.mk (bPages (bBad (bNext v5 (Int.toNat a1) (w64 ((v5.getD (Int.toNat a1) default).next + 1))) (Int.toNat a1) true) (Int.toNat a1) (((bBad (bNext v5 (Int.toNat a1) (w64 ((v5.getD (Int.toNat a1) default).next + 1))) (Int.toNat a1) true).getD (Int.toNat a1) default).pages.set (Int.toNat a2) (Page.mk true v2.data v2.tag))) v4.broken v4.off (w64 (v4.ops + 1))), 0)) none) none) none) none) none) none) none) none)) none) none) none)
      (cond (decide (v3.kind = 2))
        (cond (decide ((Int.toNat a1) < (bNext v5 (Int.toNat a1) (w64 ((v5.getD (Int.toNat a1) default).next + 1))).length)) (cond (decide (0 ≤ a1)) (cond (decide (a1 < (((bNext v5 (Int.toNat a1) (w64 ((v5.getD (Int.toNat a1) default).next + 1))).length : Nat) : Int))) (cond (decide ((Int.toNat a1) < (bNext v5 (Int.toNat a1) (w64 ((v5.getD (Int.toNat a1) default).next + 1))).length)) (cond (decide ((Int.toNat a1) = (Int.toNat a1))) (cond (decide (0 ≤ a2)) (cond (decide (a2 < ((((bNext v5 (Int.toNat a1) (w64 ((v5.getD (Int.toNat a1) default).next + 1))).getD (Int.toNat a1) default).pages.length : Nat) : Int))) (cond (decide ((Int.toNat a2) < ((bNext v5 (Int.toNat a1) (w64 ((v5.getD (Int.toNat a1) default).next + 1))).getD (Int.toNat a1) default).pages.length)) (some ((Chip.mk (bPages (bNext v5 (Int.toNat a1) (w64 ((v5.getD (Int.toNat a1) default).next + 1))) (Int.toNat a1) (((bNext v5 (Int.toNat a1) (w64 ((v5.getD (Int.toNat a1) default).next + 1))).getD (Int.toNat a1) default).pages.set (Int.toNat a2) (Page.mk true v2.data v2.tag))) v4.broken true (w64 (v4.ops + 1))), 52)) none) none) none) none) none) none) none) none)
        (cond (decide ((Int.toNat a1) < (bNext v5 (Int.toNat a1) (w64 ((v5.getD (Int.toNat a1) default).next + 1))).length)) (cond (decide (0 ≤ a1)) (cond (decide (a1 < (((bNext v5 (Int.toNat a1) (w64 ((v5.getD (Int.toNat a1) default).next + 1))).length : Nat) : Int))) (cond (decide ((Int.toNat a1) < (bNext v5 (Int.toNat a1) (w64 ((v5.getD (Int.toNat a1) default).next + 1))).length)) (cond (decide ((Int.toNat a1) = (Int.toNat a1))) (cond (decide (0 ≤ a2)) (cond (decide (a2 < ((((bNext v5 (Int.toNat a1) (w64 ((v5.getD (Int.toNat a1) default).next + 1))).getD (Int.toNat a1) default).pages.length : Nat) : Int))) (cond (decide ((Int.toNat a2) < ((bNext v5 (Int.toNat a1) (w64 ((v5.getD (Int.toNat a1) default).next + 1))).getD (Int.toNat a1) default).pages.length)) (some ((Chip.mk (bPages (bNext v5 (Int.toNat a1) (w64 ((v5.getD (Int.toNat a1) default).next + 1))) (Int.toNat a1) (((bNext v5 (Int.toNat a1) (w64 ((v5.getD (Int.toNat a1) default).next + 1))).getD (Int.toNat a1) default).pages.set (Int.toNat a2) (Page.mk true v2.data v2.tag))) v4.broken v4.off (w64 (v4.ops + 1))), 0)) none) none) none) none) none) none) none) none)))) none) none) none) none) none) none)
noncomputable def F_ref05_Program_L2 (a1 : Int) (a2 : Int) : ((Int × Page × Fate × Chip × (List Block)) → Option (Chip × Int)) → (Int × Page × Fate × Chip × (List Block)) → Option (Chip × Int) := fun ih x => G_ref05_Program_L2 a1 a2 ih x.1 x.2.1 x.2.2.1 x.2.2.2.1 x.2.2.2.2
theorem F_ref05_Program_L2_eq (a1 : Int) (a2 : Int) (ih : (Int × Page × Fate × Chip × (List Block)) → Option (Chip × Int)) (x : Int × Page × Fate × Chip × (List Block)) : F_ref05_Program_L2 a1 a2 ih x = G_ref05_Program_L2 a1 a2 ih x.1 x.2.1 x.2.2.1 x.2.2.2.1 x.2.2.2.2 := rfl
noncomputable def G_ref05_Program (N : Nat) (a0 : Chip) (a1 : Int) (a2 : Int) (a3 : Page) (a4 : Fate) : Option (Chip × Int) :=
 cond a0.off
  (iterF F_ref05_Program_L1 N (0, a0, []))
  (Option.bind (S_ref05_there (a0, a1, a2)) fun r5 =>
  cond (!r5)
   (Option.bind (S_ref05_broken a0) fun r6 =>
   some (r6.1, r6.2))
   (cond (decide (0 ≤ a1)) (cond (decide (a1 < ((a0.blocks.length : Nat) : Int))) (cond (a0.blocks.getD (Int.toNat a1) default).bad
     (Option.bind (S_ref05_broken a0) fun r7 =>
     some (r7.1, r7.2))
     (cond (decide (0 ≤ a1)) (cond (decide (a1 < ((a0.blocks.length : Nat) : Int))) (cond (!(decide ((a0.blocks.getD (Int.toNat a1) default).next = a2)))
       (Option.bind (S_ref05_broken a0) fun r8 =>
       some (r8.1, r8.2))
       (cond (decide (a4.kind < 0))
         (Option.bind (S_ref05_broken a0) fun r9 =>
         some (r9.1, r9.2))
         (cond (decide (2 < a4.kind))
           (Option.bind (S_ref05_broken a0) fun r10 =>
           some (r10.1, r10.2))
           (iterF (F_ref05_Program_L2 a1 a2) N (0, a3, a4, a0, []))))) none) none)) none) none))
noncomputable def S_ref05_Program (x : Chip × Int × Int × Page × Fate) : Option (Chip × Int) := lim fun N => G_ref05_Program N x.1 x.2.1 x.2.2.1 x.2.2.2.1 x.2.2.2.2
noncomputable def G_ref05_New_L2 (ih0 : (Int × (List Int) × Int × Bool × Bool × Int × (List Block)) → Option (Chip × Int)) (v1 : Int) (v2 : (List Int)) (v3 : Int) (v4 : Bool) (v5 : Bool) (v6 : Int) (v7 : (List Block)) : Option (Chip × Int) :=
 cond (decide (v3 < ((v2.length : Nat) : Int)))
  (cond (decide (0 ≤ v3)) (cond (decide (v3 < ((v2.length : Nat) : Int))) (cond (decide ((v2.getD (Int.toNat v3) 0) < 0))
    (some ((Chip.mk [] false false 0), 1))
    (cond (decide (0 ≤ v3)) (cond (decide (v3 < ((v2.length : Nat) : Int))) (cond (decide (v1 ≤ (v2.getD (Int.toNat v3) 0)))
      (some ((Chip.mk [] false false 0), 1))
      (cond (decide (0 ≤ v3)) (cond (decide (v3 < ((v2.length : Nat) : Int))) (cond (decide (0 ≤ (v2.getD (Int.toNat v3) 0))) (cond (decide ((v2.getD (Int.toNat v3) 0) < ((v7.length : Nat) : Int))) (cond (decide ((Int.toNat (v2.getD (Int.toNat v3) 0)) < v7.length)) (ih0 (v1, v2, (w64 (v3 + 1)), v4, v5, v6, (bBad v7 (Int.toNat (v2.getD (Int.toNat v3) 0)) true))) none) none) none) none) none)) none) none)) none) none)
  (some ((Chip.mk v7 v4 v5 v6), 0))
noncomputable def F_ref05_New_L2 : ((Int × (List Int) × Int × Bool × Bool × Int × (List Block)) → Option (Chip × Int)) → (Int × (List Int) × Int × Bool × Bool × Int × (List Block)) → Option (Chip × Int) := fun ih x => G_ref05_New_L2 ih x.1 x.2.1 x.2.2.1 x.2.2.2.1 x.2.2.2.2.1 x.2.2.2.2.2.1 x.2.2.2.2.2.2
theorem F_ref05_New_L2_eq (ih : (Int × (List Int) × Int × Bool × Bool × Int × (List Block)) → Option (Chip × Int)) (x : Int × (List Int) × Int × Bool × Bool × Int × (List Block)) : F_ref05_New_L2 ih x = G_ref05_New_L2 ih x.1 x.2.1 x.2.2.1 x.2.2.2.1 x.2.2.2.2.1 x.2.2.2.2.2.1 x.2.2.2.2.2.2 := rfl
noncomputable def G_ref05_New_L1 (N : Nat) (ih0 : (Int × Int × (List Int) × Int × Bool × Bool × Int × (List Block)) → Option (Chip × Int)) (v1 : Int) (v2 : Int) (v3 : (List Int)) (v4 : Int) (v5 : Bool) (v6 : Bool) (v7 : Int) (v8 : (List Block)) : Option (Chip × Int) :=
 cond (decide (v4 < v1))
  (cond (decide (0 ≤ v2)) (cond (decide (v2 ≤ v2)) (cond (decide ((v2 * 40) ≤ 70368744177664)) (cond (decide (v2 ≤ 70368744177664)) (cond (decide ((v8.length + 1) * 48 ≤ 70368744177664)) (cond (decide (v8.length + 1 ≤ 70368744177664)) (ih0 (v1, v2, v3, (w64 (v4 + 1)), v5, v6, v7, (bPages (v8 ++ [(Block.mk [] 0 0 false)]) v8.length (List.replicate (Int.toNat v2) (default : Page))))) none) none) none) none) none) none)
  (iterF F_ref05_New_L2 N (v1, v3, 0, v5, v6, v7, v8))
noncomputable def F_ref05_New_L1 (N : Nat) : ((Int × Int × (List Int) × Int × Bool × Bool × Int × (List Block)) → Option (Chip × Int)) → (Int × Int × (List Int) × Int × Bool × Bool × Int × (List Block)) → Option (Chip × Int) := fun ih x => G_ref05_New_L1 N ih x.1 x.2.1 x.2.2.1 x.2.2.2.1 x.2.2.2.2.1 x.2.2.2.2.2.1 x.2.2.2.2.2.2.1 x.2.2.2.2.2.2.2
theorem F_ref05_New_L1_eq (N : Nat) (ih : (Int × Int × (List Int) × Int × Bool × Bool × Int × (List Block)) → Option (Chip × Int)) (x : Int × Int × (List Int) × Int × Bool × Bool × Int × (List Block)) : F_ref05_New_L1 N ih x = G_ref05_New_L1 N ih x.1 x.2.1 x.2.2.1 x.2.2.2.1 x.2.2.2.2.1 x.2.2.2.2.2.1 x.2.2.2.2.2.2.1 x.2.2.2.2.2.2.2 := rfl
noncomputable def G_ref05_New (N : Nat) (a0 : Int) (a1 : Int) (a2 : (List Int)) : Option (Chip × Int) :=
 cond (decide (a0 < 1))
  (some ((Chip.mk [] false false 0), 1))
  (cond (decide (32 < a0))
    (some ((Chip.mk [] false false 0), 1))
    (cond (decide (a1 < 1))
      (some ((Chip.mk [] false false 0), 1))
      (cond (decide (16 < a1))
        (some ((Chip.mk [] false false 0), 1))
        (iterF (F_ref05_New_L1 N) N (a0, a1, a2, 0, false, false, 0, [])))))
noncomputable def S_ref05_New (x : Int × Int × (List Int)) : Option (Chip × Int) := lim fun N => G_ref05_New N x.1 x.2.1 x.2.2
noncomputable def G_law03_Made_L1 (ih0 : (Int × Int × (List Int) × Int × Int × Int × (List Int) × (List Int)) → Option (Record)) (v1 : Int) (v2 : Int) (v3 : (List Int)) (v4 : Int) (v5 : Int) (v6 : Int) (v7 : (List Int)) (v8 : (List Int)) : Option (Record) :=
 cond (decide (0 ≤ v2))
  (cond (decide (v1 < 64))
    (cond (decide ((v7.length + [v1].length) * 8 ≤ 70368744177664)) (cond (decide (v7.length + [v1].length ≤ 70368744177664)) (cond (decide (((v3.length : Nat) : Int) < (w64 (v6 + 1))))
      (cond (decide (v4 = 2))
        (cond (decide (((v3.length : Nat) : Int) < (w64 ((w64 (v6 + 1)) + 1))))
          (cond (decide ((v8.length + [(-1)].length) * 8 ≤ 70368744177664)) (cond (decide (v8.length + [(-1)].length ≤ 70368744177664)) (ih0 ((w64 ((w64 (v1 + 1)) + 0)), (w64 (v2 - 1)), v3, v4, v5, (w64 ((w64 (v6 + 1)) + 1)), (v7 ++ [v1]), (v8 ++ [(-1)]))) none) none)
          (cond (decide (0 ≤ (w64 ((w64 ((w64 (v6 + 1)) + 1)) - 1)))) (cond (decide ((w64 ((w64 ((w64 (v6 + 1)) + 1)) - 1)) < ((v3.length : Nat) : Int))) (cond (decide ((v8.length + [(w64 ((Int.tmod (w64 (v3.getD (Int.toNat (w64 ((w64 ((w64 (v6 + 1)) + 1)) - 1))) 0)) 513) - 1))].length) * 8 ≤ 70368744177664)) (cond (decide (v8.length + [(w64 ((Int.tmod (w64 (v3.getD (Int.toNat (w64 ((w64 ((w64 (v6 + 1)) + 1)) - 1))) 0)) 513) - 1))].length ≤ 70368744177664)) (ih0 ((w64 ((w64 (v1 + 1)) + 0)), (w64 (v2 - 1)), v3, v4, v5, (w64 ((w64 (v6 + 1)) + 1)), (v7 ++ [v1]), (v8 ++ [(w64 ((Int.tmod (w64 (v3.getD (Int.toNat (w64 ((w64 ((w64 (v6 + 1)) + 1)) - 1))) 0)) 513) - 1))]))) none) none) none) none))
        (ih0 ((w64 ((w64 (v1 + 1)) + 0)), (w64 (v2 - 1)), v3, v4, v5, (w64 (v6 + 1)), (v7 ++ [v1]), v8)))
      (cond (decide (0 ≤ (w64 ((w64 (v6 + 1)) - 1)))) (cond (decide ((w64 ((w64 (v6 + 1)) - 1)) < ((v3.length : Nat) : Int))) (cond (decide (v4 = 2))
        (cond (decide (((v3.length : Nat) : Int) < (w64 ((w64 (v6 + 1)) + 1))))
          (cond (decide ((v8.length + [(-1)].length) * 8 ≤ 70368744177664)) (cond (decide (v8.length + [(-1)].length ≤ 70368744177664)) (ih0 ((w64 ((w64 (v1 + 1)) + (Int.tmod (w64 (v3.getD (Int.toNat (w64 ((w64 (v6 + 1)) - 1))) 0)) 10))), (w64 (v2 - 1)), v3, v4, v5, (w64 ((w64 (v6 + 1)) + 1)), (v7 ++ [v1]), (v8 ++ [(-1)]))) none) none)
          (cond (decide (0 ≤ (w64 ((w64 ((w64 (v6 + 1)) + 1)) - 1)))) (cond (decide ((w64 ((w64 ((w64 (v6 + 1)) + 1)) - 1)) < ((v3.length : Nat) : Int))) (cond (decide ((v8.length + [(w64 ((Int.tmod (w64 (v3.getD (Int.toNat (w64 ((w64 ((w64 (v6 + 1)) + 1)) - 1))) 0)) 513) - 1))].length) * 8 ≤ 70368744177664)) (cond (decide (v8.length + [(w64 ((Int.tmod (w64 (v3.getD (Int.toNat (w64 ((w64 ((w64 (v6 + 1)) + 1)) - 1))) 0)) 513) - 1))].length ≤ 70368744177664)) (ih0 ((w64 ((w64 (v1 + 1)) + (Int.tmod (w64 (v3.getD (Int.toNat (w64 ((w64 (v6 + 1)) - 1))) 0)) 10))), (w64 (v2 - 1)), v3, v4, v5, (w64 ((w64 (v6 + 1)) + 1)), (v7 ++ [v1]), (v8 ++ [(w64 ((Int.tmod (w64 (v3.getD (Int.toNat (w64 ((w64 ((w64 (v6 + 1)) + 1)) - 1))) 0)) 513) - 1))]))) none) none) none) none))
        (ih0 ((w64 ((w64 (v1 + 1)) + (Int.tmod (w64 (v3.getD (Int.toNat (w64 ((w64 (v6 + 1)) - 1))) 0)) 10))), (w64 (v2 - 1)), v3, v4, v5, (w64 (v6 + 1)), (v7 ++ [v1]), v8))) none) none)) none) none)
    (some (Record.mk v4 v5 v7 v8)))
  (some (Record.mk v4 v5 v7 v8))
noncomputable def F_law03_Made_L1 : ((Int × Int × (List Int) × Int × Int × Int × (List Int) × (List Int)) → Option (Record)) → (Int × Int × (List Int) × Int × Int × Int × (List Int) × (List Int)) → Option (Record) := fun ih x => G_law03_Made_L1 ih x.1 x.2.1 x.2.2.1 x.2.2.2.1 x.2.2.2.2.1 x.2.2.2.2.2.1 x.2.2.2.2.2.2.1 x.2.2.2.2.2.2.2
theorem F_law03_Made_L1_eq (ih : (Int × Int × (List Int) × Int × Int × Int × (List Int) × (List Int)) → Option (Record)) (x : Int × Int × (List Int) × Int × Int × Int × (List Int) × (List Int)) : F_law03_Made_L1 ih x = G_law03_Made_L1 ih x.1 x.2.1 x.2.2.1 x.2.2.2.1 x.2.2.2.2.1 x.2.2.2.2.2.1 x.2.2.2.2.2.2.1 x.2.2.2.2.2.2.2 := rfl
noncomputable def G_law03_Made (N : Nat) (a0 : (List Int)) : Option (Record) :=
 cond (decide (((a0.length : Nat) : Int) < 1))
  (cond (decide (((a0.length : Nat) : Int) < 2))
    (cond (decide (((a0.length : Nat) : Int) < 3))
      (cond (decide (((a0.length : Nat) : Int) < 4))
        (cond (decide (((a0.length : Nat) : Int) < 5))
          (iterF F_law03_Made_L1 N (0, 0, a0, 1, 0, 5, [], []))
          (cond (decide (4 < ((a0.length : Nat) : Int))) (iterF F_law03_Made_L1 N (0, (Int.tmod (w64 (a0.getD 4 0)) 8), a0, 1, 0, 5, [], [])) none))
        (cond (decide (3 < ((a0.length : Nat) : Int))) (cond (decide (((a0.length : Nat) : Int) < 5))
          (iterF F_law03_Made_L1 N ((Int.tmod (w64 (a0.getD 3 0)) 20), 0, a0, 1, 0, 5, [], []))
          (cond (decide (4 < ((a0.length : Nat) : Int))) (iterF F_law03_Made_L1 N ((Int.tmod (w64 (a0.getD 3 0)) 20), (Int.tmod (w64 (a0.getD 4 0)) 8), a0, 1, 0, 5, [], [])) none)) none))
      (cond (decide (2 < ((a0.length : Nat) : Int))) (cond (decide (((a0.length : Nat) : Int) < 4))
        (cond (decide (((a0.length : Nat) : Int) < 5))
          (iterF F_law03_Made_L1 N (0, 0, a0, 1, (w64 (0 * (w64 (1 + (Int.tmod (w64 (a0.getD 2 0)) 1000))))), 5, [], []))
          (cond (decide (4 < ((a0.length : Nat) : Int))) (iterF F_law03_Made_L1 N (0, (Int.tmod (w64 (a0.getD 4 0)) 8), a0, 1, (w64 (0 * (w64 (1 + (Int.tmod (w64 (a0.getD 2 0)) 1000))))), 5, [], [])) none))
        (cond (decide (3 < ((a0.length : Nat) : Int))) (cond (decide (((a0.length : Nat) : Int) < 5))
          (iterF F_law03_Made_L1 N ((Int.tmod (w64 (a0.getD 3 0)) 20), 0, a0, 1, (w64 (0 * (w64 (1 + (Int.tmod (w64 (a0.getD 2 0)) 1000))))), 5, [], []))
          (cond (decide (4 < ((a0.length : Nat) : Int))) (iterF F_law03_Made_L1 N ((Int.tmod (w64 (a0.getD 3 0)) 20), (Int.tmod (w64 (a0.getD 4 0)) 8), a0, 1, (w64 (0 * (w64 (1 + (Int.tmod (w64 (a0.getD 2 0)) 1000))))), 5, [], [])) none)) none)) none))
    (cond (decide (1 < ((a0.length : Nat) : Int))) (cond (decide (((a0.length : Nat) : Int) < 3))
      (cond (decide (((a0.length : Nat) : Int) < 4))
        (cond (decide (((a0.length : Nat) : Int) < 5))
          (iterF F_law03_Made_L1 N (0, 0, a0, 1, (w64 ((Int.tmod (w64 (a0.getD 1 0)) 60000) * 1)), 5, [], []))
          (cond (decide (4 < ((a0.length : Nat) : Int))) (iterF F_law03_Made_L1 N (0, (Int.tmod (w64 (a0.getD 4 0)) 8), a0, 1, (w64 ((Int.tmod (w64 (a0.getD 1 0)) 60000) * 1)), 5, [], [])) none))
        (cond (decide (3 < ((a0.length : Nat) : Int))) (cond (decide (((a0.length : Nat) : Int) < 5))
          (iterF F_law03_Made_L1 N ((Int.tmod (w64 (a0.getD 3 0)) 20), 0, a0, 1, (w64 ((Int.tmod (w64 (a0.getD 1 0)) 60000) * 1)), 5, [], []))
          (cond (decide (4 < ((a0.length : Nat) : Int))) (iterF F_law03_Made_L1 N ((Int.tmod (w64 (a0.getD 3 0)) 20), (Int.tmod (w64 (a0.getD 4 0)) 8), a0, 1, (w64 ((Int.tmod (w64 (a0.getD 1 0)) 60000) * 1)), 5, [], [])) none)) none))
      (cond (decide (2 < ((a0.length : Nat) : Int))) (cond (decide (((a0.length : Nat) : Int) < 4))
        (cond (decide (((a0.length : Nat) : Int) < 5))
          (iterF F_law03_Made_L1 N (0, 0, a0, 1, (w64 ((Int.tmod (w64 (a0.getD 1 0)) 60000) * (w64 (1 + (Int.tmod (w64 (a0.getD 2 0)) 1000))))), 5, [], []))
          (cond (decide (4 < ((a0.length : Nat) : Int))) (iterF F_law03_Made_L1 N (0, (Int.tmod (w64 (a0.getD 4 0)) 8), a0, 1, (w64 ((Int.tmod (w64 (a0.getD 1 0)) 60000) * (w64 (1 + (Int.tmod (w64 (a0.getD 2 0)) 1000))))), 5, [], [])) none))
        (cond (decide (3 < ((a0.length : Nat) : Int))) (cond (decide (((a0.length : Nat) : Int) < 5))
          (iterF F_law03_Made_L1 N ((Int.tmod (w64 (a0.getD 3 0)) 20), 0, a0, 1, (w64 ((Int.tmod (w64 (a0.getD 1 0)) 60000) * (w64 (1 + (Int.tmod (w64 (a0.getD 2 0)) 1000))))), 5, [], []))
          (cond (decide (4 < ((a0.length : Nat) : Int))) (iterF F_law03_Made_L1 N ((Int.tmod (w64 (a0.getD 3 0)) 20), (Int.tmod (w64 (a0.getD 4 0)) 8), a0, 1, (w64 ((Int.tmod (w64 (a0.getD 1 0)) 60000) * (w64 (1 + (Int.tmod (w64 (a0.getD 2 0)) 1000))))), 5, [], [])) none)) none)) none)) none))
  (cond (decide (0 < ((a0.length : Nat) : Int))) (cond (decide (((a0.length : Nat) : Int) < 2))
    (cond (decide (((a0.length : Nat) : Int) < 3))
      (cond (decide (((a0.length : Nat) : Int) < 4))
        (cond (decide (((a0.length : Nat) : Int) < 5))
          (iterF F_law03_Made_L1 N (0, 0, a0, (w64 (1 + (Int.tmod (w64 (a0.getD 0 0)) 2))), 0, 5, [], []))
          (cond (decide (4 < ((a0.length : Nat) : Int))) (iterF F_law03_Made_L1 N (0, (Int.tmod (w64 (a0.getD 4 0)) 8), a0, (w64 (1 + (Int.tmod (w64 (a0.getD 0 0)) 2))), 0, 5, [], [])) none))
        (cond (decide (3 < ((a0.length : Nat) : Int))) (cond (decide (((a0.length : Nat) : Int) < 5))
          (iterF F_law03_Made_L1 N ((Int.tmod (w64 (a0.getD 3 0)) 20), 0, a0, (w64 (1 + (Int.tmod (w64 (a0.getD 0 0)) 2))), 0, 5, [], []))
          (cond (decide (4 < ((a0.length : Nat) : Int))) (iterF F_law03_Made_L1 N ((Int.tmod (w64 (a0.getD 3 0)) 20), (Int.tmod (w64 (a0.getD 4 0)) 8), a0, (w64 (1 + (Int.tmod (w64 (a0.getD 0 0)) 2))), 0, 5, [], [])) none)) none))
      (cond (decide (2 < ((a0.length : Nat) : Int))) (cond (decide (((a0.length : Nat) : Int) < 4))
        (cond (decide (((a0.length : Nat) : Int) < 5))
          (iterF F_law03_Made_L1 N (0, 0, a0, (w64 (1 + (Int.tmod (w64 (a0.getD 0 0)) 2))), (w64 (0 * (w64 (1 + (Int.tmod (w64 (a0.getD 2 0)) 1000))))), 5, [], []))
          (cond (decide (4 < ((a0.length : Nat) : Int))) (iterF F_law03_Made_L1 N (0, (Int.tmod (w64 (a0.getD 4 0)) 8), a0, (w64 (1 + (Int.tmod (w64 (a0.getD 0 0)) 2))), (w64 (0 * (w64 (1 + (Int.tmod (w64 (a0.getD 2 0)) 1000))))), 5, [], [])) none))
        (cond (decide (3 < ((a0.length : Nat) : Int))) (cond (decide (((a0.length : Nat) : Int) < 5))
          (iterF F_law03_Made_L1 N ((Int.tmod (w64 (a0.getD 3 0)) 20), 0, a0, (w64 (1 + (Int.tmod (w64 (a0.getD 0 0)) 2))), (w64 (0 * (w64 (1 + (Int.tmod (w64 (a0.getD 2 0)) 1000))))), 5, [], []))
          (cond (decide (4 < ((a0.length : Nat) : Int))) (iterF F_law03_Made_L1 N ((Int.tmod (w64 (a0.getD 3 0)) 20), (Int.tmod (w64 (a0.getD 4 0)) 8), a0, (w64 (1 + (Int.tmod (w64 (a0.getD 0 0)) 2))), (w64 (0 * (w64 (1 + (Int.tmod (w64 (a0.getD 2 0)) 1000))))), 5, [], [])) none)) none)) none))
    (cond (decide (1 < ((a0.length : Nat) : Int))) (cond (decide (((a0.length : Nat) : Int) < 3))
      (cond (decide (((a0.length : Nat) : Int) < 4))
        (cond (decide (((a0.length : Nat) : Int) < 5))
          (iterF F_law03_Made_L1 N (0, 0, a0, (w64 (1 + (Int.tmod (w64 (a0.getD 0 0)) 2))), (w64 ((Int.tmod (w64 (a0.getD 1 0)) 60000) * 1)), 5, [], []))
          (cond (decide (4 < ((a0.length : Nat) : Int))) (iterF F_law03_Made_L1 N (0, (Int.tmod (w64 (a0.getD 4 0)) 8), a0, (w64 (1 + (Int.tmod (w64 (a0.getD 0 0)) 2))), (w64 ((Int.tmod (w64 (a0.getD 1 0)) 60000) * 1)), 5, [], [])) none))
        (cond (decide (3 < ((a0.length : Nat) : Int))) (cond (decide (((a0.length : Nat) : Int) < 5))
          (iterF F_law03_Made_L1 N ((Int.tmod (w64 (a0.getD 3 0)) 20), 0, a0, (w64 (1 + (Int.tmod (w64 (a0.getD 0 0)) 2))), (w64 ((Int.tmod (w64 (a0.getD 1 0)) 60000) * 1)), 5, [], []))
          (cond (decide (4 < ((a0.length : Nat) : Int))) (iterF F_law03_Made_L1 N ((Int.tmod (w64 (a0.getD 3 0)) 20), (Int.tmod (w64 (a0.getD 4 0)) 8), a0, (w64 (1 + (Int.tmod (w64 (a0.getD 0 0)) 2))), (w64 ((Int.tmod (w64 (a0.getD 1 0)) 60000) * 1)), 5, [], [])) none)) none))
      (cond (decide (2 < ((a0.length : Nat) : Int))) (cond (decide (((a0.length : Nat) : Int) < 4))
        (cond (decide (((a0.length : Nat) : Int) < 5))
          (iterF F_law03_Made_L1 N (0, 0, a0, (w64 (1 + (Int.tmod (w64 (a0.getD 0 0)) 2))), (w64 ((Int.tmod (w64 (a0.getD 1 0)) 60000) * (w64 (1 + (Int.tmod (w64 (a0.getD 2 0)) 1000))))), 5, [], []))
          (cond (decide (4 < ((a0.length : Nat) : Int))) (iterF F_law03_Made_L1 N (0, (Int.tmod (w64 (a0.getD 4 0)) 8), a0, (w64 (1 + (Int.tmod (w64 (a0.getD 0 0)) 2))), (w64 ((Int.tmod (w64 (a0.getD 1 0)) 60000) * (w64 (1 + (Int.tmod (w64 (a0.getD 2 0)) 1000))))), 5, [], [])) none))
        (cond (decide (3 < ((a0.length : Nat) : Int))) (cond (decide (((a0.length : Nat) : Int) < 5))
          (iterF F_law03_Made_L1 N ((Int.tmod (w64 (a0.getD 3 0)) 20), 0, a0, (w64 (1 + (Int.tmod (w64 (a0.getD 0 0)) 2))), (w64 ((Int.tmod (w64 (a0.getD 1 0)) 60000) * (w64 (1 + (Int.tmod (w64 (a0.getD 2 0)) 1000))))), 5, [], []))
          (cond (decide (4 < ((a0.length : Nat) : Int))) (iterF F_law03_Made_L1 N ((Int.tmod (w64 (a0.getD 3 0)) 20), (Int.tmod (w64 (a0.getD 4 0)) 8), a0, (w64 (1 + (Int.tmod (w64 (a0.getD 0 0)) 2))), (w64 ((Int.tmod (w64 (a0.getD 1 0)) 60000) * (w64 (1 + (Int.tmod (w64 (a0.getD 2 0)) 1000))))), 5, [], [])) none)) none)) none)) none)) none)
noncomputable def S_law03_Made (x : (List Int)) : Option (Record) := lim fun N => G_law03_Made N x
noncomputable def G_ref04_Make (a0 : Write) : Option (Page × Int) :=
 Option.bind (S_ref03_Encode (a0.record, a0.data)) fun r1 =>
 cond (!(decide (r1.2 = 0)))
  (some ((Page.mk false [] []), r1.2))
  (some ((Page.mk true a0.data r1.1), 0))
noncomputable def S_ref04_Make (x : Write) : Option (Page × Int) := G_ref04_Make x
noncomputable def G_law06_Page (a0 : Int) (a1 : (List Int)) : Option (Page) :=
 Option.bind (S_law03_Made a1) fun r1 =>
 Option.bind (S_ref04_Make (Write.mk [100] (Record.mk r1.kind a0 r1.keys r1.values))) fun r2 =>
 some r2.1
noncomputable def S_law06_Page (x : Int × (List Int)) : Option (Page) := G_law06_Page x.1 x.2
noncomputable def G_ref05_Erase_L1 (ih0 : (Int × Chip × (List Block)) → Option (Chip × Int)) (v1 : Int) (v2 : Chip) (v3 : (List Block)) : Option (Chip × Int) :=
 cond (decide (v1 < ((v2.blocks.length : Nat) : Int)))
  (cond (decide (0 ≤ v1)) (cond (decide (v1 < ((v2.blocks.length : Nat) : Int))) (cond (decide ((0 + (v2.blocks.getD (Int.toNat v1) default).pages.length) * 40 ≤ 70368744177664)) (cond (decide (0 + (v2.blocks.getD (Int.toNat v1) default).pages.length ≤ 70368744177664)) (cond (decide ((v3.length + 1) * 48 ≤ 70368744177664)) (cond (decide (v3.length + 1 ≤ 70368744177664)) (ih0 ((w64 (v1 + 1)), v2, (bPages (v3 ++ [(Block.mk [] (v2.blocks.getD (Int.toNat v1) default).next (v2.blocks.getD (Int.toNat v1) default).erases (v2.blocks.getD (Int.toNat v1) default).bad)]) v3.length ([] ++ (v2.blocks.getD (Int.toNat v1) default).pages)))) none) none) none) none) none) none)
  (some ((Chip.mk v3 v2.broken v2.off v2.ops), 52))
noncomputable def F_ref05_Erase_L1 : ((Int × Chip × (List Block)) → Option (Chip × Int)) → (Int × Chip × (List Block)) → Option (Chip × Int) := fun ih x => G_ref05_Erase_L1 ih x.1 x.2.1 x.2.2
theorem F_ref05_Erase_L1_eq (ih : (Int × Chip × (List Block)) → Option (Chip × Int)) (x : Int × Chip × (List Block)) : F_ref05_Erase_L1 ih x = G_ref05_Erase_L1 ih x.1 x.2.1 x.2.2 := rfl
noncomputable def G_ref05_Erase_L3 (ih0 : (Int × Int × Fate × (List Block) × Bool × Bool × Int) → Option (Chip × Int)) (v1 : Int) (v2 : Int) (v3 : Fate) (v4 : (List Block)) (v5 : Bool) (v6 : Bool) (v7 : Int) : Option (Chip × Int) :=
 cond (decide ((Int.toNat v1) < v4.length)) (cond (decide ((Int.toNat v1) < v4.length)) (cond (decide ((Int.toNat v1) = (Int.toNat v1))) (cond (decide (v2 < (((v4.getD (Int.toNat v1) default).pages.length : Nat) : Int)))
  (cond (decide (v3.kind = 0))
    (cond (decide ((Int.toNat v1) < v4.length)) (cond (decide ((Int.toNat v1) = (Int.toNat v1))) (cond (decide (0 ≤ v2)) (cond (decide (v2 < (((v4.getD (Int.toNat v1) default).pages.length : Nat) : Int))) (cond (decide ((Int.toNat v2) < (v4.getD (Int.toNat v1) default).pages.length)) (ih0 ((((Int.toNat v1) : Nat) : Int), (w64 (v2 + 1)), v3, (bPages v4 (Int.toNat v1) ((v4.getD (Int.toNat v1) default).pages.set (Int.toNat v2) (Page.mk false [] []))), v5, v6, v7)) none) none) none) none) none)
    (cond (decide (v2 < v3.n))
      (cond (decide ((Int.toNat v1) < v4.length)) (cond (decide ((Int.toNat v1) = (Int.toNat v1))) (cond (decide (0 ≤ v2)) (cond (decide (v2 < (((v4.getD (Int.toNat v1) default).pages.length : Nat) : Int))) (cond (decide ((Int.toNat v2) < (v4.getD (Int.toNat v1) default).pages.length)) (ih0 ((((Int.toNat v1) : Nat) : Int), (w64 (v2 + 1)), v3, (bPages v4 (Int.toNat v1) ((v4.getD (Int.toNat v1) default).pages.set (Int.toNat v2) (Page.mk false [] []))), v5, v6, v7)) none) none) none) none) none)
      (ih0 ((((Int.toNat v1) : Nat) : Int), (w64 (v2 + 1)), v3, (bPages v4 (Int.toNat v1) (v4.getD (Int.toNat v1) default).pages), v5, v6, v7))))
  (cond (decide ((Int.toNat v1) < v4.length)) (cond (decide (v3.kind = 2))
    (cond (decide ((Int.toNat v1) < (bNext v4 (Int.toNat v1) 0).length)) (cond (decide ((Int.toNat v1) = (Int.toNat v1))) (cond (decide ((Int.toNat v1) < (bNext v4 (Int.toNat v1) 0).length)) (some ((Chip.mk (bPages (bNext (bNext v4 (Int.toNat v1) 0) (Int.toNat v1) (((v4.getD (Int.toNat v1) default).pages.length : Nat) : Int)) (Int.toNat v1) (v4.getD (Int.toNat v1) default).pages) v5 true v7), 52)) none) none) none)
    (some ((Chip.mk (bPages (bNext v4 (Int.toNat v1) 0) (Int.toNat v1) (v4.getD (Int.toNat v1) default).pages) v5 v6 v7), 0))) none)) none) none) none
noncomputable def F_ref05_Erase_L3 : ((Int × Int × Fate × (List Block) × Bool × Bool × Int) → Option (Chip × Int)) → (Int × Int × Fate × (List Block) × Bool × Bool × Int) → Option (Chip × Int) := fun ih x => G_ref05_Erase_L3 ih x.1 x.2.1 x.2.2.1 x.2.2.2.1 x.2.2.2.2.1 x.2.2.2.2.2.1 x.2.2.2.2.2.2
theorem F_ref05_Erase_L3_eq (ih : (Int × Int × Fate × (List Block) × Bool × Bool × Int) → Option (Chip × Int)) (x : Int × Int × Fate × (List Block) × Bool × Bool × Int) : F_ref05_Erase_L3 ih x = G_ref05_Erase_L3 ih x.1 x.2.1 x.2.2.1 x.2.2.2.1 x.2.2.2.2.1 x.2.2.2.2.2.1 x.2.2.2.2.2.2 := rfl
noncomputable def G_ref05_Erase_L2 (N : Nat) (a1 : Int) (ih0 : (Int × Fate × Chip × (List Block)) → Option (Chip × Int)) (v1 : Int) (v2 : Fate) (v3 : Chip) (v4 : (List Block)) : Option (Chip × Int) :=
 cond (decide (v1 < ((v3.blocks.length : Nat) : Int)))
  (cond (decide (0 ≤ v1)) (cond (decide (v1 < ((v3.blocks.length : Nat) : Int))) (cond (decide ((0 + (v3.blocks.getD (Int.toNat v1) default).pages.length) * 40 ≤ 70368744177664)) (cond (decide (0 + (v3.blocks.getD (Int.toNat v1) default).pages.length ≤ 70368744177664)) (cond (decide ((v4.length + 1) * 48 ≤ 70368744177664)) (cond (decide (v4.length + 1 ≤ 70368744177664)) (ih0 ((w64 (v1 + 1)), v2, v3, (bPages (v4 ++ [(Block.mk [] (v3.blocks.getD (Int.toNat v1) default).next (v3.blocks.getD (Int.toNat v1) default).erases (v3.blocks.getD (Int.toNat v1) default).bad)]) v4.length ([] ++ (v3.blocks.getD (Int.toNat v1) default).pages)))) none) none) none) none) none) none)
  (cond (decide (0 ≤ a1)) (cond (decide (a1 < ((v4.length : Nat) : Int))) (cond (decide (v2.kind = 1))
    (cond (decide ((Int.toNat a1) < v4.length)) (some ((Chip.mk (bBad v4 (Int.toNat a1) true) v3.broken v3.off (w64 (v3.ops + 1))), 53)) none)
    (cond (decide ((Int.toNat a1) < v4.length)) (cond (decide ((Int.toNat a1) < v4.length)) (iterF F_ref05_Erase_L3 N ((((Int.toNat a1) : Nat) : Int), 0, v2, (bErases v4 (Int.toNat a1) (w64 ((v4.getD (Int.toNat a1) default).erases + 1))), v3.broken, v3.off, (w64 (v3.ops + 1)))) none) none)) none) none)
noncomputable def F_ref05_Erase_L2 (N : Nat) (a1 : Int) : ((Int × Fate × Chip × (List Block)) → Option (Chip × Int)) → (Int × Fate × Chip × (List Block)) → Option (Chip × Int) := fun ih x => G_ref05_Erase_L2 N a1 ih x.1 x.2.1 x.2.2.1 x.2.2.2
theorem F_ref05_Erase_L2_eq (N : Nat) (a1 : Int) (ih : (Int × Fate × Chip × (List Block)) → Option (Chip × Int)) (x : Int × Fate × Chip × (List Block)) : F_ref05_Erase_L2 N a1 ih x = G_ref05_Erase_L2 N a1 ih x.1 x.2.1 x.2.2.1 x.2.2.2 := rfl
noncomputable def G_ref05_Erase (N : Nat) (a0 : Chip) (a1 : Int) (a2 : Fate) : Option (Chip × Int) :=
 cond a0.off
  (iterF F_ref05_Erase_L1 N (0, a0, []))
  (cond (decide (a1 < 0))
    (Option.bind (S_ref05_broken a0) fun r5 =>
    some (r5.1, r5.2))
    (cond (decide (((a0.blocks.length : Nat) : Int) ≤ a1))
      (Option.bind (S_ref05_broken a0) fun r6 =>
      some (r6.1, r6.2))
      (cond (decide (0 ≤ a1)) (cond (decide (a1 < ((a0.blocks.length : Nat) : Int))) (cond (a0.blocks.getD (Int.toNat a1) default).bad
        (Option.bind (S_ref05_broken a0) fun r7 =>
        some (r7.1, r7.2))
        (cond (decide (a2.kind < 0))
          (Option.bind (S_ref05_broken a0) fun r8 =>
          some (r8.1, r8.2))
          (cond (decide (2 < a2.kind))
            (Option.bind (S_ref05_broken a0) fun r9 =>
            some (r9.1, r9.2))
            (iterF (F_ref05_Erase_L2 N a1) N (0, a2, a0, []))))) none) none)))
noncomputable def S_ref05_Erase (x : Chip × Int × Fate) : Option (Chip × Int) := lim fun N => G_ref05_Erase N x.1 x.2.1 x.2.2
noncomputable def G_law06_Made_L1 (ih0 : ((List Int) × Int × Int × Int × Chip) → Option (Chip)) (v1 : (List Int)) (v2 : Int) (v3 : Int) (v4 : Int) (v5 : Chip) : Option (Chip) :=
 cond (decide (v4 < 40))
  (cond (decide (v3 < ((v1.length : Nat) : Int)))
    (cond (decide (0 ≤ v3)) (cond (decide (v3 < ((v1.length : Nat) : Int))) (cond (!(decide (v2 = 0))) (cond (decide (0 ≤ v3)) (cond (decide (v3 ≤ (min (w64 ((w64 (v3 + 1)) + (Int.tmod (w64 (Int.tdiv (w64 (v1.getD (Int.toNat v3) 0)) 50)) 8))) ((v1.length : Nat) : Int)))) (cond (decide ((min (w64 ((w64 (v3 + 1)) + (Int.tmod (w64 (Int.tdiv (w64 (v1.getD (Int.toNat v3) 0)) 50)) 8))) ((v1.length : Nat) : Int)) ≤ ((v1.length : Nat) : Int))) (Option.bind (S_law06_Page ((Int.tmod (w64 (Int.tdiv (w64 (v1.getD (Int.toNat v3) 0)) 7)) 30), ((v1.drop (Int.toNat v3)).take ((Int.toNat (min (w64 ((w64 (v3 + 1)) + (Int.tmod (w64 (Int.tdiv (w64 (v1.getD (Int.toNat v3) 0)) 50)) 8))) ((v1.length : Nat) : Int))) - (Int.toNat v3))))) fun r6 =>
    cond (decide ((Int.tmod (w64 (v1.getD (Int.toNat v3) 0)) 11) = 0))
     (cond (decide ((Int.tmod (w64 (v1.getD (Int.toNat v3) 0)) 29) = 0))
       (Option.bind (S_ref05_Erase (v5, (Int.tmod (w64 (v1.getD (Int.toNat v3) 0)) v2), (Fate.mk 0 [] [] 0))) fun r7 =>
       cond (decide (0 ≤ (Int.tmod (w64 (v1.getD (Int.toNat v3) 0)) v2))) (cond (decide ((Int.tmod (w64 (v1.getD (Int.toNat v3) 0)) v2) < ((r7.1.blocks.length : Nat) : Int))) (Option.bind (S_ref05_Program (r7.1, (Int.tmod (w64 (v1.getD (Int.toNat v3) 0)) v2), (r7.1.blocks.getD (Int.toNat (Int.tmod (w64 (v1.getD (Int.toNat v3) 0)) v2)) default).next, r6, (Fate.mk 1 [120] r6.tag 0))) fun r8 =>
       cond (!(decide (r8.2 = 1)))
        (ih0 (v1, v2, (max (min (w64 ((w64 (v3 + 1)) + (Int.tmod (w64 (Int.tdiv (w64 (v1.getD (Int.toNat v3) 0)) 50)) 8))) ((v1.length : Nat) : Int)) (w64 (v3 + 1))), (w64 (v4 + 1)), r8.1))
        (ih0 (v1, v2, (max (min (w64 ((w64 (v3 + 1)) + (Int.tmod (w64 (Int.tdiv (w64 (v1.getD (Int.toNat v3) 0)) 50)) 8))) ((v1.length : Nat) : Int)) (w64 (v3 + 1))), (w64 (v4 + 1)), r7.1))) none) none)
       (cond (decide (0 ≤ (Int.tmod (w64 (v1.getD (Int.toNat v3) 0)) v2))) (cond (decide ((Int.tmod (w64 (v1.getD (Int.toNat v3) 0)) v2) < ((v5.blocks.length : Nat) : Int))) (Option.bind (S_ref05_Program (v5, (Int.tmod (w64 (v1.getD (Int.toNat v3) 0)) v2), (v5.blocks.getD (Int.toNat (Int.tmod (w64 (v1.getD (Int.toNat v3) 0)) v2)) default).next, r6, (Fate.mk 1 [120] r6.tag 0))) fun r9 =>
       cond (!(decide (r9.2 = 1)))
        (ih0 (v1, v2, (max (min (w64 ((w64 (v3 + 1)) + (Int.tmod (w64 (Int.tdiv (w64 (v1.getD (Int.toNat v3) 0)) 50)) 8))) ((v1.length : Nat) : Int)) (w64 (v3 + 1))), (w64 (v4 + 1)), r9.1))
        (ih0 (v1, v2, (max (min (w64 ((w64 (v3 + 1)) + (Int.tmod (w64 (Int.tdiv (w64 (v1.getD (Int.toNat v3) 0)) 50)) 8))) ((v1.length : Nat) : Int)) (w64 (v3 + 1))), (w64 (v4 + 1)), v5))) none) none))
     (cond (decide ((Int.tmod (w64 (v1.getD (Int.toNat v3) 0)) 29) = 0))
       (Option.bind (S_ref05_Erase (v5, (Int.tmod (w64 (v1.getD (Int.toNat v3) 0)) v2), (Fate.mk 0 [] [] 0))) fun r10 =>
       cond (decide (0 ≤ (Int.tmod (w64 (v1.getD (Int.toNat v3) 0)) v2))) (cond (decide ((Int.tmod (w64 (v1.getD (Int.toNat v3) 0)) v2) < ((r10.1.blocks.length : Nat) : Int))) (Option.bind (S_ref05_Program (r10.1, (Int.tmod (w64 (v1.getD (Int.toNat v3) 0)) v2), (r10.1.blocks.getD (Int.toNat (Int.tmod (w64 (v1.getD (Int.toNat v3) 0)) v2)) default).next, r6, (Fate.mk 0 [] [] 0))) fun r11 =>
       cond (!(decide (r11.2 = 1)))
        (ih0 (v1, v2, (max (min (w64 ((w64 (v3 + 1)) + (Int.tmod (w64 (Int.tdiv (w64 (v1.getD (Int.toNat v3) 0)) 50)) 8))) ((v1.length : Nat) : Int)) (w64 (v3 + 1))), (w64 (v4 + 1)), r11.1))
        (ih0 (v1, v2, (max (min (w64 ((w64 (v3 + 1)) + (Int.tmod (w64 (Int.tdiv (w64 (v1.getD (Int.toNat v3) 0)) 50)) 8))) ((v1.length : Nat) : Int)) (w64 (v3 + 1))), (w64 (v4 + 1)), r10.1))) none) none)
       (cond (decide (0 ≤ (Int.tmod (w64 (v1.getD (Int.toNat v3) 0)) v2))) (cond (decide ((Int.tmod (w64 (v1.getD (Int.toNat v3) 0)) v2) < ((v5.blocks.length : Nat) : Int))) (Option.bind (S_ref05_Program (v5, (Int.tmod (w64 (v1.getD (Int.toNat v3) 0)) v2), (v5.blocks.getD (Int.toNat (Int.tmod (w64 (v1.getD (Int.toNat v3) 0)) v2)) default).next, r6, (Fate.mk 0 [] [] 0))) fun r12 =>
       cond (!(decide (r12.2 = 1)))
        (ih0 (v1, v2, (max (min (w64 ((w64 (v3 + 1)) + (Int.tmod (w64 (Int.tdiv (w64 (v1.getD (Int.toNat v3) 0)) 50)) 8))) ((v1.length : Nat) : Int)) (w64 (v3 + 1))), (w64 (v4 + 1)), r12.1))
        (ih0 (v1, v2, (max (min (w64 ((w64 (v3 + 1)) + (Int.tmod (w64 (Int.tdiv (w64 (v1.getD (Int.toNat v3) 0)) 50)) 8))) ((v1.length : Nat) : Int)) (w64 (v3 + 1))), (w64 (v4 + 1)), v5))) none) none))) none) none) none) none) none) none)
    (some v5))
  (some v5)
noncomputable def F_law06_Made_L1 : (((List Int) × Int × Int × Int × Chip) → Option (Chip)) → ((List Int) × Int × Int × Int × Chip) → Option (Chip) := fun ih x => G_law06_Made_L1 ih x.1 x.2.1 x.2.2.1 x.2.2.2.1 x.2.2.2.2
theorem F_law06_Made_L1_eq (ih : ((List Int) × Int × Int × Int × Chip) → Option (Chip)) (x : (List Int) × Int × Int × Int × Chip) : F_law06_Made_L1 ih x = G_law06_Made_L1 ih x.1 x.2.1 x.2.2.1 x.2.2.2.1 x.2.2.2.2 := rfl
noncomputable def G_law06_Made (N : Nat) (a0 : (List Int)) (a1 : Int) (a2 : Int) : Option (Chip) :=
 Option.bind (S_ref05_New (a1, a2, [])) fun r1 =>
 iterF F_law06_Made_L1 N (a0, a1, 0, 0, r1.1)
noncomputable def S_law06_Made (x : (List Int) × Int × Int) : Option (Chip) := lim fun N => G_law06_Made N x.1 x.2.1 x.2.2
noncomputable def G_cmp_isNaN (a0 : Int) : Option (Bool) :=
 some (!(decide (a0 = a0)))
noncomputable def S_cmp_isNaN (x : Int) : Option (Bool) := G_cmp_isNaN x
noncomputable def G_cmp_Less (a0 : Int) (a1 : Int) : Option (Bool) :=
 Option.bind (S_cmp_isNaN a0) fun r1 =>
 cond r1
  (Option.bind (S_cmp_isNaN a1) fun r2 =>
  cond (!r2)
   (some true)
   (some (decide (a0 < a1))))
  (some (decide (a0 < a1)))
noncomputable def S_cmp_Less (x : Int × Int) : Option (Bool) := G_cmp_Less x.1 x.2
noncomputable def G_slices_IsSorted_L1 (ih0 : ((List Int) × Int) → Option (Bool)) (v1 : (List Int)) (v2 : Int) : Option (Bool) :=
 cond (decide (0 < v2))
  (cond (decide (0 ≤ v2)) (cond (decide (v2 < ((v1.length : Nat) : Int))) (cond (decide (0 ≤ (w64 (v2 - 1)))) (cond (decide ((w64 (v2 - 1)) < ((v1.length : Nat) : Int))) (Option.bind (S_cmp_Less ((v1.getD (Int.toNat v2) 0), (v1.getD (Int.toNat (w64 (v2 - 1))) 0))) fun r3 =>
  cond r3
   (some false)
   (ih0 (v1, (w64 (v2 - 1))))) none) none) none) none)
  (some true)
noncomputable def F_slices_IsSorted_L1 : (((List Int) × Int) → Option (Bool)) → ((List Int) × Int) → Option (Bool) := fun ih x => G_slices_IsSorted_L1 ih x.1 x.2
theorem F_slices_IsSorted_L1_eq (ih : ((List Int) × Int) → Option (Bool)) (x : (List Int) × Int) : F_slices_IsSorted_L1 ih x = G_slices_IsSorted_L1 ih x.1 x.2 := rfl
noncomputable def G_slices_IsSorted (N : Nat) (a0 : (List Int)) : Option (Bool) :=
 iterF F_slices_IsSorted_L1 N (a0, (w64 (((a0.length : Nat) : Int) - 1)))
noncomputable def S_slices_IsSorted (x : (List Int)) : Option (Bool) := lim fun N => G_slices_IsSorted N x
noncomputable def G_tag_keys_L1 (a0 : (List Int)) (ih0 : ((List Int) × Int × Int × (List Int)) → Option (Bool)) (v1 : (List Int)) (v2 : Int) (v3 : Int) (v4 : (List Int)) : Option (Bool) :=
 cond (decide (v3 < v2))
  (cond (decide (0 ≤ v3)) (cond (decide (v3 < ((v1.length : Nat) : Int))) (cond (decide ((v1.getD (Int.toNat v3) 0) < 0))
    (cond (!(decide (0 ≤ v3)))
      (some (decide (((a0.length : Nat) : Int) = ((a0.length : Nat) : Int))))
      (some false))
    (cond (decide (64 ≤ (v1.getD (Int.toNat v3) 0)))
      (cond (!(decide (0 ≤ v3)))
        (some (decide (((a0.length : Nat) : Int) = ((a0.length : Nat) : Int))))
        (some false))
      (ih0 (v1, v2, (w64 (v3 + 1)), v4)))) none) none)
  (some (decide (((a0.length : Nat) : Int) = ((a0.length : Nat) : Int))))
noncomputable def F_tag_keys_L1 (a0 : (List Int)) : (((List Int) × Int × Int × (List Int)) → Option (Bool)) → ((List Int) × Int × Int × (List Int)) → Option (Bool) := fun ih x => G_tag_keys_L1 a0 ih x.1 x.2.1 x.2.2.1 x.2.2.2
theorem F_tag_keys_L1_eq (a0 : (List Int)) (ih : ((List Int) × Int × Int × (List Int)) → Option (Bool)) (x : (List Int) × Int × Int × (List Int)) : F_tag_keys_L1 a0 ih x = G_tag_keys_L1 a0 ih x.1 x.2.1 x.2.2.1 x.2.2.2 := rfl
noncomputable def G_tag_keys_L4 (a0 : (List Int)) (v0 : Int) (ih1 : ((List Int) × Int × Int × (List Int)) → Option (Bool)) (v2 : (List Int)) (v3 : Int) (v4 : Int) (v5 : (List Int)) : Option (Bool) :=
 cond (decide (v4 < v3))
  (cond (decide (0 ≤ v4)) (cond (decide (v4 < ((v2.length : Nat) : Int))) (cond (decide ((v2.getD (Int.toNat v4) 0) < 0))
    (cond (!(decide (0 ≤ v4)))
      (some (decide ((((Int.toNat v0) : Nat) : Int) = ((a0.length : Nat) : Int))))
      (some false))
    (cond (decide (64 ≤ (v2.getD (Int.toNat v4) 0)))
      (cond (!(decide (0 ≤ v4)))
        (some (decide ((((Int.toNat v0) : Nat) : Int) = ((a0.length : Nat) : Int))))
        (some false))
      (ih1 (v2, v3, (w64 (v4 + 1)), v5)))) none) none)
  (some (decide ((((Int.toNat v0) : Nat) : Int) = ((a0.length : Nat) : Int))))
noncomputable def F_tag_keys_L4 (a0 : (List Int)) (v10 : Int) : (((List Int) × Int × Int × (List Int)) → Option (Bool)) → ((List Int) × Int × Int × (List Int)) → Option (Bool) := fun ih x => G_tag_keys_L4 a0 v10 ih x.1 x.2.1 x.2.2.1 x.2.2.2
theorem F_tag_keys_L4_eq (a0 : (List Int)) (v10 : Int) (ih : ((List Int) × Int × Int × (List Int)) → Option (Bool)) (x : (List Int) × Int × Int × (List Int)) : F_tag_keys_L4 a0 v10 ih x = G_tag_keys_L4 a0 v10 ih x.1 x.2.1 x.2.2.1 x.2.2.2 := rfl
noncomputable def G_tag_keys_L3 (N : Nat) (a0 : (List Int)) (ih0 : (Int × Int × Int × Int × (List Int)) → Option (Bool)) (v1 : Int) (v2 : Int) (v3 : Int) (v4 : Int) (v5 : (List Int)) : Option (Bool) :=
 cond (decide (v4 < (((Int.toNat v3) : Nat) : Int)))
  (cond (decide (0 ≤ v4)) (cond (decide (v4 < (((Int.toNat v3) : Nat) : Int))) (cond (decide (((Int.toNat v2) + (Int.toNat v4)) < v5.length)) (cond (decide (0 ≤ (w64 (v4 - 1)))) (cond (decide ((w64 (v4 - 1)) < (((Int.toNat v3) : Nat) : Int))) (cond (decide (((Int.toNat v2) + (Int.toNat (w64 (v4 - 1)))) < v5.length)) (cond (!(decide ((v5.getD ((Int.toNat v2) + (Int.toNat v4)) 0) = (v5.getD ((Int.toNat v2) + (Int.toNat (w64 (v4 - 1)))) 0))))
    (cond (decide (0 ≤ v4)) (cond (decide (v4 < (((Int.toNat v3) : Nat) : Int))) (cond (decide (((Int.toNat v2) + (Int.toNat v4)) < v5.length)) (cond (decide (0 ≤ v1)) (cond (decide (v1 < ((v5.length : Nat) : Int))) (cond (decide ((Int.toNat v1) < v5.length)) (ih0 ((w64 (v1 + 1)), (((Int.toNat v2) : Nat) : Int), (((Int.toNat v3) : Nat) : Int), (w64 (v4 + 1)), (v5.set (Int.toNat v1) (v5.getD ((Int.toNat v2) + (Int.toNat v4)) 0)))) none) none) none) none) none) none)
    (ih0 (v1, (((Int.toNat v2) : Nat) : Int), (((Int.toNat v3) : Nat) : Int), (w64 (v4 + 1)), v5))) none) none) none) none) none) none)
  (cond (decide (0 ≤ v1)) (cond (decide (v1 ≤ ((v5.length : Nat) : Int))) (cond (decide (0 < v5.length)) (cond (decide (0 ≤ v1)) (cond (decide (v1 ≤ (((v5.take (Int.toNat v1) ++ List.replicate (v5.length - (Int.toNat v1)) 0 ++ v5.drop ((Int.toNat v1) + (v5.length - (Int.toNat v1)))).length : Nat) : Int))) (cond (decide (0 < ((a0.length : Nat) : Int)))
    (cond (decide (((a0.length : Nat) : Int) ≤ 8))
      (iterF (F_tag_keys_L4 a0 v1) N (a0, ((a0.length : Nat) : Int), 0, (v5.take (Int.toNat v1) ++ List.replicate (v5.length - (Int.toNat v1)) 0 ++ v5.drop ((Int.toNat v1) + (v5.length - (Int.toNat v1))))))
      (some false))
    (some false)) none) none) none) none) none)
noncomputable def F_tag_keys_L3 (N : Nat) (a0 : (List Int)) : ((Int × Int × Int × Int × (List Int)) → Option (Bool)) → (Int × Int × Int × Int × (List Int)) → Option (Bool) := fun ih x => G_tag_keys_L3 N a0 ih x.1 x.2.1 x.2.2.1 x.2.2.2.1 x.2.2.2.2
theorem F_tag_keys_L3_eq (N : Nat) (a0 : (List Int)) (ih : (Int × Int × Int × Int × (List Int)) → Option (Bool)) (x : Int × Int × Int × Int × (List Int)) : F_tag_keys_L3 N a0 ih x = G_tag_keys_L3 N a0 ih x.1 x.2.1 x.2.2.1 x.2.2.2.1 x.2.2.2.2 := rfl
noncomputable def G_tag_keys_L5 (a0 : (List Int)) (v0 : (List Int)) (ih1 : ((List Int) × Int × Int × (List Int)) → Option (Bool)) (v2 : (List Int)) (v3 : Int) (v4 : Int) (v5 : (List Int)) : Option (Bool) :=
 cond (decide (v4 < v3))
  (cond (decide (0 ≤ v4)) (cond (decide (v4 < ((v2.length : Nat) : Int))) (cond (decide ((v2.getD (Int.toNat v4) 0) < 0))
    (cond (!(decide (0 ≤ v4)))
      (some (decide (((v0.length : Nat) : Int) = ((a0.length : Nat) : Int))))
      (some false))
    (cond (decide (64 ≤ (v2.getD (Int.toNat v4) 0)))
      (cond (!(decide (0 ≤ v4)))
        (some (decide (((v0.length : Nat) : Int) = ((a0.length : Nat) : Int))))
        (some false))
      (ih1 (v2, v3, (w64 (v4 + 1)), v5)))) none) none)
  (some (decide (((v0.length : Nat) : Int) = ((a0.length : Nat) : Int))))
noncomputable def F_tag_keys_L5 (a0 : (List Int)) (v8 : (List Int)) : (((List Int) × Int × Int × (List Int)) → Option (Bool)) → ((List Int) × Int × Int × (List Int)) → Option (Bool) := fun ih x => G_tag_keys_L5 a0 v8 ih x.1 x.2.1 x.2.2.1 x.2.2.2
theorem F_tag_keys_L5_eq (a0 : (List Int)) (v8 : (List Int)) (ih : ((List Int) × Int × Int × (List Int)) → Option (Bool)) (x : (List Int) × Int × Int × (List Int)) : F_tag_keys_L5 a0 v8 ih x = G_tag_keys_L5 a0 v8 ih x.1 x.2.1 x.2.2.1 x.2.2.2 := rfl
noncomputable def G_tag_keys_L2 (N : Nat) (a0 : (List Int)) (ih0 : (Int × (List Int)) → Option (Bool)) (v1 : Int) (v2 : (List Int)) : Option (Bool) :=
 cond (decide (v1 < ((v2.length : Nat) : Int)))
  (cond (decide (0 ≤ v1)) (cond (decide (v1 < ((v2.length : Nat) : Int))) (cond (decide ((Int.toNat v1) < v2.length)) (cond (decide (0 ≤ (w64 (v1 - 1)))) (cond (decide ((w64 (v1 - 1)) < ((v2.length : Nat) : Int))) (cond (decide ((Int.toNat (w64 (v1 - 1))) < v2.length)) (cond (decide ((v2.getD (Int.toNat v1) 0) = (v2.getD (Int.toNat (w64 (v1 - 1))) 0)))
    (cond (decide (0 ≤ v1)) (cond (decide (v1 ≤ ((v2.length : Nat) : Int))) (iterF (F_tag_keys_L3 N a0) N (v1, (((Int.toNat v1) : Nat) : Int), (((v2.length - (Int.toNat v1)) : Nat) : Int), 1, v2)) none) none)
    (ih0 ((w64 (v1 + 1)), v2))) none) none) none) none) none) none)
  (cond (decide (0 < ((a0.length : Nat) : Int)))
    (cond (decide (((a0.length : Nat) : Int) ≤ 8))
      (iterF (F_tag_keys_L5 a0 v2) N (a0, ((a0.length : Nat) : Int), 0, v2))
      (some false))
    (some false))
noncomputable def F_tag_keys_L2 (N : Nat) (a0 : (List Int)) : ((Int × (List Int)) → Option (Bool)) → (Int × (List Int)) → Option (Bool) := fun ih x => G_tag_keys_L2 N a0 ih x.1 x.2
theorem F_tag_keys_L2_eq (N : Nat) (a0 : (List Int)) (ih : (Int × (List Int)) → Option (Bool)) (x : Int × (List Int)) : F_tag_keys_L2 N a0 ih x = G_tag_keys_L2 N a0 ih x.1 x.2 := rfl
noncomputable def G_tag_keys_L6 (ih0 : ((List Int) × Int × Int) → Option (Bool)) (v1 : (List Int)) (v2 : Int) (v3 : Int) : Option (Bool) :=
 cond (decide (v3 < v2))
  (cond (decide (0 ≤ v3)) (cond (decide (v3 < ((v1.length : Nat) : Int))) (cond (decide ((v1.getD (Int.toNat v3) 0) < 0))
    (cond (!(decide (0 ≤ v3)))
      (some false)
      (some false))
    (cond (decide (64 ≤ (v1.getD (Int.toNat v3) 0)))
      (cond (!(decide (0 ≤ v3)))
        (some false)
        (some false))
      (ih0 (v1, v2, (w64 (v3 + 1)))))) none) none)
  (some false)
noncomputable def F_tag_keys_L6 : (((List Int) × Int × Int) → Option (Bool)) → ((List Int) × Int × Int) → Option (Bool) := fun ih x => G_tag_keys_L6 ih x.1 x.2.1 x.2.2
theorem F_tag_keys_L6_eq (ih : ((List Int) × Int × Int) → Option (Bool)) (x : (List Int) × Int × Int) : F_tag_keys_L6 ih x = G_tag_keys_L6 ih x.1 x.2.1 x.2.2 := rfl
noncomputable def G_tag_keys (N : Nat) (a0 : (List Int)) : Option (Bool) :=
 Option.bind (S_slices_IsSorted a0) fun r1 =>
 cond r1
  (cond (decide (a0.length * 8 ≤ 70368744177664)) (cond (decide (a0.length ≤ 70368744177664)) (cond (decide (((a0.length : Nat) : Int) < 2))
    (cond (decide (0 < ((a0.length : Nat) : Int)))
      (cond (decide (((a0.length : Nat) : Int) ≤ 8))
        (iterF (F_tag_keys_L1 a0) N (a0, ((a0.length : Nat) : Int), 0, a0))
        (some false))
      (some false))
    (iterF (F_tag_keys_L2 N a0) N (1, a0))) none) none)
  (cond (decide (0 < ((a0.length : Nat) : Int)))
    (cond (decide (((a0.length : Nat) : Int) ≤ 8))
      (iterF F_tag_keys_L6 N (a0, ((a0.length : Nat) : Int), 0))
      (some false))
    (some false))
noncomputable def S_tag_keys (x : (List Int)) : Option (Bool) := lim fun N => G_tag_keys N x
noncomputable def G_tag_Right_L1 (ih0 : ((List Int) × Int × Int × Record) → Option (Bool)) (v1 : (List Int)) (v2 : Int) (v3 : Int) (v4 : Record) : Option (Bool) :=
 cond (decide (v3 < v2))
  (cond (decide (0 ≤ v3)) (cond (decide (v3 < ((v1.length : Nat) : Int))) (cond (decide ((v1.getD (Int.toNat v3) 0) < (-1)))
    (cond (decide (0 ≤ v3))
      (some false)
      (cond (decide (v4.kind = 1))
        (some (decide (((v4.values.length : Nat) : Int) = 0)))
        (cond (decide (v4.kind = 2))
          (some (decide (((v4.values.length : Nat) : Int) = ((v4.keys.length : Nat) : Int))))
          (some false))))
    (cond (decide (512 ≤ (v1.getD (Int.toNat v3) 0)))
      (cond (decide (0 ≤ v3))
        (some false)
        (cond (decide (v4.kind = 1))
          (some (decide (((v4.values.length : Nat) : Int) = 0)))
          (cond (decide (v4.kind = 2))
            (some (decide (((v4.values.length : Nat) : Int) = ((v4.keys.length : Nat) : Int))))
            (some false))))
      (ih0 (v1, v2, (w64 (v3 + 1)), v4)))) none) none)
  (cond (decide (v4.kind = 1))
    (some (decide (((v4.values.length : Nat) : Int) = 0)))
    (cond (decide (v4.kind = 2))
      (some (decide (((v4.values.length : Nat) : Int) = ((v4.keys.length : Nat) : Int))))
      (some false)))
noncomputable def F_tag_Right_L1 : (((List Int) × Int × Int × Record) → Option (Bool)) → ((List Int) × Int × Int × Record) → Option (Bool) := fun ih x => G_tag_Right_L1 ih x.1 x.2.1 x.2.2.1 x.2.2.2
theorem F_tag_Right_L1_eq (ih : ((List Int) × Int × Int × Record) → Option (Bool)) (x : (List Int) × Int × Int × Record) : F_tag_Right_L1 ih x = G_tag_Right_L1 ih x.1 x.2.1 x.2.2.1 x.2.2.2 := rfl
noncomputable def G_tag_Right (N : Nat) (a0 : Record) : Option (Bool) :=
 cond (decide (a0.seq < 0))
  (some false)
  (cond (decide (1099511627776 < a0.seq))
    (some false)
    (Option.bind (S_tag_keys a0.keys) fun r1 =>
    cond (!r1)
     (some false)
     (iterF F_tag_Right_L1 N (a0.values, ((a0.values.length : Nat) : Int), 0, a0))))
noncomputable def S_tag_Right (x : Record) : Option (Bool) := lim fun N => G_tag_Right N x
noncomputable def G_tag_moved_L1 (ih0 : (Int × Int × Int × (List Int)) → Option ((List Int))) (v1 : Int) (v2 : Int) (v3 : Int) (v4 : (List Int)) : Option ((List Int)) :=
 cond (decide (v3 < v2))
  (cond (decide (0 ≤ v3)) (cond (decide (v3 < ((v4.length : Nat) : Int))) (cond (decide ((Int.toNat v3) < v4.length)) (cond (decide (0 ≤ v3)) (cond (decide (v3 < ((v4.length : Nat) : Int))) (cond (decide ((Int.toNat v3) < v4.length)) (ih0 (v1, v2, (w64 (v3 + 1)), (v4.set (Int.toNat v3) (w64 ((v4.getD (Int.toNat v3) 0) + v1))))) none) none) none) none) none) none)
  (some v4)
noncomputable def F_tag_moved_L1 : ((Int × Int × Int × (List Int)) → Option ((List Int))) → (Int × Int × Int × (List Int)) → Option ((List Int)) := fun ih x => G_tag_moved_L1 ih x.1 x.2.1 x.2.2.1 x.2.2.2
theorem F_tag_moved_L1_eq (ih : (Int × Int × Int × (List Int)) → Option ((List Int))) (x : Int × Int × Int × (List Int)) : F_tag_moved_L1 ih x = G_tag_moved_L1 ih x.1 x.2.1 x.2.2.1 x.2.2.2 := rfl
noncomputable def G_tag_moved (N : Nat) (a0 : (List Int)) (a1 : Int) : Option ((List Int)) :=
 cond (decide (a0.length * 8 ≤ 70368744177664)) (cond (decide (a0.length ≤ 70368744177664)) (iterF F_tag_moved_L1 N (a1, ((a0.length : Nat) : Int), 0, a0)) none) none
noncomputable def S_tag_moved (x : (List Int) × Int) : Option ((List Int)) := lim fun N => G_tag_moved N x.1 x.2
noncomputable def G_pack_Put_L1 (ih0 : (Int × (List Int)) → Option (Str)) (v1 : Int) (v2 : (List Int)) : Option (Str) :=
 cond (decide (128 ≤ v1))
  (cond (decide ((v2.length + [(Go.IntKind.u8.wrap (bOr .u8 (Go.IntKind.u8.wrap v1) 128))].length) * 1 ≤ 70368744177664)) (cond (decide (v2.length + [(Go.IntKind.u8.wrap (bOr .u8 (Go.IntKind.u8.wrap v1) 128))].length ≤ 70368744177664)) (ih0 ((Int.fdiv v1 (2 ^ (min 7 64))), (v2 ++ [(Go.IntKind.u8.wrap (bOr .u8 (Go.IntKind.u8.wrap v1) 128))]))) none) none)
  (cond (decide ((v2.length + [(Go.IntKind.u8.wrap v1)].length) * 1 ≤ 70368744177664)) (cond (decide (v2.length + [(Go.IntKind.u8.wrap v1)].length ≤ 70368744177664)) (some (bytesOf (v2 ++ [(Go.IntKind.u8.wrap v1)]))) none) none)
noncomputable def F_pack_Put_L1 : ((Int × (List Int)) → Option (Str)) → (Int × (List Int)) → Option (Str) := fun ih x => G_pack_Put_L1 ih x.1 x.2
theorem F_pack_Put_L1_eq (ih : (Int × (List Int)) → Option (Str)) (x : Int × (List Int)) : F_pack_Put_L1 ih x = G_pack_Put_L1 ih x.1 x.2 := rfl
noncomputable def G_pack_Put (N : Nat) (a0 : Int) : Option (Str) :=
 cond (decide (a0 < 0))
  (some [])
  (cond (decide (1099511627776 < a0))
    (some [])
    (iterF F_pack_Put_L1 N (a0, [])))
noncomputable def S_pack_Put (x : Int) : Option (Str) := lim fun N => G_pack_Put N x
noncomputable def G_pack_Pack_L1 (ih0 : (Str × (List Int) × Int × Int) → Option (Str × Int)) (v1 : Str) (v2 : (List Int)) (v3 : Int) (v4 : Int) : Option (Str × Int) :=
 cond (decide (v4 < v3))
  (cond (decide (0 ≤ v4)) (cond (decide (v4 < ((v2.length : Nat) : Int))) (Option.bind (S_pack_Put (v2.getD (Int.toNat v4) 0)) fun r5 =>
  cond (decide (r5 = []))
   (some ([], 1))
   (cond (decide (v1.length + r5.length ≤ 9223372036854775807)) (ih0 ((v1 ++ r5), v2, v3, (w64 (v4 + 1)))) none)) none) none)
  (some (v1, 0))
noncomputable def F_pack_Pack_L1 : ((Str × (List Int) × Int × Int) → Option (Str × Int)) → (Str × (List Int) × Int × Int) → Option (Str × Int) := fun ih x => G_pack_Pack_L1 ih x.1 x.2.1 x.2.2.1 x.2.2.2
theorem F_pack_Pack_L1_eq (ih : (Str × (List Int) × Int × Int) → Option (Str × Int)) (x : Str × (List Int) × Int × Int) : F_pack_Pack_L1 ih x = G_pack_Pack_L1 ih x.1 x.2.1 x.2.2.1 x.2.2.2 := rfl
noncomputable def G_pack_Pack (N : Nat) (a0 : (List Int)) : Option (Str × Int) :=
 Option.bind (S_pack_Put ((a0.length : Nat) : Int)) fun r1 =>
 iterF F_pack_Pack_L1 N (r1, a0, ((a0.length : Nat) : Int), 0)
noncomputable def S_pack_Pack (x : (List Int)) : Option (Str × Int) := lim fun N => G_pack_Pack N x
noncomputable def G_crc_Bytes_L1 (ih0 : (Int × Int × (List Int)) → Option (Str)) (v1 : Int) (v2 : Int) (v3 : (List Int)) : Option (Str) :=
 cond (decide (v2 < 4))
  (cond (decide (0 ≤ (w64 (8 * v2)))) (cond (decide (0 ≤ v2)) (cond (decide (v2 < 4)) (cond (decide ((Int.toNat v2) < v3.length)) (ih0 (v1, (w64 (v2 + 1)), (v3.set (Int.toNat v2) (Go.IntKind.u8.wrap (Int.fdiv v1 (2 ^ (min (Int.toNat (w64 (8 * v2))) 64))))))) none) none) none) none)
  (cond (decide (4 = v3.length)) (some (bytesOf ((v3.drop 0).take 4))) none)
noncomputable def F_crc_Bytes_L1 : ((Int × Int × (List Int)) → Option (Str)) → (Int × Int × (List Int)) → Option (Str) := fun ih x => G_crc_Bytes_L1 ih x.1 x.2.1 x.2.2
noncomputable def G_crc_Bytes (N : Nat) (a0 : Int) : Option (Str) :=
 cond (!(decide (a0 = (w64 (Go.IntKind.u32.wrap a0)))))
  (some [])
  (iterF F_crc_Bytes_L1 N (a0, 0, [0, 0, 0, 0]))
noncomputable def S_crc_Bytes (x : Int) : Option (Str) := lim fun N => G_crc_Bytes N x
noncomputable def G_crc_Sum_L2 (ih0 : (Str × Int × Int × Int) → Option (Int)) (ih1 : (Str × Int × Int × Int × Int) → Option (Int)) (v2 : Str) (v3 : Int) (v4 : Int) (v5 : Int) (v6 : Int) : Option (Int) :=
 cond (decide (v6 < 8))
  (cond (!(decide ((Go.IntKind.u32.wrap (bAnd .u32 v3 1)) = 0)))
    (ih1 (v2, (Go.IntKind.u32.wrap (bXor .u32 (Int.fdiv v3 (2 ^ (min 1 32))) 3988292384)), v4, v5, (w64 (v6 + 1))))
    (ih1 (v2, (Int.fdiv v3 (2 ^ (min 1 32))), v4, v5, (w64 (v6 + 1)))))
  (ih0 (v2, v3, v4, (w64 (v5 + 1))))
noncomputable def F_crc_Sum_L2 (ih5 : (Str × Int × Int × Int) → Option (Int)) : ((Str × Int × Int × Int × Int) → Option (Int)) → (Str × Int × Int × Int × Int) → Option (Int) := fun ih x => G_crc_Sum_L2 ih5 ih x.1 x.2.1 x.2.2.1 x.2.2.2.1 x.2.2.2.2
noncomputable def G_crc_Sum_L1 (N : Nat) (ih0 : (Str × Int × Int × Int) → Option (Int)) (v1 : Str) (v2 : Int) (v3 : Int) (v4 : Int) : Option (Int) :=
 cond (decide (v4 < v3))
  (cond (decide (0 ≤ v4)) (cond (decide (v4 < ((v1.length : Nat) : Int))) (iterF (F_crc_Sum_L2 ih0) N (v1, (Go.IntKind.u32.wrap (bXor .u32 v2 (Go.IntKind.u32.wrap ((v1.getD (Int.toNat v4) 0).toNat : Int)))), v3, v4, 0)) none) none)
  (some (w64 (Go.IntKind.u32.wrap (bNot .u32 v2))))
noncomputable def F_crc_Sum_L1 (N : Nat) : ((Str × Int × Int × Int) → Option (Int)) → (Str × Int × Int × Int) → Option (Int) := fun ih x => G_crc_Sum_L1 N ih x.1 x.2.1 x.2.2.1 x.2.2.2
noncomputable def G_crc_Sum (N : Nat) (a0 : Str) : Option (Int) :=
 iterF (F_crc_Sum_L1 N) N (a0, 4294967295, ((a0.length : Nat) : Int), 0)
noncomputable def S_crc_Sum (x : Str) : Option (Int) := lim fun N => G_crc_Sum N x
noncomputable def G_tag_Encode (a0 : Record) (a1 : Str) : Option (Str × Int) :=
 Option.bind (S_tag_Right a0) fun r1 =>
 cond (!r1)
  (some ([], 1))
  (cond (decide (16 < ((a1.length : Nat) : Int)))
    (some ([], 1))
    (Option.bind (S_tag_moved (a0.values, 1)) fun r2 =>
    Option.bind (S_pack_Pack [a0.kind, a0.seq]) fun r3 =>
    cond (!(decide (r3.2 = 0)))
     (some ([], r3.2))
     (cond (decide (0 + r3.1.length ≤ 9223372036854775807)) (Option.bind (S_pack_Pack a0.keys) fun r4 =>
     cond (!(decide (r4.2 = 0)))
      (some ([], r4.2))
      (cond (decide (r3.1.length + r4.1.length ≤ 9223372036854775807)) (Option.bind (S_pack_Pack r2) fun r5 =>
      cond (!(decide (r5.2 = 0)))
       (some ([], r5.2))
       (cond (decide ((r3.1 ++ r4.1).length + r5.1.length ≤ 9223372036854775807)) (cond (decide (((r3.1 ++ r4.1) ++ r5.1).length + a1.length ≤ 9223372036854775807)) (Option.bind (S_crc_Sum (((r3.1 ++ r4.1) ++ r5.1) ++ a1)) fun r6 =>
       Option.bind (S_crc_Bytes r6) fun r7 =>
       cond (decide (((r3.1 ++ r4.1) ++ r5.1).length + r7.length ≤ 9223372036854775807)) (some ((((r3.1 ++ r4.1) ++ r5.1) ++ r7), 0)) none) none) none)) none)) none)))
noncomputable def S_tag_Encode (x : Record × Str) : Option (Str × Int) := G_tag_Encode x.1 x.2
noncomputable def G_replay_value (a0 : Found) (a1 : Int) : Option (Int × Bool) :=
 cond (decide (a0.record.kind = 1))
  (some (a0.place, true))
  (cond (decide (a0.record.kind = 2))
    (cond (decide (a1 < ((a0.record.values.length : Nat) : Int)))
      (cond (decide (0 ≤ a1)) (cond (decide (a1 < ((a0.record.values.length : Nat) : Int))) (some ((a0.record.values.getD (Int.toNat a1) 0), true)) none) none)
      (some ((-1), false)))
    (some ((-1), false)))
noncomputable def S_replay_value (x : Found × Int) : Option (Int × Bool) := G_replay_value x.1 x.2
noncomputable def G_replay_Apply_L1 (ih0 : ((List Int) × Int × Int × Found × (List Int) × (List Int)) → Option (Table)) (v1 : (List Int)) (v2 : Int) (v3 : Int) (v4 : Found) (v5 : (List Int)) (v6 : (List Int)) : Option (Table) :=
 cond (decide (v3 < v2))
  (cond (decide (0 ≤ v3)) (cond (decide (v3 < ((v1.length : Nat) : Int))) (Option.bind (S_replay_value (v4, v3)) fun r7 =>
  cond (!r7.2)
   (ih0 (v1, v2, (w64 (v3 + 1)), v4, v5, v6))
   (cond (decide ((v1.getD (Int.toNat v3) 0) < 0))
     (ih0 (v1, v2, (w64 (v3 + 1)), v4, v5, v6))
     (cond (decide ((min ((v5.length : Nat) : Int) ((v6.length : Nat) : Int)) ≤ (v1.getD (Int.toNat v3) 0)))
       (ih0 (v1, v2, (w64 (v3 + 1)), v4, v5, v6))
       (cond (decide (0 ≤ (v1.getD (Int.toNat v3) 0))) (cond (decide ((v1.getD (Int.toNat v3) 0) < ((v5.length : Nat) : Int))) (cond (decide ((Int.toNat (v1.getD (Int.toNat v3) 0)) < v5.length)) (cond (decide (0 ≤ (v1.getD (Int.toNat v3) 0))) (cond (decide ((v1.getD (Int.toNat v3) 0) < ((v6.length : Nat) : Int))) (cond (decide ((Int.toNat (v1.getD (Int.toNat v3) 0)) < v6.length)) (ih0 (v1, v2, (w64 (v3 + 1)), v4, (v5.set (Int.toNat (v1.getD (Int.toNat v3) 0)) r7.1), (v6.set (Int.toNat (v1.getD (Int.toNat v3) 0)) v4.place))) none) none) none) none) none) none)))) none) none)
  (some (Table.mk v5 v6))
noncomputable def F_replay_Apply_L1 : (((List Int) × Int × Int × Found × (List Int) × (List Int)) → Option (Table)) → ((List Int) × Int × Int × Found × (List Int) × (List Int)) → Option (Table) := fun ih x => G_replay_Apply_L1 ih x.1 x.2.1 x.2.2.1 x.2.2.2.1 x.2.2.2.2.1 x.2.2.2.2.2
theorem F_replay_Apply_L1_eq (ih : ((List Int) × Int × Int × Found × (List Int) × (List Int)) → Option (Table)) (x : (List Int) × Int × Int × Found × (List Int) × (List Int)) : F_replay_Apply_L1 ih x = G_replay_Apply_L1 ih x.1 x.2.1 x.2.2.1 x.2.2.2.1 x.2.2.2.2.1 x.2.2.2.2.2 := rfl
noncomputable def G_replay_Apply (N : Nat) (a0 : Table) (a1 : Found) : Option (Table) :=
 cond (decide (a0.map.length * 8 ≤ 70368744177664)) (cond (decide (a0.map.length ≤ 70368744177664)) (cond (decide (a0.by_.length * 8 ≤ 70368744177664)) (cond (decide (a0.by_.length ≤ 70368744177664)) (iterF F_replay_Apply_L1 N (a1.record.keys, ((a1.record.keys.length : Nat) : Int), 0, a1, a0.map, a0.by_)) none) none) none) none
noncomputable def S_replay_Apply (x : Table × Found) : Option (Table) := lim fun N => G_replay_Apply N x.1 x.2
noncomputable def G_scan_Place (a0 : Int) (a1 : Int) : Option (Int) :=
 cond (decide (a0 < 0))
  (some (-1))
  (cond (decide (32 ≤ a0))
    (some (-1))
    (cond (decide (a1 < 0))
      (some (-1))
      (cond (decide (16 ≤ a1))
        (some (-1))
        (some (w64 ((w64 (a0 * 16)) + a1))))))
noncomputable def S_scan_Place (x : Int × Int) : Option (Int) := G_scan_Place x.1 x.2
noncomputable def G_ref02_Same_L1 (ih0 : ((List Int) × (List Int) × Int) → Option (Bool)) (v1 : (List Int)) (v2 : (List Int)) (v3 : Int) : Option (Bool) :=
 cond (decide (v3 < ((v1.length : Nat) : Int)))
  (cond (decide (0 ≤ v3)) (cond (decide (v3 < ((v1.length : Nat) : Int))) (cond (decide (0 ≤ v3)) (cond (decide (v3 < ((v2.length : Nat) : Int))) (cond (!(decide ((v1.getD (Int.toNat v3) 0) = (v2.getD (Int.toNat v3) 0))))
    (some false)
    (ih0 (v1, v2, (w64 (v3 + 1))))) none) none) none) none)
  (some true)
noncomputable def F_ref02_Same_L1 : (((List Int) × (List Int) × Int) → Option (Bool)) → ((List Int) × (List Int) × Int) → Option (Bool) := fun ih x => G_ref02_Same_L1 ih x.1 x.2.1 x.2.2
theorem F_ref02_Same_L1_eq (ih : ((List Int) × (List Int) × Int) → Option (Bool)) (x : (List Int) × (List Int) × Int) : F_ref02_Same_L1 ih x = G_ref02_Same_L1 ih x.1 x.2.1 x.2.2 := rfl
noncomputable def G_ref02_Same (N : Nat) (a0 : (List Int)) (a1 : (List Int)) : Option (Bool) :=
 cond (!(decide (((a0.length : Nat) : Int) = ((a1.length : Nat) : Int))))
  (some false)
  (iterF F_ref02_Same_L1 N (a0, a1, 0))
noncomputable def S_ref02_Same (x : (List Int) × (List Int)) : Option (Bool) := lim fun N => G_ref02_Same N x.1 x.2
noncomputable def G_ref07_Same (a0 : Table) (a1 : Table) : Option (Bool) :=
 Option.bind (S_ref02_Same (a0.map, a1.map)) fun r1 =>
 cond r1
  (Option.bind (S_ref02_Same (a0.by_, a1.by_)) fun r2 =>
  some r2)
  (some false)
noncomputable def S_ref07_Same (x : Table × Table) : Option (Bool) := G_ref07_Same x.1 x.2
end Clk
namespace Clk
open Go
set_option linter.unusedVariables false
noncomputable def G_math_bits_Mul64 (a0 : Int) (a1 : Int) : Option (Int × Int) :=
 some ((Go.IntKind.u64.wrap ((Go.IntKind.u64.wrap ((Go.IntKind.u64.wrap ((Int.fdiv a0 (2 ^ (min 32 64))) * (Int.fdiv a1 (2 ^ (min 32 64))))) + (Int.fdiv (Go.IntKind.u64.wrap ((Go.IntKind.u64.wrap ((Int.fdiv a0 (2 ^ (min 32 64))) * (Go.IntKind.u64.wrap (bAnd .u64 a1 4294967295)))) + (Int.fdiv (Go.IntKind.u64.wrap ((Go.IntKind.u64.wrap (bAnd .u64 a0 4294967295)) * (Go.IntKind.u64.wrap (bAnd .u64 a1 4294967295)))) (2 ^ (min 32 64))))) (2 ^ (min 32 64))))) + (Int.fdiv (Go.IntKind.u64.wrap ((Go.IntKind.u64.wrap (bAnd .u64 (Go.IntKind.u64.wrap ((Go.IntKind.u64.wrap ((Int.fdiv a0 (2 ^ (min 32 64))) * (Go.IntKind.u64.wrap (bAnd .u64 a1 4294967295)))) + (Int.fdiv (Go.IntKind.u64.wrap ((Go.IntKind.u64.wrap (bAnd .u64 a0 4294967295)) * (Go.IntKind.u64.wrap (bAnd .u64 a1 4294967295)))) (2 ^ (min 32 64))))) 4294967295)) + (Go.IntKind.u64.wrap ((Go.IntKind.u64.wrap (bAnd .u64 a0 4294967295)) * (Int.fdiv a1 (2 ^ (min 32 64))))))) (2 ^ (min 32 64))))), (Go.IntKind.u64.wrap (a0 * a1)))
noncomputable def S_math_bits_Mul64 (x : Int × Int) : Option (Int × Int) := G_math_bits_Mul64 x.1 x.2
noncomputable def G_math_bits_Mul (a0 : Int) (a1 : Int) : Option (Int × Int) :=
 Option.bind (S_math_bits_Mul64 (a0, a1)) fun r1 =>
 some (r1.1, r1.2)
noncomputable def S_math_bits_Mul (x : Int × Int) : Option (Int × Int) := G_math_bits_Mul x.1 x.2
noncomputable def G_slices_Repeat_L1 (ih0 : (Int × (List Int)) → Option ((List Int))) (v1 : Int) (v2 : (List Int)) : Option ((List Int)) :=
 cond (decide (v1 < ((v2.length : Nat) : Int)))
  (cond (decide (0 ≤ v1)) (cond (decide (v1 ≤ ((v2.length : Nat) : Int))) (cond (decide (0 ≤ v1)) (cond (decide (v1 ≤ ((v2.length : Nat) : Int))) (ih0 ((w64 (v1 + (((min ((v2.drop 0).take (Int.toNat v1)).length (v2.length - (Int.toNat v1))) : Nat) : Int))), (v2.take (Int.toNat v1) ++ ((v2.drop 0).take (Int.toNat v1)).take (min ((v2.drop 0).take (Int.toNat v1)).length (v2.length - (Int.toNat v1))) ++ v2.drop ((Int.toNat v1) + (min ((v2.drop 0).take (Int.toNat v1)).length (v2.length - (Int.toNat v1))))))) none) none) none) none)
  (some v2)
noncomputable def F_slices_Repeat_L1 : ((Int × (List Int)) → Option ((List Int))) → (Int × (List Int)) → Option ((List Int)) := fun ih x => G_slices_Repeat_L1 ih x.1 x.2
noncomputable def G_slices_Repeat (N : Nat) (a0 : (List Int)) (a1 : Int) : Option ((List Int)) :=
 cond (decide (a1 < 0))
  (none)
  (Option.bind (S_math_bits_Mul ((Go.IntKind.u64.wrap ((a0.length : Nat) : Int)), (Go.IntKind.u64.wrap a1))) fun r1 =>
  cond (decide (0 < r1.1))
   (none)
   (cond (decide (9223372036854775807 < r1.2))
     (none)
     (cond (decide (0 ≤ (w64 r1.2))) (cond (decide ((w64 r1.2) ≤ (w64 r1.2))) (cond (decide (((w64 r1.2) * 8) ≤ 70368744177664)) (cond (decide ((w64 r1.2) ≤ 70368744177664)) (iterF F_slices_Repeat_L1 N ((((min a0.length (List.replicate (Int.toNat (w64 r1.2)) (0 : Int)).length) : Nat) : Int), (a0.take (List.replicate (Int.toNat (w64 r1.2)) (0 : Int)).length ++ (List.replicate (Int.toNat (w64 r1.2)) (0 : Int)).drop a0.length))) none) none) none) none)))
noncomputable def S_slices_Repeat (x : (List Int) × Int) : Option ((List Int)) := lim fun N => G_slices_Repeat N x.1 x.2
noncomputable def G_replay_New (a0 : Int) : Option (Table) :=
 Option.bind (S_slices_Repeat ([(-1)], (min (max a0 0) 64))) fun r1 =>
 Option.bind (S_slices_Repeat ([(-1)], (min (max a0 0) 64))) fun r2 =>
 some (Table.mk r1 r2)
noncomputable def S_replay_New (x : Int) : Option (Table) := G_replay_New x
noncomputable def G_pack_finish (a0 : Int) (a1 : Str) (a2 : Bool) : Option (Int × Str × Bool) :=
 cond (!a2)
  (some (0, [], false))
  (cond (decide (1099511627776 < a0))
    (some (0, [], false))
    (some (a0, a1, true)))
noncomputable def S_pack_finish (x : Int × Str × Bool) : Option (Int × Str × Bool) := G_pack_finish x.1 x.2.1 x.2.2
noncomputable def G_pack_Take_L1 (ih0 : (Str × Int × Int × Int) → Option (Int × Str × Bool)) (v1 : Str) (v2 : Int) (v3 : Int) (v4 : Int) : Option (Int × Str × Bool) :=
 cond (decide (v4 < v3))
  (cond (decide (0 ≤ v4)) (cond (decide (v4 < ((v1.length : Nat) : Int))) (cond (decide (0 ≤ (w64 (7 * v4)))) (cond (decide ((w64 ((v1.getD (Int.toNat v4) 0).toNat : Int)) < 128))
    (cond (decide (0 ≤ (w64 (v4 + 1)))) (cond (decide ((w64 (v4 + 1)) ≤ ((v1.length : Nat) : Int))) (cond (decide (v4 = 0))
      (Option.bind (S_pack_finish ((w64 (bOr .i64 v2 (w64 ((w64 (bAndNot .i64 (w64 ((v1.getD (Int.toNat v4) 0).toNat : Int)) 128)) * 2 ^ (min (Int.toNat (w64 (7 * v4))) 64))))), (v1.drop (Int.toNat (w64 (v4 + 1)))), true)) fun r5 =>
      some (r5.1, r5.2.1, r5.2.2))
      (Option.bind (S_pack_finish ((w64 (bOr .i64 v2 (w64 ((w64 (bAndNot .i64 (w64 ((v1.getD (Int.toNat v4) 0).toNat : Int)) 128)) * 2 ^ (min (Int.toNat (w64 (7 * v4))) 64))))), (v1.drop (Int.toNat (w64 (v4 + 1)))), (decide (0 < (w64 ((v1.getD (Int.toNat v4) 0).toNat : Int)))))) fun r6 =>
      some (r6.1, r6.2.1, r6.2.2))) none) none)
    (ih0 (v1, (w64 (bOr .i64 v2 (w64 ((w64 (bAndNot .i64 (w64 ((v1.getD (Int.toNat v4) 0).toNat : Int)) 128)) * 2 ^ (min (Int.toNat (w64 (7 * v4))) 64))))), v3, (w64 (v4 + 1))))) none) none) none)
  (some (0, [], false))
noncomputable def F_pack_Take_L1 : ((Str × Int × Int × Int) → Option (Int × Str × Bool)) → (Str × Int × Int × Int) → Option (Int × Str × Bool) := fun ih x => G_pack_Take_L1 ih x.1 x.2.1 x.2.2.1 x.2.2.2
theorem F_pack_Take_L1_eq (ih : (Str × Int × Int × Int) → Option (Int × Str × Bool)) (x : Str × Int × Int × Int) : F_pack_Take_L1 ih x = G_pack_Take_L1 ih x.1 x.2.1 x.2.2.1 x.2.2.2 := rfl
noncomputable def G_pack_Take (N : Nat) (a0 : Str) : Option (Int × Str × Bool) :=
 iterF F_pack_Take_L1 N (a0, 0, (min ((a0.length : Nat) : Int) 6), 0)
noncomputable def S_pack_Take (x : Str) : Option (Int × Str × Bool) := lim fun N => G_pack_Take N x
noncomputable def G_pack_Unpack_L1 (ih0 : (Str × Int × Int × (List Int)) → Option ((List Int) × Str × Int)) (v1 : Str) (v2 : Int) (v3 : Int) (v4 : (List Int)) : Option ((List Int) × Str × Int) :=
 cond (decide (v3 < v2))
  (Option.bind (S_pack_Take v1) fun r5 =>
  cond (!r5.2.2)
   (some ([], [], 20))
   (cond (decide ((v4.length + [r5.1].length) * 8 ≤ 70368744177664)) (cond (decide (v4.length + [r5.1].length ≤ 70368744177664)) (ih0 (r5.2.1, v2, (w64 (v3 + 1)), (v4 ++ [r5.1]))) none) none))
  (some (v4, v1, 0))
noncomputable def F_pack_Unpack_L1 : ((Str × Int × Int × (List Int)) → Option ((List Int) × Str × Int)) → (Str × Int × Int × (List Int)) → Option ((List Int) × Str × Int) := fun ih x => G_pack_Unpack_L1 ih x.1 x.2.1 x.2.2.1 x.2.2.2
theorem F_pack_Unpack_L1_eq (ih : (Str × Int × Int × (List Int)) → Option ((List Int) × Str × Int)) (x : Str × Int × Int × (List Int)) : F_pack_Unpack_L1 ih x = G_pack_Unpack_L1 ih x.1 x.2.1 x.2.2.1 x.2.2.2 := rfl
noncomputable def G_pack_Unpack (N : Nat) (a0 : Str) : Option ((List Int) × Str × Int) :=
 Option.bind (S_pack_Take a0) fun r1 =>
 cond (!r1.2.2)
  (some ([], [], 20))
  (cond (decide (((r1.2.1.length : Nat) : Int) < r1.1))
    (some ([], [], 20))
    (iterF F_pack_Unpack_L1 N (r1.2.1, r1.1, 0, [])))
noncomputable def S_pack_Unpack (x : Str) : Option ((List Int) × Str × Int) := lim fun N => G_pack_Unpack N x
noncomputable def S_tag_read (x : Str) : Option (Record × Int) := readF S_pack_Unpack (fun l => S_tag_moved (l, -1)) x
noncomputable def G_tag_Decode (a0 : Str) (a1 : Str) : Option (Record × Int) :=
 Option.bind (S_tag_read a0) fun r1 =>
 cond (!(decide (r1.2 = 0)))
  (some ((Record.mk 0 0 [] []), r1.2))
  (Option.bind (S_tag_Encode (r1.1, a1)) fun r2 =>
  cond (!(decide (r2.2 = 0)))
   (some ((Record.mk 0 0 [] []), 30))
   (cond (!(decide (r2.1 = a0)))
     (some ((Record.mk 0 0 [] []), 30))
     (some (r1.1, 0))))
noncomputable def S_tag_Decode (x : Str × Str) : Option (Record × Int) := G_tag_Decode x.1 x.2
noncomputable def G_look_Look (a0 : Page) : Option (Int × Record) :=
 cond (!a0.written)
  (some (0, (Record.mk 0 0 [] [])))
  (Option.bind (S_tag_Decode (a0.tag, a0.data)) fun r1 =>
  cond (decide (r1.2 = 0))
   (some (1, r1.1))
   (some (2, (Record.mk 0 0 [] []))))
noncomputable def S_look_Look (x : Page) : Option (Int × Record) := G_look_Look x
noncomputable def G_scan_All_L2 (ih0 : ((List Block) × Int × Int × (List Found)) → Option ((List Found))) (ih1 : (Int × (List Block) × Int × Int × (List Page) × Int × Int × (List Found)) → Option ((List Found))) (v2 : Int) (v3 : (List Block)) (v4 : Int) (v5 : Int) (v6 : (List Page)) (v7 : Int) (v8 : Int) (v9 : (List Found)) : Option ((List Found)) :=
 cond (decide (v8 < v7))
  (cond (decide (0 ≤ v8)) (cond (decide (v8 < ((v6.length : Nat) : Int))) (Option.bind (S_scan_Place (v2, v8)) fun r10 =>
  cond (decide (0 ≤ r10))
   (Option.bind (S_look_Look (v6.getD (Int.toNat v8) default)) fun r11 =>
   cond (decide (r11.1 = 1))
    (cond (decide ((v9.length + [(Found.mk r10 r11.2)].length) * 72 ≤ 70368744177664)) (cond (decide (v9.length + [(Found.mk r10 r11.2)].length ≤ 70368744177664)) (ih1 (v2, v3, v4, v5, v6, v7, (w64 (v8 + 1)), (v9 ++ [(Found.mk r10 r11.2)]))) none) none)
    (ih1 (v2, v3, v4, v5, v6, v7, (w64 (v8 + 1)), v9)))
   (ih1 (v2, v3, v4, v5, v6, v7, (w64 (v8 + 1)), v9))) none) none)
  (ih0 (v3, v4, (w64 (v5 + 1)), v9))
noncomputable def F_scan_All_L2 (ih5 : ((List Block) × Int × Int × (List Found)) → Option ((List Found))) : ((Int × (List Block) × Int × Int × (List Page) × Int × Int × (List Found)) → Option ((List Found))) → (Int × (List Block) × Int × Int × (List Page) × Int × Int × (List Found)) → Option ((List Found)) := fun ih x => G_scan_All_L2 ih5 ih x.1 x.2.1 x.2.2.1 x.2.2.2.1 x.2.2.2.2.1 x.2.2.2.2.2.1 x.2.2.2.2.2.2.1 x.2.2.2.2.2.2.2
theorem F_scan_All_L2_eq (ih5 : ((List Block) × Int × Int × (List Found)) → Option ((List Found))) (ih : (Int × (List Block) × Int × Int × (List Page) × Int × Int × (List Found)) → Option ((List Found))) (x : Int × (List Block) × Int × Int × (List Page) × Int × Int × (List Found)) : F_scan_All_L2 ih5 ih x = G_scan_All_L2 ih5 ih x.1 x.2.1 x.2.2.1 x.2.2.2.1 x.2.2.2.2.1 x.2.2.2.2.2.1 x.2.2.2.2.2.2.1 x.2.2.2.2.2.2.2 := rfl
noncomputable def G_scan_All_L1 (N : Nat) (ih0 : ((List Block) × Int × Int × (List Found)) → Option ((List Found))) (v1 : (List Block)) (v2 : Int) (v3 : Int) (v4 : (List Found)) : Option ((List Found)) :=
 cond (decide (v3 < v2))
  (cond (decide (0 ≤ v3)) (cond (decide (v3 < ((v1.length : Nat) : Int))) (iterF (F_scan_All_L2 ih0) N (v3, v1, v2, v3, (v1.getD (Int.toNat v3) default).pages, (((v1.getD (Int.toNat v3) default).pages.length : Nat) : Int), 0, v4)) none) none)
  (cond (distF v4) (cond (decide (v4.length ≤ 70368744177664)) (some (sortF v4)) none) none)
noncomputable def F_scan_All_L1 (N : Nat) : (((List Block) × Int × Int × (List Found)) → Option ((List Found))) → ((List Block) × Int × Int × (List Found)) → Option ((List Found)) := fun ih x => G_scan_All_L1 N ih x.1 x.2.1 x.2.2.1 x.2.2.2
theorem F_scan_All_L1_eq (N : Nat) (ih : ((List Block) × Int × Int × (List Found)) → Option ((List Found))) (x : (List Block) × Int × Int × (List Found)) : F_scan_All_L1 N ih x = G_scan_All_L1 N ih x.1 x.2.1 x.2.2.1 x.2.2.2 := rfl
noncomputable def G_scan_All (N : Nat) (a0 : Chip) : Option ((List Found)) :=
 iterF (F_scan_All_L1 N) N (a0.blocks, ((a0.blocks.length : Nat) : Int), 0, [])
noncomputable def S_scan_All (x : Chip) : Option ((List Found)) := lim fun N => G_scan_All N x
noncomputable def G_replay_Replay_L2 (v0 : Table) (ih1 : (Int × (List Found) × Int × Int) → Option (Table × Int)) (v2 : Int) (v3 : (List Found)) (v4 : Int) (v5 : Int) : Option (Table × Int) :=
 cond (decide (v5 < v4))
  (cond (decide (0 ≤ v5)) (cond (decide (v5 < ((v3.length : Nat) : Int))) (ih1 ((max v2 (w64 ((v3.getD (Int.toNat v5) default).record.seq + 1))), v3, v4, (w64 (v5 + 1)))) none) none)
  (some (v0, v2))
noncomputable def F_replay_Replay_L2 (v6 : Table) : ((Int × (List Found) × Int × Int) → Option (Table × Int)) → (Int × (List Found) × Int × Int) → Option (Table × Int) := fun ih x => G_replay_Replay_L2 v6 ih x.1 x.2.1 x.2.2.1 x.2.2.2
theorem F_replay_Replay_L2_eq (v6 : Table) (ih : (Int × (List Found) × Int × Int) → Option (Table × Int)) (x : Int × (List Found) × Int × Int) : F_replay_Replay_L2 v6 ih x = G_replay_Replay_L2 v6 ih x.1 x.2.1 x.2.2.1 x.2.2.2 := rfl
noncomputable def G_replay_Replay_L1 (N : Nat) (r0 : (List Found)) (ih1 : ((List Found) × Int × Int × Table) → Option (Table × Int)) (v2 : (List Found)) (v3 : Int) (v4 : Int) (v5 : Table) : Option (Table × Int) :=
 cond (decide (v4 < v3))
  (cond (decide (0 ≤ v4)) (cond (decide (v4 < ((v2.length : Nat) : Int))) (Option.bind (S_replay_Apply (v5, (v2.getD (Int.toNat v4) default))) fun r6 =>
  ih1 (v2, v3, (w64 (v4 + 1)), r6)) none) none)
  (iterF (F_replay_Replay_L2 v5) N (0, r0, ((r0.length : Nat) : Int), 0))
noncomputable def F_replay_Replay_L1 (N : Nat) (r1 : (List Found)) : (((List Found) × Int × Int × Table) → Option (Table × Int)) → ((List Found) × Int × Int × Table) → Option (Table × Int) := fun ih x => G_replay_Replay_L1 N r1 ih x.1 x.2.1 x.2.2.1 x.2.2.2
theorem F_replay_Replay_L1_eq (N : Nat) (r1 : (List Found)) (ih : ((List Found) × Int × Int × Table) → Option (Table × Int)) (x : (List Found) × Int × Int × Table) : F_replay_Replay_L1 N r1 ih x = G_replay_Replay_L1 N r1 ih x.1 x.2.1 x.2.2.1 x.2.2.2 := rfl
noncomputable def G_replay_Replay (N : Nat) (a0 : Chip) (a1 : Int) : Option (Table × Int) :=
 Option.bind (S_scan_All a0) fun r1 =>
 Option.bind (S_replay_New a1) fun r2 =>
 iterF (F_replay_Replay_L1 N r1) N (r1, ((r1.length : Nat) : Int), 0, r2)
noncomputable def S_replay_Replay (x : Chip × Int) : Option (Table × Int) := lim fun N => G_replay_Replay N x.1 x.2
end Clk
namespace Clk
open Go
set_option linter.unusedVariables false
noncomputable def G_law07_awake : Option (Bool) :=
 Option.bind (S_replay_New 4) fun r1 =>
 Option.bind (S_replay_Apply (r1, (Found.mk 5 (Record.mk 1 0 [3] [])))) fun r2 =>
 Option.bind (S_replay_Apply (r2, (Found.mk 6 (Record.mk 2 0 [3] [(-1)])))) fun r3 =>
 Option.bind (S_replay_Replay ((Chip.mk [] false false 0), 4)) fun r4 =>
 Option.bind (S_ref07_Same (r2, (Table.mk [(-1), (-1), (-1), 5] [(-1), (-1), (-1), 5]))) fun r5 =>
 cond r5
  (Option.bind (S_ref07_Same (r3, (Table.mk [(-1), (-1), (-1), (-1)] [(-1), (-1), (-1), 6]))) fun r6 =>
  cond r6
   (some (decide (r4.2 = 0)))
   (some false))
  (some false)
noncomputable def S_law07_awake (x : Unit) : Option (Bool) := G_law07_awake
noncomputable def G_law07_ReplayPlaces_L3 (ih0 : (Bool × Int × (List Found) × Int × Bool × Bool × Int × Table) → Option (Bool)) (ih1 : (Bool × Int × (List Found) × Int × Bool × Bool × Int × Int × Table) → Option (Bool)) (v2 : Bool) (v3 : Int) (v4 : (List Found)) (v5 : Int) (v6 : Bool) (v7 : Bool) (v8 : Int) (v9 : Int) (v10 : Table) : Option (Bool) :=
 cond (decide (0 ≤ v8)) (cond (decide (v8 < ((v4.length : Nat) : Int))) (cond (decide (v9 < (((v4.getD (Int.toNat v8) default).record.keys.length : Nat) : Int)))
  (cond (decide (0 ≤ v8)) (cond (decide (v8 < ((v4.length : Nat) : Int))) (cond (decide (0 ≤ v9)) (cond (decide (v9 < (((v4.getD (Int.toNat v8) default).record.keys.length : Nat) : Int))) (cond (decide (((v4.getD (Int.toNat v8) default).record.keys.getD (Int.toNat v9) 0) = v5))
    (cond v7
      (ih1 (v2, v3, v4, v5, true, true, v8, (w64 (v9 + 1)), v10))
      (cond (decide (0 ≤ v8)) (cond (decide (v8 < ((v4.length : Nat) : Int))) (cond (decide (0 ≤ v5)) (cond (decide (v5 < ((v10.by_.length : Nat) : Int))) (ih1 (v2, v3, v4, v5, true, (decide ((v4.getD (Int.toNat v8) default).place = (v10.by_.getD (Int.toNat v5) 0))), v8, (w64 (v9 + 1)), v10)) none) none) none) none))
    (ih1 (v2, v3, v4, v5, v6, v7, v8, (w64 (v9 + 1)), v10))) none) none) none) none)
  (ih0 (v2, v3, v4, v5, v6, v7, (w64 (v8 + 1)), v10))) none) none
noncomputable def F_law07_ReplayPlaces_L3 (ih19 : (Bool × Int × (List Found) × Int × Bool × Bool × Int × Table) → Option (Bool)) : ((Bool × Int × (List Found) × Int × Bool × Bool × Int × Int × Table) → Option (Bool)) → (Bool × Int × (List Found) × Int × Bool × Bool × Int × Int × Table) → Option (Bool) := fun ih x => G_law07_ReplayPlaces_L3 ih19 ih x.1 x.2.1 x.2.2.1 x.2.2.2.1 x.2.2.2.2.1 x.2.2.2.2.2.1 x.2.2.2.2.2.2.1 x.2.2.2.2.2.2.2.1 x.2.2.2.2.2.2.2.2
theorem F_law07_ReplayPlaces_L3_eq (ih19 : (Bool × Int × (List Found) × Int × Bool × Bool × Int × Table) → Option (Bool)) (ih : (Bool × Int × (List Found) × Int × Bool × Bool × Int × Int × Table) → Option (Bool)) (x : Bool × Int × (List Found) × Int × Bool × Bool × Int × Int × Table) : F_law07_ReplayPlaces_L3 ih19 ih x = G_law07_ReplayPlaces_L3 ih19 ih x.1 x.2.1 x.2.2.1 x.2.2.2.1 x.2.2.2.2.1 x.2.2.2.2.2.1 x.2.2.2.2.2.2.1 x.2.2.2.2.2.2.2.1 x.2.2.2.2.2.2.2.2 := rfl
noncomputable def G_law07_ReplayPlaces_L2 (N : Nat) (ih0 : (Bool × Int × (List Found) × Int × Table) → Option (Bool)) (ih1 : (Bool × Int × (List Found) × Int × Bool × Bool × Int × Table) → Option (Bool)) (v2 : Bool) (v3 : Int) (v4 : (List Found)) (v5 : Int) (v6 : Bool) (v7 : Bool) (v8 : Int) (v9 : Table) : Option (Bool) :=
 cond (decide (v8 < ((v4.length : Nat) : Int)))
  (iterF (F_law07_ReplayPlaces_L3 ih1) N (v2, v3, v4, v5, v6, v7, v8, 0, v9))
  (cond (!(v6 == v7))
    (some false)
    (cond (!v6)
      (cond (decide (0 ≤ v5)) (cond (decide (v5 < ((v9.by_.length : Nat) : Int))) (cond (!(decide ((v9.by_.getD (Int.toNat v5) 0) = (-1))))
        (some false)
        (cond (decide (0 ≤ v5)) (cond (decide (v5 < ((v9.map.length : Nat) : Int))) (cond (!(decide ((v9.map.getD (Int.toNat v5) 0) = (-1))))
          (some false)
          (ih0 (v2, v3, v4, (w64 (v5 + 1)), v9))) none) none)) none) none)
      (ih0 (v2, v3, v4, (w64 (v5 + 1)), v9))))
noncomputable def F_law07_ReplayPlaces_L2 (N : Nat) (ih10 : (Bool × Int × (List Found) × Int × Table) → Option (Bool)) : ((Bool × Int × (List Found) × Int × Bool × Bool × Int × Table) → Option (Bool)) → (Bool × Int × (List Found) × Int × Bool × Bool × Int × Table) → Option (Bool) := fun ih x => G_law07_ReplayPlaces_L2 N ih10 ih x.1 x.2.1 x.2.2.1 x.2.2.2.1 x.2.2.2.2.1 x.2.2.2.2.2.1 x.2.2.2.2.2.2.1 x.2.2.2.2.2.2.2
theorem F_law07_ReplayPlaces_L2_eq (N : Nat) (ih10 : (Bool × Int × (List Found) × Int × Table) → Option (Bool)) (ih : (Bool × Int × (List Found) × Int × Bool × Bool × Int × Table) → Option (Bool)) (x : Bool × Int × (List Found) × Int × Bool × Bool × Int × Table) : F_law07_ReplayPlaces_L2 N ih10 ih x = G_law07_ReplayPlaces_L2 N ih10 ih x.1 x.2.1 x.2.2.1 x.2.2.2.1 x.2.2.2.2.1 x.2.2.2.2.2.1 x.2.2.2.2.2.2.1 x.2.2.2.2.2.2.2 := rfl
noncomputable def G_law07_ReplayPlaces_L1 (N : Nat) (ih0 : (Bool × Int × (List Found) × Int × Table) → Option (Bool)) (v1 : Bool) (v2 : Int) (v3 : (List Found)) (v4 : Int) (v5 : Table) : Option (Bool) :=
 cond (decide (v4 < v2))
  (iterF (F_law07_ReplayPlaces_L2 N ih0) N (v1, v2, v3, v4, false, false, 0, v5))
  (some v1)
noncomputable def F_law07_ReplayPlaces_L1 (N : Nat) : ((Bool × Int × (List Found) × Int × Table) → Option (Bool)) → (Bool × Int × (List Found) × Int × Table) → Option (Bool) := fun ih x => G_law07_ReplayPlaces_L1 N ih x.1 x.2.1 x.2.2.1 x.2.2.2.1 x.2.2.2.2
theorem F_law07_ReplayPlaces_L1_eq (N : Nat) (ih : (Bool × Int × (List Found) × Int × Table) → Option (Bool)) (x : Bool × Int × (List Found) × Int × Table) : F_law07_ReplayPlaces_L1 N ih x = G_law07_ReplayPlaces_L1 N ih x.1 x.2.1 x.2.2.1 x.2.2.2.1 x.2.2.2.2 := rfl
noncomputable def G_law07_ReplayPlaces (N : Nat) (a0 : (List Int)) (a1 : Int) : Option (Bool) :=
 Option.bind (S_law07_awake ()) fun r1 =>
 cond (!r1)
  (some false)
  (Option.bind (S_law06_Made (a0, 4, 5)) fun r2 =>
  Option.bind (S_replay_Replay (r2, (Int.tmod (w64 a1) 65))) fun r3 =>
  Option.bind (S_ref06_All r2) fun r4 =>
  cond (!(decide (((r3.1.map.length : Nat) : Int) = (Int.tmod (w64 a1) 65))))
   (some false)
   (cond (!(decide (((r3.1.by_.length : Nat) : Int) = (Int.tmod (w64 a1) 65))))
     (some false)
     (iterF (F_law07_ReplayPlaces_L1 N) N (r1, (Int.tmod (w64 a1) 65), r4, 0, r3.1))))
noncomputable def S_law07_ReplayPlaces (x : (List Int) × Int) : Option (Bool) := lim fun N => G_law07_ReplayPlaces N x.1 x.2
end Clk
