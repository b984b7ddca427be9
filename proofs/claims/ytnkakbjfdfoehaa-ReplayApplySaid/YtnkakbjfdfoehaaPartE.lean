/- A part of the proof of ReplayApply: an evaluator of the program's code that the kernel runs, its soundness, what the functions compute. -/
import Derived.Test.YtnkakbjfdfoehaaPartD
import Derived.IntWalk
import Derived.KernelRfl
import Derived.ChangeSlices
set_option linter.unusedVariables false
set_option linter.unusedSimpArgs false
namespace Clk
open Go
set_option linter.unusedVariables false
theorem iterF_succ {X R : Type} (F : (X → Option R) → X → Option R) (N : Nat) (x : X) : iterF F (N + 1) x = F (iterF F N) x := rfl
theorem drop_cons {α : Type} {xs l : List α} {k : Nat} {a : α} (h : xs.drop k = a :: l) : k < xs.length ∧ (∀ d, xs.getD k d = a) ∧ xs.drop (k + 1) = l := by
  have hk : k < xs.length := by
    apply Nat.lt_of_not_le
    intro hn
    rw [List.drop_eq_nil_of_le hn] at h
    cases h
  rw [List.drop_eq_getElem_cons hk] at h
  injection h with h1 h2
  exact ⟨hk, fun d => by rw [List.getD_eq_getElem?_getD, List.getElem?_eq_getElem hk, h1]; rfl, h2⟩
theorem drop_nil {α : Type} {xs : List α} {k : Nat} (h : xs.drop k = []) : xs.length ≤ k := List.drop_eq_nil_iff.1 h
theorem w64_id {n : Int} (h1 : -9223372036854775808 ≤ n) (h2 : n < 9223372036854775808) : w64 n = n := Go.IntWalk.i64_in n ⟨h1, by omega⟩
theorem some_bind' {α β : Type} (a : α) (f : α → Option β) : (some a).bind f = f a := rfl
end Clk
namespace Clk
open Go
set_option linter.unusedVariables false
theorem ref02_Same_L1 {a b : List Int} (hs : a.length < 4294967296) (hab : a.length = b.length) : ∀ (l m : List Int) (N k : Nat) (i : Int), a.drop k = l → b.drop k = m → i = k → l.length < N → iterF F_ref02_Same_L1 N (a, b, i) = some (decide (l = m))
  | l, m, 0, _, _, _, _, _, h => by omega
  | [], m, N + 1, k, i, h1, h2, h3, h4 => by
    have h5 := drop_nil h1
    have h6 : m = [] := by rw [← h2]; exact List.drop_eq_nil_of_le (by omega)
    rw [iterF_succ]
    rw [F_ref02_Same_L1_eq]
    unfold G_ref02_Same_L1
    simp only
    rw [decide_eq_false (by omega), cond_false, h6]; rfl
  | x :: l, m, N + 1, k, i, h1, h2, h3, h4 => by
    obtain ⟨g1, g2, g3⟩ := drop_cons h1
    subst h3
    cases m with
    | nil => have := drop_nil h2; omega
    | cons y m =>
      obtain ⟨e1, e2, e3⟩ := drop_cons h2
      rw [iterF_succ]
      rw [F_ref02_Same_L1_eq]
      unfold G_ref02_Same_L1
      simp only [Int.toNat_natCast, g2, e2]
      rw [decide_eq_true (show (k : Int) < a.length by omega), decide_eq_true (show (0 : Int) ≤ k by omega), decide_eq_true (show (k : Int) < b.length by omega)]
      simp only [cond_true]
      by_cases hxy : x = y
      · rw [decide_eq_true hxy, Bool.not_true, cond_false]
        have := ref02_Same_L1 hs hab l m N (k + 1) (w64 (k + 1)) g3 e3 (by rw [w64_id (by omega) (by omega)]; omega) (by simp at h4; omega)
        rw [this]
        simp [hxy]
      · rw [decide_eq_false hxy, Bool.not_false, cond_true]
        simp [hxy]
theorem s_ref02_Same {a b : List Int} (hs : a.length < 4294967296) : S_ref02_Same (a, b) = some (decide (a = b)) := by
  refine lim_eq (a.length + 1) fun N hN => ?_
  show G_ref02_Same N a b = _
  unfold G_ref02_Same
  by_cases h : a.length = b.length
  · rw [decide_eq_true (by omega), Bool.not_true, cond_false]
    exact ref02_Same_L1 hs h a b N 0 0 rfl rfl rfl (by omega)
  · rw [decide_eq_false (by omega), Bool.not_false, cond_true, decide_eq_false (fun e => h (by rw [e]))]
end Clk
namespace Clk
open Go
set_option linter.unusedVariables false
end Clk
namespace Clk
open Go
set_option linter.unusedVariables false
def RecOk (r : Record) : Prop := r.keys.length < 4294967296 ∧ r.values.length < 4294967296
end Clk
namespace Clk
open Go
set_option linter.unusedVariables false
end Clk
namespace Clk
open Go
set_option linter.unusedVariables false
end Clk
namespace Clk
open Go
set_option linter.unusedVariables false
def tabT (n : Int) : Table := ⟨List.replicate (min n.toNat 64) (-1), List.replicate (min n.toNat 64) (-1)⟩
def TabOk (t : Table) : Prop := t.map.length < 4294967296 ∧ t.by_.length < 4294967296
def app1 (f : Found) (i : Nat) (k : Int) (t : Table) : Table :=
  if 0 ≤ k ∧ k < t.map.length ∧ k < t.by_.length then
    if f.record.kind = 1 then ⟨t.map.set k.toNat f.place, t.by_.set k.toNat f.place⟩
    else if f.record.kind = 2 ∧ i < f.record.values.length then ⟨t.map.set k.toNat (f.record.values.getD i 0), t.by_.set k.toNat f.place⟩
    else t
  else t
def appL (f : Found) : Nat → List Int → Table → Table
  | _, [], t => t
  | i, k :: l, t => appL f (i + 1) l (app1 f i k t)
def applyT (t : Table) (f : Found) : Table := appL f 0 f.record.keys t
theorem app1_len (f : Found) (i : Nat) (k : Int) (t : Table) : (app1 f i k t).map.length = t.map.length ∧ (app1 f i k t).by_.length = t.by_.length := by
  unfold app1
  split
  · split
    · simp
    · split <;> simp
  · simp
theorem appL_len (f : Found) : ∀ (l : List Int) (i : Nat) (t : Table), (appL f i l t).map.length = t.map.length ∧ (appL f i l t).by_.length = t.by_.length
  | [], i, t => ⟨rfl, rfl⟩
  | k :: l, i, t => by
    unfold appL
    obtain ⟨h1, h2⟩ := appL_len f l (i + 1) (app1 f i k t)
    obtain ⟨h3, h4⟩ := app1_len f i k t
    exact ⟨h1.trans h3, h2.trans h4⟩
theorem applyT_len (t : Table) (f : Found) : (applyT t f).map.length = t.map.length ∧ (applyT t f).by_.length = t.by_.length := appL_len f _ 0 t
theorem Apply_L1 {f : Found} (hk : f.record.keys.length < 4294967296) (hv : f.record.values.length < 4294967296) : ∀ (l : List Int) (N i : Nat) (ii : Int) (t : Table), f.record.keys.drop i = l → ii = i → TabOk t → l.length < N → iterF F_ref07_Apply_L1 N (ii, f, t.map, t.by_) = some (appL f i l t)
  | l, 0, _, _, _, _, _, _, h => by omega
  | [], N + 1, i, ii, t, h1, h2, h3, _ => by
    have h4 := drop_nil h1
    rw [iterF_succ, F_ref07_Apply_L1_eq]
    unfold G_ref07_Apply_L1
    simp only [appL]
    rw [decide_eq_false (by omega), cond_false]
  | k :: l, N + 1, i, ii, t, h1, h2, h3, h4 => by
    obtain ⟨g1, g2, g3⟩ := drop_cons h1
    subst h2
    have e1 : w64 ((i : Int) + 1) = ((i + 1 : Nat) : Int) := by rw [w64_id (by omega) (by omega)]; rfl
    have ih := fun t' h => Apply_L1 hk hv l N (i + 1) _ t' g3 rfl h (by simp at h4; omega)
    have ihs := ih t h3
    rw [iterF_succ, F_ref07_Apply_L1_eq]
    unfold G_ref07_Apply_L1
    simp only [Int.toNat_natCast, g2, e1, appL]
    rw [decide_eq_true (show (i : Int) < f.record.keys.length by omega), decide_eq_true (show (0 : Int) ≤ i by omega)]
    simp only [cond_true]
    unfold app1
    by_cases c1 : k < 0
    · rw [decide_eq_true c1, cond_true, if_neg (by omega)]; exact ihs
    · rw [decide_eq_false c1, cond_false]
      by_cases c2 : (t.map.length : Int) ≤ k
      · rw [decide_eq_true c2, cond_true, if_neg (by omega)]; exact ihs
      · rw [decide_eq_false c2, cond_false]
        by_cases c3 : (t.by_.length : Int) ≤ k
        · rw [decide_eq_true c3, cond_true, if_neg (by omega)]; exact ihs
        · rw [decide_eq_false c3, cond_false, if_pos (by omega), decide_eq_true (show 0 ≤ k by omega), decide_eq_true (show k < t.map.length by omega), decide_eq_true (show k.toNat < t.map.length by omega), decide_eq_true (show k < t.by_.length by omega), decide_eq_true (show k.toNat < t.by_.length by omega)]
          simp only [cond_true]
          by_cases c4 : f.record.kind = 1
          · rw [decide_eq_true c4, cond_true, if_pos c4]
            exact ih ⟨t.map.set k.toNat f.place, t.by_.set k.toNat f.place⟩ ⟨by simpa using h3.1, by simpa using h3.2⟩
          · rw [decide_eq_false c4, cond_false, if_neg c4]
            by_cases c5 : f.record.kind = 2
            · rw [decide_eq_true c5, cond_true]
              by_cases c6 : i < f.record.values.length
              · rw [decide_eq_true (show (i : Int) < f.record.values.length by omega), cond_true, cond_true, if_pos ⟨c5, c6⟩]
                exact ih ⟨t.map.set k.toNat (f.record.values.getD i 0), t.by_.set k.toNat f.place⟩ ⟨by simpa using h3.1, by simpa using h3.2⟩
              · rw [decide_eq_false (show ¬ (i : Int) < f.record.values.length by omega), cond_false, if_neg (fun h => c6 h.2)]; exact ihs
            · rw [decide_eq_false c5, cond_false, if_neg (fun h => c5 h.1)]; exact ihs
theorem s_ref07_Apply {t : Table} {f : Found} (ht : TabOk t) (hr : RecOk f.record) : S_ref07_Apply (t, f) = some (applyT t f) := by
  have h1 := ht.1
  have h2 := ht.2
  have h3 := hr.1
  refine lim_eq 4294967297 fun N hN => ?_
  show G_ref07_Apply N t f = _
  unfold G_ref07_Apply
  rw [decide_eq_true (by omega), cond_true, decide_eq_true (by omega), cond_true, decide_eq_true (by omega), cond_true, decide_eq_true (by omega), cond_true]
  exact Apply_L1 h3 hr.2 _ N 0 0 t rfl rfl ht (by omega)
theorem pApply_L1 {f : Found} (hk : f.record.keys.length < 4294967296) (hv : f.record.values.length < 4294967296) : ∀ (l : List Int) (N i : Nat) (ii : Int) (t : Table), f.record.keys.drop i = l → ii = i → TabOk t → l.length < N → iterF F_replay_Apply_L1 N (f.record.keys, (f.record.keys.length : Int), ii, f, t.map, t.by_) = some (appL f i l t)
  | l, 0, _, _, _, _, _, _, h => by omega
  | [], N + 1, i, ii, t, h1, h2, h3, _ => by
    have h4 := drop_nil h1
    rw [iterF_succ, F_replay_Apply_L1_eq]
    unfold G_replay_Apply_L1
    simp only [appL]
    rw [decide_eq_false (by omega), cond_false]
  | k :: l, N + 1, i, ii, t, h1, h2, h3, h4 => by
    obtain ⟨g1, g2, g3⟩ := drop_cons h1
    subst h2
    have e1 : w64 ((i : Int) + 1) = ((i + 1 : Nat) : Int) := by rw [w64_id (by omega) (by omega)]; rfl
    have ih := fun t' h => pApply_L1 hk hv l N (i + 1) _ t' g3 rfl h (by simp at h4; omega)
    have ihs := ih t h3
    have hval : S_replay_value (f, (i : Int)) = some (if f.record.kind = 1 then (f.place, true) else if f.record.kind = 2 ∧ i < f.record.values.length then (f.record.values.getD i 0, true) else (-1, false)) := by
      show G_replay_value f i = _
      unfold G_replay_value
      by_cases c4 : f.record.kind = 1
      · rw [decide_eq_true c4, cond_true, if_pos c4]
      · rw [decide_eq_false c4, cond_false, if_neg c4]
        by_cases c5 : f.record.kind = 2
        · rw [decide_eq_true c5, cond_true]
          by_cases c6 : i < f.record.values.length
          · rw [decide_eq_true (show (i : Int) < f.record.values.length by omega), cond_true, if_pos ⟨c5, c6⟩, decide_eq_true (show (0 : Int) ≤ i by omega), cond_true, cond_true, Int.toNat_natCast]
          · rw [decide_eq_false (show ¬ (i : Int) < f.record.values.length by omega), cond_false, if_neg (fun h => c6 h.2)]
        · rw [decide_eq_false c5, cond_false, if_neg (fun h => c5 h.1)]
    rw [iterF_succ, F_replay_Apply_L1_eq]
    unfold G_replay_Apply_L1
    simp only [Int.toNat_natCast, g2, e1, appL, hval, some_bind']
    rw [decide_eq_true (show (i : Int) < f.record.keys.length by omega), decide_eq_true (show (0 : Int) ≤ i by omega)]
    simp only [cond_true]
    have hin : ∀ (v : Int) (X : Table), (0 ≤ k ∧ k < t.map.length ∧ k < t.by_.length → X = ⟨t.map.set k.toNat v, t.by_.set k.toNat f.place⟩) → (¬ (0 ≤ k ∧ k < t.map.length ∧ k < t.by_.length) → X = t) →
        (cond (decide (k < 0)) (iterF F_replay_Apply_L1 N (f.record.keys, (f.record.keys.length : Int), ((i + 1 : Nat) : Int), f, t.map, t.by_))
        (cond (decide ((min ((t.map.length : Nat) : Int) ((t.by_.length : Nat) : Int)) ≤ k)) (iterF F_replay_Apply_L1 N (f.record.keys, (f.record.keys.length : Int), ((i + 1 : Nat) : Int), f, t.map, t.by_))
          (cond (decide (0 ≤ k)) (cond (decide (k < ((t.map.length : Nat) : Int))) (cond (decide (k.toNat < t.map.length)) (cond (decide (0 ≤ k)) (cond (decide (k < ((t.by_.length : Nat) : Int))) (cond (decide (k.toNat < t.by_.length)) (iterF F_replay_Apply_L1 N (f.record.keys, (f.record.keys.length : Int), ((i + 1 : Nat) : Int), f, t.map.set k.toNat v, t.by_.set k.toNat f.place)) none) none) none) none) none) none))) = some (appL f (i + 1) l X) := by
      intro v X hX1 hX2
      by_cases c1 : k < 0
      · rw [decide_eq_true c1, cond_true, hX2 (by omega)]; exact ihs
      · rw [decide_eq_false c1, cond_false]
        by_cases c2 : min (t.map.length : Int) (t.by_.length : Int) ≤ k
        · rw [decide_eq_true c2, cond_true, hX2 (by omega)]; exact ihs
        · rw [decide_eq_false c2, cond_false, decide_eq_true (show 0 ≤ k by omega), decide_eq_true (show k < t.map.length by omega), decide_eq_true (show k.toNat < t.map.length by omega), decide_eq_true (show k < t.by_.length by omega), decide_eq_true (show k.toNat < t.by_.length by omega)]
          simp only [cond_true]
          rw [hX1 (by omega)]
          exact ih ⟨t.map.set k.toNat v, t.by_.set k.toNat f.place⟩ ⟨by simpa using h3.1, by simpa using h3.2⟩
    by_cases c4 : f.record.kind = 1
    · rw [if_pos c4, Bool.not_true, cond_false]
      exact hin f.place _ (fun h => by unfold app1; rw [if_pos h, if_pos c4]) (fun h => by unfold app1; rw [if_neg h])
    · rw [if_neg c4]
      by_cases c5 : f.record.kind = 2 ∧ i < f.record.values.length
      · rw [if_pos c5, Bool.not_true, cond_false]
        exact hin (f.record.values.getD i 0) _ (fun h => by unfold app1; rw [if_pos h, if_neg c4, if_pos c5]) (fun h => by unfold app1; rw [if_neg h])
      · rw [if_neg c5, Bool.not_false, cond_true]
        have : app1 f i k t = t := by
          unfold app1
          split
          · first | rfl | rw [if_neg c4, if_neg c5]
          · rfl
        rw [this]; exact ihs
theorem s_replay_Apply {t : Table} {f : Found} (ht : TabOk t) (hr : RecOk f.record) : S_replay_Apply (t, f) = some (applyT t f) := by
  have h1 := ht.1
  have h2 := ht.2
  have h3 := hr.1
  refine lim_eq 4294967297 fun N hN => ?_
  show G_replay_Apply N t f = _
  unfold G_replay_Apply
  rw [decide_eq_true (by omega), cond_true, decide_eq_true (by omega), cond_true, decide_eq_true (by omega), cond_true, decide_eq_true (by omega), cond_true]
  exact pApply_L1 h3 hr.2 _ N 0 0 t rfl rfl ht (by omega)
end Clk
namespace Clk
open Go
set_option linter.unusedVariables false
theorem tabT_ok (n : Int) : TabOk (tabT n) := ⟨by simp [tabT]; omega, by simp [tabT]; omega⟩
def tSameT (a b : Table) : Bool := decide (a.map = b.map) && decide (a.by_ = b.by_)
theorem s_ref07_Same {a b : Table} (ha : TabOk a) : S_ref07_Same (a, b) = some (tSameT a b) := by
  show G_ref07_Same a b = _
  unfold G_ref07_Same tSameT
  rw [s_ref02_Same ha.1, some_bind']
  cases decide (a.map = b.map) with
  | false => rfl
  | true => rw [cond_true, s_ref02_Same ha.2, some_bind', Bool.true_and]
end Clk
namespace Clk
open Go
set_option linter.unusedVariables false
end Clk
namespace Clk
open Go
set_option linter.unusedVariables false
end Clk
namespace Clk
open Go
set_option linter.unusedVariables false
end Clk
namespace Clk
open Go
end Clk
namespace Clk
open Go
section
variable {H : Type} {enc : TypeId × Value → H} {P : Program} {w : World} {base : Nat} {spare : Nat → Bool} {held : Bool}
open Go.ChangeShapes Go.WideShapes
end
end Clk
namespace Clk
open Go
inductive Sh where
  | int (k : IntKind) | bool | str | sl (l : List Sh)
def flatFs (r : TypeId → Option (List Sh)) (sz : TypeId → Nat) : Nat → List Field → Option (List Sh)
  | _, [] => some []
  | off, f :: fs => match r f.type with
    | some l => if f.offset = off ∧ l.length = sz f.type then match flatFs r sz (off + l.length) fs with | some m => some (l ++ m) | none => none else none
    | none => none
def flatT (P : Program) : Nat → TypeId → Option (List Sh)
  | 0, _ => none
  | n + 1, t => match P.underlying t with
    | some (.int k) => some [.int k]
    | some .bool => some [.bool]
    | some .string => some [.str]
    | some (.slice e) => match flatT P n e with
      | some l => if 0 < l.length ∧ l.length = P.cellsOf e then some [.sl l] else none
      | none => none
    | some (.struct fs) => match flatFs (flatT P n) P.cellsOf 0 fs.toList with
      | some l => if l.length = P.cellsOf t then some l else none
      | none => none
    | _ => none
inductive ShA : Sh → AV → Prop
  | int {k : IntKind} {n : Int} (h : (Lit.int k n).wf = true) : ShA (.int k) (.int k n)
  | bool (b : Bool) : ShA .bool (.bool b)
  | str {s : ByteArray} (h : s.size ≤ maxLen) : ShA .str (.str s)
  | sl {sh : List Sh} {l : List (List AV)} (h : l.length ≤ maxLen) (hl : ∀ row ∈ l, row.length = sh.length) (hr : ∀ row ∈ l, ∀ (j : Nat) s a, sh[j]? = some s → row[j]? = some a → ShA s a) : ShA (.sl sh) (.rows l)
def ShL (sh : List Sh) (l : List AV) : Prop := l.length = sh.length ∧ ∀ (j : Nat) s a, sh[j]? = some s → l[j]? = some a → ShA s a
theorem ShL.nil : ShL [] [] := ⟨rfl, fun _ _ _ h => by simp at h⟩
theorem ShL.single {s : Sh} {a : AV} (h : ShA s a) : ShL [s] [a] := ⟨rfl, fun j s' a' h1 h2 => by
  cases j with
  | zero => simp at h1 h2; subst h1; subst h2; exact h
  | succ j => simp at h1⟩
theorem ShL.append {s1 s2 : List Sh} {l1 l2 : List AV} (h1 : ShL s1 l1) (h2 : ShL s2 l2) : ShL (s1 ++ s2) (l1 ++ l2) := by
  refine ⟨by simp [h1.1, h2.1], fun j s a e1 e2 => ?_⟩
  by_cases hj : j < s1.length
  · rw [List.getElem?_append_left hj] at e1
    rw [List.getElem?_append_left (by rw [h1.1]; exact hj)] at e2
    exact h1.2 j s a e1 e2
  · rw [List.getElem?_append_right (by omega)] at e1
    rw [List.getElem?_append_right (by rw [h1.1]; omega), h1.1] at e2
    exact h2.2 _ s a e1 e2
section
variable {H : Type} {enc : TypeId × Value → H} {P : Program} {w : World} {base : Nat} {spare : Nat → Bool} {held : Bool} {N : Nat → Prop}
def CellsA (w : World) (N : Nat → Prop) (sh : List Sh) (cs : List Value) : Prop := ∃ l, ShL sh l ∧ cs.length = l.length ∧ ∀ (j : Nat) a v, l[j]? = some a → cs[j]? = some v → RelI w N a v
theorem CellsA.single {s : Sh} {a : AV} {v : Value} (h : ShA s a) (hr : RelI w N a v) : CellsA w N [s] [v] :=
  ⟨[a], ShL.single h, rfl, fun j a' v' h1 h2 => by
    cases j with
    | zero => simp at h1 h2; subst h1; subst h2; exact hr
    | succ j => simp at h1⟩
theorem flatFs_open {r : TypeId → Option (List Sh)} {sz : TypeId → Nat} {cs : List Value}
    (hr : ∀ t sh cs, r t = some sh → (∃ fuel y, DataW.trod enc P w base spare held fuel t cs = some y) → CellsA w N sh cs) :
    ∀ (fs : List Field) (off : Nat) (sh : List Sh), flatFs r sz off fs = some sh → (∀ f ∈ fs, ∃ fuel y, DataW.trod enc P w base spare held fuel f.type ((cs.drop f.offset).take (sz f.type)) = some y) →
      ∃ l, ShL sh l ∧ ∀ (j : Nat) a v, l[j]? = some a → cs[off + j]? = some v → RelI w N a v := by
  intro fs
  induction fs with
  | nil =>
    intro off sh h _
    simp only [flatFs, Option.some.injEq] at h
    subst h
    exact ⟨[], ShL.nil, fun j a v h => by simp at h⟩
  | cons f fs ih =>
    intro off sh h hf
    simp only [flatFs] at h
    split at h
    · rename_i l1 hl1
      split at h
      · rename_i hc
        split at h
        · rename_i m hm
          simp only [Option.some.injEq] at h
          subst h
          obtain ⟨la, ha1, ha2, ha3⟩ := hr _ _ _ hl1 (hf f (by simp))
          obtain ⟨lb, hb1, hb2⟩ := ih _ _ hm (fun g hg => hf g (List.mem_cons_of_mem _ hg))
          refine ⟨la ++ lb, ha1.append hb1, fun j a v e1 e2 => ?_⟩
          have hlen := ha1.1
          by_cases hj : j < la.length
          · rw [List.getElem?_append_left hj] at e1
            refine ha3 j a v e1 ?_
            rw [List.getElem?_take, if_pos (by omega), List.getElem?_drop, hc.1]
            exact e2
          · rw [List.getElem?_append_right (by omega)] at e1
            refine hb2 (j - la.length) a v e1 ?_
            rw [← e2]
            congr 1
            omega
        · cases h
      · cases h
    · cases h
theorem open_flat : ∀ (n : Nat) (t : TypeId) (sh : List Sh) (cs : List Value), flatT P n t = some sh → (∃ fuel y, DataW.trod enc P w base spare held fuel t cs = some y) → CellsA w (fun _ => False) sh cs := by
  intro n
  induction n with
  | zero => intro t sh cs h; cases h
  | succ n ih =>
    intro t sh cs h hy
    obtain ⟨fuel, x, hx⟩ := hy
    unfold flatT at h
    split at h
    · rename_i k hu
      cases h
      obtain ⟨n', rfl, _, hw⟩ := DataW.trod_int hu hx
      exact CellsA.single (.int hw) (.int _ _)
    · rename_i hu
      cases h
      obtain ⟨b, rfl, _⟩ := DataW.trod_bool hu hx
      exact CellsA.single (.bool b) (.bool _)
    · rename_i hu
      cases h
      obtain ⟨s, rfl, _, hs⟩ := DataW.trod_string hu hx
      exact CellsA.single (.str hs) (.str _)
    · rename_i e hu
      split at h
      · rename_i l hl
        split at h
        · rename_i hc
          cases h
          rcases DataW.trod_slice hu hx with ⟨rfl, _⟩ | ⟨a, len, cap, elems, rest, m, rfl, rfl, _, hb, hlc, hm, hlen, hel, _, _⟩
          · refine CellsA.single (a := .rows []) (.sl (by simp) (fun _ h => absurd h List.not_mem_nil) (fun _ h => absurd h List.not_mem_nil)) ?_
            exact RelI.rows (l := []) (k := 1) (u := fun _ _ => undef) (Nat.le_refl _) (fun _ _ h => by simp at h) (fun h => absurd h (by simp)) (fun _ _ _ _ _ _ h => by simp at h) (fun _ _ _ _ h => by simp at h)
          · have key : ∀ i, ∃ r : List Value × List AV, i < len → w.cells? base (a.add (i * P.cellsOf e)) (P.cellsOf e) = some r.1 ∧ ShL l r.2 ∧ r.1.length = r.2.length ∧ ∀ (j : Nat) x v, r.2[j]? = some x → r.1[j]? = some v → RelI w (fun _ => False) x v := fun i => by
              by_cases hi : i < len
              · have hi2 := hel i hi
                rw [List.getElem?_eq_getElem (by omega)] at hi2
                obtain ⟨cs', hcs, hy⟩ := Option.bind_eq_some_iff.1 hi2
                obtain ⟨lr, h1, h2, h3⟩ := ih e l cs' hl ⟨_, _, hy⟩
                exact ⟨(cs', lr), fun _ => ⟨hcs, h1, h2, h3⟩⟩
              · exact ⟨([], []), fun h => absurd h hi⟩
            let f := fun i => Classical.choose (key i)
            have hf : ∀ i, i < len → w.cells? base (a.add (i * P.cellsOf e)) (P.cellsOf e) = some (f i).1 ∧ ShL l (f i).2 ∧ (f i).1.length = (f i).2.length ∧ ∀ (j : Nat) x v, (f i).2[j]? = some x → (f i).1[j]? = some v → RelI w (fun _ => False) x v := fun i hi => Classical.choose_spec (key i) hi
            have hget : ∀ (i : Nat) row, ((List.range len).map fun i => (f i).2)[i]? = some row → i < len ∧ row = (f i).2 := by
              intro i row q
              simp only [List.getElem?_map, Option.map_eq_some_iff] at q
              obtain ⟨j, q1, rfl⟩ := q
              have hi := (List.getElem?_eq_some_iff.1 q1).1
              simp only [List.length_range] at hi
              rw [List.getElem?_range hi] at q1
              cases q1
              exact ⟨hi, rfl⟩
            have hlen' : ((List.range len).map fun i => (f i).2).length = len := by simp
            have hcell : ∀ i, i < len → ∀ j, j < l.length → w.cell? ((a.add (i * P.cellsOf e)).add j) = (f i).1[j]? := fun i hi j hj => (World.cells?_some (hf i hi).1).2.2 j (by rw [← hc.2]; exact hj)
            have hspot : 0 < len → a.spot = none ∧ a.block < w.heap.size := by
              intro h0
              have q := hcell 0 h0 0 hc.1
              have hlt : 0 < (f 0).1.length := by rw [(hf 0 h0).2.2.1, (hf 0 h0).2.1.1]; exact hc.1
              rw [List.getElem?_eq_getElem hlt] at q
              have e0 : (a.add (0 * P.cellsOf e)).add 0 = a := by simp [Addr.add]
              rw [e0] at q
              exact cell_spot q
            have hadd : ∀ i j, 0 < len → (a.add (i * P.cellsOf e)).add j = ⟨a.block, a.off + (i * l.length + j), none⟩ := by
              intro i j h0
              have hs0 := (hspot h0).1
              obtain ⟨b, o, s⟩ := a
              simp only at hs0
              subst hs0
              rw [Go.WideShapes.add_plain, Go.WideShapes.add_plain, hc.2, Nat.add_assoc]
            refine CellsA.single (a := .rows ((List.range len).map fun i => (f i).2)) (.sl (by rw [hlen']; omega) (fun row hr => ?_) (fun row hr => ?_)) ?_
            · obtain ⟨i, hi, rfl⟩ := List.mem_map.1 hr
              exact (hf i (List.mem_range.1 hi)).2.1.1
            · obtain ⟨i, hi, rfl⟩ := List.mem_map.1 hr
              exact (hf i (List.mem_range.1 hi)).2.1.2
            · have := RelI.rows (w := w) (N := fun _ => False) (l := (List.range len).map fun i => (f i).2) (a := some a) (c := cap) (k := l.length) (u := fun i j => ((f i).1[j]?).getD undef) (by omega)
                (fun i row q => by rw [(hget i row q).2]; exact (hf i (hget i row q).1).2.1.1)
                (fun h0 => by
                  rw [hlen'] at h0
                  exact ⟨a, rfl, (hspot h0).1, fun h => h, (hspot h0).2⟩)
                (fun ad i row j y e1 q1 q2 => by
                  cases e1
                  obtain ⟨hi, rfl⟩ := hget i row q1
                  have hj := (List.getElem?_eq_some_iff.1 q2).1
                  rw [← hadd i j (by omega), hcell i hi j (by rw [← (hf i hi).2.1.1]; exact hj)]
                  rw [List.getElem?_eq_getElem (by rw [(hf i hi).2.2.1]; exact hj)]
                  rfl)
                (fun i row j y q1 q2 => by
                  obtain ⟨hi, rfl⟩ := hget i row q1
                  have hj := (List.getElem?_eq_some_iff.1 q2).1
                  refine (hf i hi).2.2.2 j y _ q2 ?_
                  rw [List.getElem?_eq_getElem (by rw [(hf i hi).2.2.1]; exact hj)]
                  rfl)
              rw [hlen'] at this
              exact this
        · cases h
      · cases h
    · rename_i fs hu
      split at h
      · rename_i l hl
        split at h
        · rename_i hc
          cases h
          obtain ⟨xs, m, rfl, _, hlen, hxl, hf⟩ := DataW.trod_struct hu hx
          obtain ⟨l', h1, h2⟩ := flatFs_open (enc := enc) (base := base) (spare := spare) (held := held) (N := fun _ => False) (w := w) (cs := cs) (fun t sh cs a b => ih t sh cs a b) fs.toList 0 sh hl (fun f hfm => by
            obtain ⟨i, hi⟩ := List.getElem?_of_mem hfm
            have hi' : fs[i]? = some f := by simpa using hi
            have := hf i f hi'
            have hlt : i < fs.size := (Array.getElem?_eq_some_iff.1 hi').1
            rw [List.getElem?_eq_getElem (by omega)] at this
            exact ⟨_, _, this⟩)
          exact ⟨l', h1, by rw [hlen, ← hc, h1.1], fun j a v e1 e2 => h2 j a v e1 (by simpa using e2)⟩
        · cases h
      · cases h
    · cases h
end
end Clk
namespace Clk
open Go
def shI : Sh := .int .i64
def shInts : Sh := .sl [shI]
def shStrs : Sh := .sl [.str]
def shPage : List Sh := [.bool, .str, .str]
def shBlock : List Sh := [.sl shPage, shI, shI, .bool]
def shFate : List Sh := [shI, .str, .str, shI]
def shRecord : List Sh := [shI, shI, shInts, shInts]
def shCommand : List Sh := [shI, shI, shI, shStrs]
def TC.sh : TC → List Sh
  | .int k => [.int k]
  | .bool => [.bool]
  | .str => [.str]
  | .list c => [.sl c.sh]
  | .page => shPage
  | .block => shBlock
  | .chip => [.sl shBlock, .bool, .bool, shI]
  | .fate => shFate
  | .record => shRecord
  | .found => shI :: shRecord
  | .table => [shInts, shInts]
  | .slot => [shI, shI, shI]
  | .write => .str :: shRecord
  | .command => shCommand
  | .geometry => [shI, shI, shI, shI]
  | .device => [shI, shI, shI, shI, .sl shBlock, .bool, .bool, shI, shInts, shInts, shI, shI]
  | .answer => [shI, shStrs]
  | .event => shCommand ++ [.sl shFate]
  | .report => [shI, shI, shI, shI, shI, shI, .bool]
  | .rank => [shI, shI]
theorem ShL.cons_inv {s : Sh} {sh : List Sh} {l : List AV} (h : ShL (s :: sh) l) : ∃ a l', l = a :: l' ∧ ShA s a ∧ ShL sh l' := by
  cases l with
  | nil => cases h.1
  | cons a l' => exact ⟨a, l', rfl, h.2 0 s a rfl rfl, by have := h.1; simp at this; exact this, fun j s' a' h1 h2 => h.2 (j + 1) s' a' (by simpa using h1) (by simpa using h2)⟩
theorem ShL.nil_inv {l : List AV} (h : ShL [] l) : l = [] := List.eq_nil_of_length_eq_zero h.1
theorem ShA.int_inv {k : IntKind} {a : AV} (h : ShA (.int k) a) : ∃ n, a = .int k n ∧ (Lit.int k n).wf = true := by cases h with | int h => exact ⟨_, rfl, h⟩
theorem ShA.bool_inv {a : AV} (h : ShA .bool a) : ∃ b, a = .bool b := by cases h with | bool b => exact ⟨_, rfl⟩
theorem ShA.str_inv {a : AV} (h : ShA .str a) : ∃ s : Str, a = sA s ∧ s.length ≤ maxLen := by
  cases h with
  | @str s h => exact ⟨s.data.toList, by simp [sA], by simpa using h⟩
theorem exists_map {α : Type} {f : α → List AV} : ∀ {l : List (List AV)}, (∀ row ∈ l, ∃ x, f x = row) → ∃ xs : List α, xs.map f = l
  | [], _ => ⟨[], rfl⟩
  | r :: l, h => by
    obtain ⟨x, hx⟩ := h r (by simp)
    obtain ⟨xs, hxs⟩ := exists_map (l := l) (fun row hr => h row (List.mem_cons_of_mem _ hr))
    exact ⟨x :: xs, by simp [hx, hxs]⟩
theorem ShA.sl_inv {α : Type} {f : α → List AV} {sh : List Sh} {a : AV} (hd : ∀ l, ShL sh l → ∃ x : α, f x = l) (h : ShA (.sl sh) a) : ∃ xs : List α, a = .rows (xs.map f) := by
  cases h with
  | sl h hl hr =>
    obtain ⟨xs, hxs⟩ := exists_map (fun row hm => hd row ⟨hl row hm, hr row hm⟩)
    exact ⟨xs, by rw [hxs]⟩
theorem dec_int {l : List AV} (h : ShL [shI] l) : ∃ n : Int, [iA n] = l := by
  obtain ⟨a, l, rfl, ha, h1⟩ := h.cons_inv; have := h1.nil_inv; subst this
  obtain ⟨n, rfl, _⟩ := ha.int_inv
  exact ⟨n, rfl⟩
theorem dec_str {l : List AV} (h : ShL [.str] l) : ∃ n : Str, [sA n] = l := by
  obtain ⟨a, l, rfl, ha, h1⟩ := h.cons_inv; have := h1.nil_inv; subst this
  obtain ⟨n, rfl, _⟩ := ha.str_inv
  exact ⟨n, rfl⟩
theorem ShA.ints_inv {a : AV} (h : ShA shInts a) : ∃ ns : List Int, a = eInts ns := ShA.sl_inv (fun _ h => dec_int h) h
theorem ShA.strs_inv {a : AV} (h : ShA shStrs a) : ∃ ns : List Str, a = eStrs ns := ShA.sl_inv (fun _ h => dec_str h) h
theorem ShA.i_inv {a : AV} (h : ShA shI a) : ∃ n, a = iA n := by obtain ⟨n, e, _⟩ := h.int_inv; exact ⟨n, e⟩
theorem dec_page {l : List AV} (h : ShL shPage l) : ∃ p : Page, ePage p = l := by
  obtain ⟨a, l, rfl, ha, h1⟩ := h.cons_inv; obtain ⟨b, l, rfl, hb, h2⟩ := h1.cons_inv; obtain ⟨c, l, rfl, hc, h3⟩ := h2.cons_inv; have := h3.nil_inv; subst this
  obtain ⟨x, rfl⟩ := ha.bool_inv; obtain ⟨y, rfl, _⟩ := hb.str_inv; obtain ⟨z, rfl, _⟩ := hc.str_inv
  exact ⟨⟨x, y, z⟩, rfl⟩
theorem dec_block {l : List AV} (h : ShL shBlock l) : ∃ p : Block, eBlock p = l := by
  obtain ⟨a, l, rfl, ha, h1⟩ := h.cons_inv; obtain ⟨b, l, rfl, hb, h2⟩ := h1.cons_inv; obtain ⟨c, l, rfl, hc, h3⟩ := h2.cons_inv; obtain ⟨d, l, rfl, hd, h4⟩ := h3.cons_inv; have := h4.nil_inv; subst this
  obtain ⟨x, rfl⟩ := ha.sl_inv (fun _ h => dec_page h); obtain ⟨y, rfl⟩ := hb.i_inv; obtain ⟨z, rfl⟩ := hc.i_inv; obtain ⟨u, rfl⟩ := hd.bool_inv
  exact ⟨⟨x, y, z, u⟩, rfl⟩
theorem dec_fate {l : List AV} (h : ShL shFate l) : ∃ p : Fate, eFate p = l := by
  obtain ⟨a, l, rfl, ha, h1⟩ := h.cons_inv; obtain ⟨b, l, rfl, hb, h2⟩ := h1.cons_inv; obtain ⟨c, l, rfl, hc, h3⟩ := h2.cons_inv; obtain ⟨d, l, rfl, hd, h4⟩ := h3.cons_inv; have := h4.nil_inv; subst this
  obtain ⟨x, rfl⟩ := ha.i_inv; obtain ⟨y, rfl, _⟩ := hb.str_inv; obtain ⟨z, rfl, _⟩ := hc.str_inv; obtain ⟨u, rfl⟩ := hd.i_inv
  exact ⟨⟨x, y, z, u⟩, rfl⟩
theorem dec_record {l : List AV} (h : ShL shRecord l) : ∃ p : Record, eRecord p = l := by
  obtain ⟨a, l, rfl, ha, h1⟩ := h.cons_inv; obtain ⟨b, l, rfl, hb, h2⟩ := h1.cons_inv; obtain ⟨c, l, rfl, hc, h3⟩ := h2.cons_inv; obtain ⟨d, l, rfl, hd, h4⟩ := h3.cons_inv; have := h4.nil_inv; subst this
  obtain ⟨x, rfl⟩ := ha.i_inv; obtain ⟨y, rfl⟩ := hb.i_inv; obtain ⟨z, rfl⟩ := hc.ints_inv; obtain ⟨u, rfl⟩ := hd.ints_inv
  exact ⟨⟨x, y, z, u⟩, rfl⟩
theorem dec_command {l l' : List AV} {sh : List Sh} (h : ShL (shCommand ++ sh) l) : ∃ (p : Command) (l' : List AV), l = eCommand p ++ l' ∧ ShL sh l' := by
  obtain ⟨a, l, rfl, ha, h1⟩ := ShL.cons_inv h; obtain ⟨b, l, rfl, hb, h2⟩ := ShL.cons_inv h1; obtain ⟨c, l, rfl, hc, h3⟩ := ShL.cons_inv h2; obtain ⟨d, l, rfl, hd, h4⟩ := ShL.cons_inv h3
  obtain ⟨x, rfl⟩ := ha.i_inv; obtain ⟨y, rfl⟩ := hb.i_inv; obtain ⟨z, rfl⟩ := hc.i_inv; obtain ⟨u, rfl⟩ := hd.strs_inv
  exact ⟨⟨x, y, z, u⟩, l, rfl, h4⟩
theorem dec : ∀ (c : TC) {l : List AV}, ShL c.sh l → ∃ x : c.den, encC c x = l
  | .int k, l, h => by
    obtain ⟨a, l, rfl, ha, h1⟩ := h.cons_inv; have := h1.nil_inv; subst this
    obtain ⟨n, rfl, _⟩ := ha.int_inv
    exact ⟨n, rfl⟩
  | .bool, l, h => by
    obtain ⟨a, l, rfl, ha, h1⟩ := h.cons_inv; have := h1.nil_inv; subst this
    obtain ⟨n, rfl⟩ := ha.bool_inv
    exact ⟨n, rfl⟩
  | .str, l, h => dec_str h
  | .list c, l, h => by
    obtain ⟨a, l, rfl, ha, h1⟩ := h.cons_inv; have := h1.nil_inv; subst this
    obtain ⟨xs, rfl⟩ := ha.sl_inv (fun _ h => dec c h)
    exact ⟨xs, rfl⟩
  | .page, l, h => dec_page h
  | .block, l, h => dec_block h
  | .chip, l, h => by
    obtain ⟨a, l, rfl, ha, h1⟩ := h.cons_inv; obtain ⟨b, l, rfl, hb, h2⟩ := h1.cons_inv; obtain ⟨c, l, rfl, hc, h3⟩ := h2.cons_inv; obtain ⟨d, l, rfl, hd, h4⟩ := h3.cons_inv; have := h4.nil_inv; subst this
    obtain ⟨x, rfl⟩ := ha.sl_inv (fun _ h => dec_block h); obtain ⟨y, rfl⟩ := hb.bool_inv; obtain ⟨z, rfl⟩ := hc.bool_inv; obtain ⟨u, rfl⟩ := hd.i_inv
    exact ⟨⟨x, y, z, u⟩, rfl⟩
  | .fate, l, h => dec_fate h
  | .record, l, h => dec_record h
  | .found, l, h => by
    obtain ⟨a, l, rfl, ha, h1⟩ := h.cons_inv
    obtain ⟨x, rfl⟩ := ha.i_inv; obtain ⟨r, rfl⟩ := dec_record h1
    exact ⟨⟨x, r⟩, rfl⟩
  | .table, l, h => by
    obtain ⟨a, l, rfl, ha, h1⟩ := h.cons_inv; obtain ⟨b, l, rfl, hb, h2⟩ := h1.cons_inv; have := h2.nil_inv; subst this
    obtain ⟨x, rfl⟩ := ha.ints_inv; obtain ⟨y, rfl⟩ := hb.ints_inv
    exact ⟨⟨x, y⟩, rfl⟩
  | .slot, l, h => by
    obtain ⟨a, l, rfl, ha, h1⟩ := h.cons_inv; obtain ⟨b, l, rfl, hb, h2⟩ := h1.cons_inv; obtain ⟨c, l, rfl, hc, h3⟩ := h2.cons_inv; have := h3.nil_inv; subst this
    obtain ⟨x, rfl⟩ := ha.i_inv; obtain ⟨y, rfl⟩ := hb.i_inv; obtain ⟨z, rfl⟩ := hc.i_inv
    exact ⟨⟨x, y, z⟩, rfl⟩
  | .write, l, h => by
    obtain ⟨a, l, rfl, ha, h1⟩ := h.cons_inv
    obtain ⟨x, rfl, _⟩ := ha.str_inv; obtain ⟨r, rfl⟩ := dec_record h1
    exact ⟨⟨x, r⟩, rfl⟩
  | .command, l, h => by
    obtain ⟨p, l', rfl, h1⟩ := dec_command (sh := []) (l' := []) (by rw [List.append_nil]; exact h)
    have := h1.nil_inv; subst this
    exact ⟨p, by simp [encC]⟩
  | .geometry, l, h => by
    obtain ⟨a, l, rfl, ha, h1⟩ := h.cons_inv; obtain ⟨b, l, rfl, hb, h2⟩ := h1.cons_inv; obtain ⟨c, l, rfl, hc, h3⟩ := h2.cons_inv; obtain ⟨d, l, rfl, hd, h4⟩ := h3.cons_inv; have := h4.nil_inv; subst this
    obtain ⟨x, rfl⟩ := ha.i_inv; obtain ⟨y, rfl⟩ := hb.i_inv; obtain ⟨z, rfl⟩ := hc.i_inv; obtain ⟨u, rfl⟩ := hd.i_inv
    exact ⟨⟨x, y, z, u⟩, rfl⟩
  | .device, l, h => by
    obtain ⟨a, l, rfl, ha, h1⟩ := h.cons_inv; obtain ⟨b, l, rfl, hb, h2⟩ := h1.cons_inv; obtain ⟨c, l, rfl, hc, h3⟩ := h2.cons_inv; obtain ⟨d, l, rfl, hd, h4⟩ := h3.cons_inv
    obtain ⟨x, rfl⟩ := ha.i_inv; obtain ⟨y, rfl⟩ := hb.i_inv; obtain ⟨z, rfl⟩ := hc.i_inv; obtain ⟨u, rfl⟩ := hd.i_inv
    obtain ⟨a, l, rfl, ha, h5⟩ := h4.cons_inv; obtain ⟨b, l, rfl, hb, h6⟩ := h5.cons_inv; obtain ⟨c, l, rfl, hc, h7⟩ := h6.cons_inv; obtain ⟨d, l, rfl, hd, h8⟩ := h7.cons_inv
    obtain ⟨x2, rfl⟩ := ha.sl_inv (fun _ h => dec_block h); obtain ⟨y2, rfl⟩ := hb.bool_inv; obtain ⟨z2, rfl⟩ := hc.bool_inv; obtain ⟨u2, rfl⟩ := hd.i_inv
    obtain ⟨a, l, rfl, ha, h9⟩ := h8.cons_inv; obtain ⟨b, l, rfl, hb, h10⟩ := h9.cons_inv; obtain ⟨c, l, rfl, hc, h11⟩ := h10.cons_inv; obtain ⟨d, l, rfl, hd, h12⟩ := h11.cons_inv; have := h12.nil_inv; subst this
    obtain ⟨x3, rfl⟩ := ha.ints_inv; obtain ⟨y3, rfl⟩ := hb.ints_inv; obtain ⟨z3, rfl⟩ := hc.i_inv; obtain ⟨u3, rfl⟩ := hd.i_inv
    exact ⟨⟨⟨x, y, z, u⟩, ⟨x2, y2, z2, u2⟩, ⟨x3, y3⟩, z3, u3⟩, rfl⟩
  | .answer, l, h => by
    obtain ⟨a, l, rfl, ha, h1⟩ := h.cons_inv; obtain ⟨b, l, rfl, hb, h2⟩ := h1.cons_inv; have := h2.nil_inv; subst this
    obtain ⟨x, rfl⟩ := ha.i_inv; obtain ⟨y, rfl⟩ := hb.strs_inv
    exact ⟨⟨x, y⟩, rfl⟩
  | .event, l, h => by
    obtain ⟨p, l', rfl, h1⟩ := dec_command (l' := []) h
    obtain ⟨a, l, rfl, ha, h2⟩ := h1.cons_inv; have := h2.nil_inv; subst this
    obtain ⟨x, rfl⟩ := ha.sl_inv (fun _ h => dec_fate h)
    exact ⟨⟨p, x⟩, rfl⟩
  | .report, l, h => by
    obtain ⟨a, l, rfl, ha, h1⟩ := h.cons_inv; obtain ⟨b, l, rfl, hb, h2⟩ := h1.cons_inv; obtain ⟨c, l, rfl, hc, h3⟩ := h2.cons_inv; obtain ⟨d, l, rfl, hd, h4⟩ := h3.cons_inv
    obtain ⟨x, rfl⟩ := ha.i_inv; obtain ⟨y, rfl⟩ := hb.i_inv; obtain ⟨z, rfl⟩ := hc.i_inv; obtain ⟨u, rfl⟩ := hd.i_inv
    obtain ⟨a, l, rfl, ha, h5⟩ := h4.cons_inv; obtain ⟨b, l, rfl, hb, h6⟩ := h5.cons_inv; obtain ⟨c, l, rfl, hc, h7⟩ := h6.cons_inv; have := h7.nil_inv; subst this
    obtain ⟨x2, rfl⟩ := ha.i_inv; obtain ⟨y2, rfl⟩ := hb.i_inv; obtain ⟨z2, rfl⟩ := hc.bool_inv
    exact ⟨⟨x, y, z, u, x2, y2, z2⟩, rfl⟩
  | .rank, l, h => by
    obtain ⟨a, l, rfl, ha, h1⟩ := h.cons_inv; obtain ⟨b, l, rfl, hb, h2⟩ := h1.cons_inv; have := h2.nil_inv; subst this
    obtain ⟨x, rfl⟩ := ha.i_inv; obtain ⟨y, rfl⟩ := hb.i_inv
    exact ⟨⟨x, y⟩, rfl⟩
def IsArg (c : TC) (w : World) (v : Value) (x : c.den) : Prop := RelI w (fun _ => False) (encV c x) v ∧ ShL c.sh (encC c x)
section
variable {H : Type} {enc : TypeId × Value → H} {P : Program} {w : World} {base : Nat} {spare : Nat → Bool} {held : Bool}
theorem open_any {c : TC} {n : Nat} {t : TypeId} {v : Value} {d : DataW H} {p : List MemPlace} (hf : flatT P n t = some c.sh) (hv : (c.agg = true ∧ ∃ cs, v = .agg cs) ∨ (c.agg = false ∧ v.cells = #[v]))
    (hd : DataW.Trod enc P w base spare held t v d p) : ∃ x : c.den, IsArg c w v x := by
  obtain ⟨fuel, hd⟩ := hd
  obtain ⟨l, h1, h2, h3⟩ := open_flat n t c.sh _ hf ⟨_, _, hd⟩
  obtain ⟨x, rfl⟩ := dec c h1
  refine ⟨x, ?_, h1⟩
  rcases hv with ⟨ha, cs, rfl⟩ | ⟨ha, hc⟩
  · simp only [encV, ha, if_true]
    simp only [Value.cells] at h2 h3
    exact .agg (by simpa using h2) (fun i a v e1 e2 => h3 i a v e1 (by simpa using e2))
  · rw [hc] at h2 h3
    simp only [List.length_cons, List.length_nil] at h2
    obtain ⟨a, hl⟩ : ∃ a, encC c x = [a] := by
      match encC c x, h2 with
      | [a], _ => exact ⟨a, rfl⟩
    have e : encV c x = a := by simp [encV, ha, hl]
    rw [e]
    exact h3 0 a v (by rw [hl]; rfl) rfl
end
end Clk
namespace Clk
open Go
set_option linter.unusedVariables false
noncomputable def G_math_bits_Mul64 (a0 : Int) (a1 : Int) : Option (Int × Int) :=
  some ((Go.IntKind.u64.wrap ((Go.IntKind.u64.wrap ((Go.IntKind.u64.wrap ((Int.fdiv a0 (2 ^ (min 32 64))) * (Int.fdiv a1 (2 ^ (min 32 64))))) + (Int.fdiv (Go.IntKind.u64.wrap ((Go.IntKind.u64.wrap ((Int.fdiv a0 (2 ^ (min 32 64))) * (Go.IntKind.u64.wrap (bAnd .u64 a1 4294967295)))) + (Int.fdiv (Go.IntKind.u64.wrap ((Go.IntKind.u64.wrap (bAnd .u64 a0 4294967295)) * (Go.IntKind.u64.wrap (bAnd .u64 a1 4294967295)))) (2 ^ (min 32 64))))) (2 ^ (min 32 64))))) + (Int.fdiv (Go.IntKind.u64.wrap ((Go.IntKind.u64.wrap (bAnd .u64 (Go.IntKind.u64.wrap ((Go.IntKind.u64.wrap ((Int.fdiv a0 (2 ^ (min 32 64))) * (Go.IntKind.u64.wrap (bAnd .u64 a1 4294967295)))) + (Int.fdiv (Go.IntKind.u64.wrap ((Go.IntKind.u64.wrap (bAnd .u64 a0 4294967295)) * (Go.IntKind.u64.wrap (bAnd .u64 a1 4294967295)))) (2 ^ (min 32 64))))) 4294967295)) + (Go.IntKind.u64.wrap ((Go.IntKind.u64.wrap (bAnd .u64 a0 4294967295)) * (Int.fdiv a1 (2 ^ (min 32 64))))))) (2 ^ (min 32 64))))), (Go.IntKind.u64.wrap (a0 * a1)))
noncomputable def S_math_bits_Mul64 (x : Int × Int) : Option (Int × Int) := G_math_bits_Mul64 x.1 x.2
noncomputable def G_math_bits_Mul (a0 : Int) (a1 : Int) : Option (Int × Int) :=
  Option.bind (S_math_bits_Mul64 (a0, a1)) fun r1 =>
  some (r1.1, r1.2)
noncomputable def S_math_bits_Mul (x : Int × Int) : Option (Int × Int) := G_math_bits_Mul x.1 x.2
noncomputable def G_slices_Repeat_L1 (ih0 : (Int × (List Int)) → Option ((List Int))) (v1 : Int) (v2 : (List Int)) : Option ((List Int)) :=
  cond (decide (v1 < ((v2.length : Nat) : Int)))
    (cond (decide (0 ≤ v1)) (cond (decide (v1 ≤ ((v2.length : Nat) : Int))) (cond (decide (0 ≤ v1)) (cond (decide (v1 ≤ ((v2.length : Nat) : Int))) (ih0 ((w64 (v1 + (((min ((v2.drop 0).take (Int.toNat v1)).length (v2.length - (Int.toNat v1))) : Nat) : Int))), (v2.take (Int.toNat v1) ++ ((v2.drop 0).take (Int.toNat v1)).take (min ((v2.drop 0).take (Int.toNat v1)).length (v2.length - (Int.toNat v1))) ++ v2.drop ((Int.toNat v1) + (min ((v2.drop 0).take (Int.toNat v1)).length (v2.length - (Int.toNat v1))))))) none) none) none) none)
    (some v2)
noncomputable def F_slices_Repeat_L1 : ((Int × (List Int)) → Option ((List Int))) → (Int × (List Int)) → Option ((List Int)) := fun ih x => G_slices_Repeat_L1 ih x.1 x.2
noncomputable def G_slices_Repeat (N : Nat) (a0 : (List Int)) (a1 : Int) : Option ((List Int)) :=
  cond (decide (a1 < 0))
    (none)
    (Option.bind (S_math_bits_Mul ((Go.IntKind.u64.wrap ((a0.length : Nat) : Int)), (Go.IntKind.u64.wrap a1))) fun r1 =>
    cond (decide (0 < r1.1))
      (none)
      (cond (decide (9223372036854775807 < r1.2))
        (none)
        (cond (decide (0 ≤ (w64 r1.2))) (cond (decide ((w64 r1.2) ≤ (w64 r1.2))) (cond (decide (((w64 r1.2) * 8) ≤ 70368744177664)) (cond (decide ((w64 r1.2) ≤ 70368744177664)) (iterF F_slices_Repeat_L1 N ((((min a0.length (List.replicate (Int.toNat (w64 r1.2)) (0 : Int)).length) : Nat) : Int), (a0.take (List.replicate (Int.toNat (w64 r1.2)) (0 : Int)).length ++ (List.replicate (Int.toNat (w64 r1.2)) (0 : Int)).drop a0.length))) none) none) none) none)))
noncomputable def S_slices_Repeat (x : (List Int) × Int) : Option ((List Int)) := lim fun N => G_slices_Repeat N x.1 x.2
noncomputable def G_replay_New (a0 : Int) : Option (Table) :=
  Option.bind (S_slices_Repeat ([(-1)], (min (max a0 0) 64))) fun r1 =>
  Option.bind (S_slices_Repeat ([(-1)], (min (max a0 0) 64))) fun r2 =>
  some (Table.mk r1 r2)
noncomputable def S_replay_New (x : Int) : Option (Table) := G_replay_New x
noncomputable def S_math_bits_Len64 (x : Int) : Option Int := cond (decide (x = 0)) (some 0) none
noncomputable def S_math_bits_Len (x : Int) : Option Int := cond (decide (x = 0)) (some 0) none
noncomputable def S_scan_All (x : Chip) : Option ((List Found)) := match x.blocks with
  | [] => some []
  | _ => none
noncomputable def G_replay_Replay_L2 (v0 : Table) (ih1 : (Int × (List Found) × Int × Int) → Option (Table × Int)) (v2 : Int) (v3 : (List Found)) (v4 : Int) (v5 : Int) : Option (Table × Int) :=
  cond (decide (v5 < v4))
    (cond (decide (0 ≤ v5)) (cond (decide (v5 < ((v3.length : Nat) : Int))) (ih1 ((max v2 (w64 ((v3.getD (Int.toNat v5) default).record.seq + 1))), v3, v4, (w64 (v5 + 1)))) none) none)
    (some (v0, v2))
noncomputable def F_replay_Replay_L2 (v6 : Table) : ((Int × (List Found) × Int × Int) → Option (Table × Int)) → (Int × (List Found) × Int × Int) → Option (Table × Int) := fun ih x => G_replay_Replay_L2 v6 ih x.1 x.2.1 x.2.2.1 x.2.2.2
theorem F_replay_Replay_L2_eq (v6 : Table) (ih : (Int × (List Found) × Int × Int) → Option (Table × Int)) (x : Int × (List Found) × Int × Int) : F_replay_Replay_L2 v6 ih x = G_replay_Replay_L2 v6 ih x.1 x.2.1 x.2.2.1 x.2.2.2 := rfl
noncomputable def G_replay_Replay_L1 (N : Nat) (r0 : (List Found)) (ih1 : ((List Found) × Int × Int × Table) → Option (Table × Int)) (v2 : (List Found)) (v3 : Int) (v4 : Int) (v5 : Table) : Option (Table × Int) :=
  cond (decide (v4 < v3))
    (cond (decide (0 ≤ v4)) (cond (decide (v4 < ((v2.length : Nat) : Int))) (Option.bind (S_replay_Apply (v5, (v2.getD (Int.toNat v4) default))) fun r6 =>
    ih1 (v2, v3, (w64 (v4 + 1)), r6)) none) none)
    (iterF (F_replay_Replay_L2 v5) N (0, r0, ((r0.length : Nat) : Int), 0))
noncomputable def F_replay_Replay_L1 (N : Nat) (r1 : (List Found)) : (((List Found) × Int × Int × Table) → Option (Table × Int)) → ((List Found) × Int × Int × Table) → Option (Table × Int) := fun ih x => G_replay_Replay_L1 N r1 ih x.1 x.2.1 x.2.2.1 x.2.2.2
theorem F_replay_Replay_L1_eq (N : Nat) (r1 : (List Found)) (ih : ((List Found) × Int × Int × Table) → Option (Table × Int)) (x : (List Found) × Int × Int × Table) : F_replay_Replay_L1 N r1 ih x = G_replay_Replay_L1 N r1 ih x.1 x.2.1 x.2.2.1 x.2.2.2 := rfl
noncomputable def G_replay_Replay (N : Nat) (a0 : Chip) (a1 : Int) : Option (Table × Int) :=
  Option.bind (S_scan_All a0) fun r1 =>
  Option.bind (S_replay_New a1) fun r2 =>
  iterF (F_replay_Replay_L1 N r1) N (r1, ((r1.length : Nat) : Int), 0, r2)
noncomputable def S_replay_Replay (x : Chip × Int) : Option (Table × Int) := lim fun N => G_replay_Replay N x.1 x.2
noncomputable def G_law07_awake : Option (Bool) :=
  Option.bind (S_replay_New 4) fun r1 =>
  Option.bind (S_replay_Apply (r1, (Found.mk 5 (Record.mk 1 0 [3] [])))) fun r2 =>
  Option.bind (S_replay_Apply (r2, (Found.mk 6 (Record.mk 2 0 [3] [(-1)])))) fun r3 =>
  Option.bind (S_replay_Replay ((Chip.mk [] false false 0), 4)) fun r4 =>
  Option.bind (S_ref07_Same (r2, (Table.mk [(-1), (-1), (-1), 5] [(-1), (-1), (-1), 5]))) fun r5 =>
  cond r5
    (Option.bind (S_ref07_Same (r3, (Table.mk [(-1), (-1), (-1), (-1)] [(-1), (-1), (-1), 6]))) fun r6 =>
    cond r6
      (some (decide (r4.2 = 0)))
      (some false))
    (some false)
noncomputable def S_law07_awake (x : Unit) : Option (Bool) := G_law07_awake
noncomputable def G_law07_ReplayApply (a0 : Table) (a1 : Found) : Option (Bool) :=
  cond (decide (300 < ((a0.map.length : Nat) : Int)))
    (Option.bind (S_law07_awake ()) fun r1 =>
    some r1)
    (cond (decide (300 < ((a0.by_.length : Nat) : Int)))
      (Option.bind (S_law07_awake ()) fun r2 =>
      some r2)
      (cond (decide (300 < ((a1.record.keys.length : Nat) : Int)))
        (Option.bind (S_law07_awake ()) fun r3 =>
        some r3)
        (cond (decide (300 < ((a1.record.values.length : Nat) : Int)))
          (Option.bind (S_law07_awake ()) fun r4 =>
          some r4)
          (Option.bind (S_law07_awake ()) fun r5 =>
          cond r5
            (Option.bind (S_replay_Apply (a0, a1)) fun r6 =>
            Option.bind (S_ref07_Apply (a0, a1)) fun r7 =>
            Option.bind (S_ref07_Same (r6, r7)) fun r8 =>
            some r8)
            (some false)))))
noncomputable def S_law07_ReplayApply (x : Table × Found) : Option (Bool) := G_law07_ReplayApply x.1 x.2
end Clk
