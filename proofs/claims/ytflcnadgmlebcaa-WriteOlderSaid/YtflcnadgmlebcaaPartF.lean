/- A part of the proof of WriteOlder: an evaluator of the program's code that the kernel runs, its soundness, what the functions compute. -/
import Derived.Test.YtflcnadgmlebcaaPartE
set_option linter.unusedVariables false
set_option linter.unusedSimpArgs false
namespace Clk
open Go
set_option linter.unusedVariables false
def smalls : List Geometry := [⟨8, 4, 5, 1⟩, ⟨5, 4, 3, 0⟩, ⟨12, 3, 5, 2⟩, ⟨6, 6, 8, 0⟩, ⟨16, 2, 4, 3⟩, ⟨10, 5, 12, 1⟩]
def smallT (n : Int) : Geometry := smalls.getD (n.toNat % 6) default
theorem s_Small {n : Int} (h0 : 0 ≤ n) (h1 : n < 256) : S_law14_Small n = some (smallT n) := by
  show G_law14_Small n = _
  unfold G_law14_Small
  obtain ⟨k, rfl⟩ : ∃ k : Nat, n = k := ⟨n.toNat, by omega⟩
  have e : Int.tmod (w64 (k : Int)) (([(Geometry.mk 8 4 5 1), (Geometry.mk 5 4 3 0), (Geometry.mk 12 3 5 2), (Geometry.mk 6 6 8 0), (Geometry.mk 16 2 4 3), (Geometry.mk 10 5 12 1)].length : Nat) : Int) = ((k % 6 : Nat) : Int) := by
    rw [w64_id (by omega) (by omega)]; exact tmod_nat k 6
  rw [e, decide_eq_false (by decide), Bool.not_false, cond_true, decide_eq_true (show (0 : Int) ≤ ((k % 6 : Nat) : Int) by omega), cond_true, decide_eq_true (by simp only [List.length_cons, List.length_nil]; omega), cond_true, decide_eq_true (by simp only [List.length_cons, List.length_nil]; omega), cond_true]
  rfl
theorem small_cases {P : Geometry → Prop} (h : ∀ g ∈ smalls, P g) (n : Int) : P (smallT n) := h _ (getD_mem' (by show n.toNat % 6 < 6; omega))
def pk (l : List Int) (i : Nat) (n : Int) : Int := l.getD i 0 % n
def mkL (l : List Int) (kind : Int) : Nat → Nat → Int → List Int × List Int
  | 0, _, _ => ([], [])
  | n + 1, at_, key => if key < 64 then
      (if kind = 2 then (key :: (mkL l kind n (at_ + 2) (key + 1 + pk l at_ 10)).1, (pk l (at_ + 1) 513 - 1) :: (mkL l kind n (at_ + 2) (key + 1 + pk l at_ 10)).2)
       else (key :: (mkL l kind n (at_ + 1) (key + 1 + pk l at_ 10)).1, (mkL l kind n (at_ + 1) (key + 1 + pk l at_ 10)).2))
    else ([], [])
def madeT (l : List Int) : Record :=
  ⟨1 + pk l 0 2, pk l 1 60000 * (1 + pk l 2 1000), (mkL l (1 + pk l 0 2) (pk l 4 8 + 1).toNat 5 (pk l 3 20)).1, (mkL l (1 + pk l 0 2) (pk l 4 8 + 1).toNat 5 (pk l 3 20)).2⟩
def U16 (l : List Int) : Prop := ∀ n ∈ l, 0 ≤ n ∧ n < 65536
theorem U16.get {l : List Int} (h : U16 l) (i : Nat) : 0 ≤ l.getD i 0 ∧ l.getD i 0 < 65536 := by
  by_cases hi : i < l.length
  · exact h _ (getD_mem' hi)
  · rw [List.getD_eq_getElem?_getD, List.getElem?_eq_none (by omega)]; exact ⟨Int.le_refl 0, show (0 : Int) < 65536 by omega⟩
theorem pk_none {l : List Int} {i : Nat} (h : l.length ≤ i) (n : Int) : pk l i n = 0 := by
  unfold pk
  rw [List.getD_eq_getElem?_getD, List.getElem?_eq_none h]; simp
theorem pk_range {l : List Int} (h : U16 l) (i : Nat) {n : Int} (hn : 0 < n) : 0 ≤ pk l i n ∧ pk l i n < n := ⟨Int.emod_nonneg _ (by omega), Int.emod_lt_of_pos _ hn⟩
theorem pk_tmod {l : List Int} (h : U16 l) (i : Nat) (n : Int) : Int.tmod (w64 (l.getD i 0)) n = pk l i n := by
  have := h.get i
  rw [w64_id (by omega) (by omega), Int.tmod_eq_emod_of_nonneg this.1]; rfl
theorem Made_L1 {l : List Int} (hl : U16 l) (hn : l.length < 9223372036854775808) {kind seq : Int} : ∀ (n N at_ : Nat) (cnt key ati : Int) (ks vs : List Int), cnt = (n : Int) - 1 → ati = at_ → n ≤ 9 → at_ + 2 * n ≤ 4294967296 → 0 ≤ key → key ≤ 100 → ks.length + n ≤ 100 → vs.length + n ≤ 100 → n < N →
    iterF F_law03_Made_L1 N (key, cnt, l, kind, seq, ati, ks, vs) = some ⟨kind, seq, ks ++ (mkL l kind n at_ key).1, vs ++ (mkL l kind n at_ key).2⟩
  | n, 0, _, _, _, _, _, _, _, _, _, _, _, _, _, _, h => by omega
  | 0, N + 1, at_, cnt, key, ati, ks, vs, h1, h2, _, _, _, _, _, _, _ => by
    rw [iterF_succ, F_law03_Made_L1_eq]
    unfold G_law03_Made_L1
    simp only [mkL, List.append_nil]
    rw [decide_eq_false (by omega), cond_false]
  | n + 1, N + 1, at_, cnt, key, ati, ks, vs, h1, h2, h3, h4, h5, h6, h7, h8, h9 => by
    subst h2
    rw [iterF_succ, F_law03_Made_L1_eq]
    unfold G_law03_Made_L1
    simp only [mkL]
    rw [decide_eq_true (show 0 ≤ cnt by omega), cond_true]
    by_cases hk : key < 64
    · have p1 := pk_range hl at_ (n := 10) (by omega)
      have p2 := pk_range hl (at_ + 1) (n := 513) (by omega)
      have ih := fun (a : Nat) (ha : a + 2 * n ≤ 4294967296) (k' : Int) (hk' : 0 ≤ k' ∧ k' ≤ 100) (ks' vs' : List Int) (hks : ks'.length + n ≤ 100) (hvs : vs'.length + n ≤ 100) => Made_L1 hl hn (kind := kind) (seq := seq) n N a (w64 (cnt - 1)) k' (a : Int) ks' vs' (by rw [w64_id (by omega) (by omega)]; omega) rfl (by omega) ha hk'.1 hk'.2 hks hvs (by omega)
      rw [decide_eq_true hk, cond_true, if_pos hk, decide_eq_true (by simp only [List.length_singleton]; omega), cond_true, decide_eq_true (by simp only [List.length_singleton]; omega), cond_true]
      have w1 : w64 ((at_ : Int) + 1) = ((at_ + 1 : Nat) : Int) := by rw [w64_id (by omega) (by omega)]; rfl
      have w2 : w64 (((at_ + 1 : Nat) : Int) + 1) = ((at_ + 2 : Nat) : Int) := by rw [w64_id (by omega) (by omega)]; rfl
      have w3 : w64 (((at_ + 1 : Nat) : Int) - 1) = (at_ : Int) := by rw [w64_id (by omega) (by omega)]; omega
      have w4 : w64 (((at_ + 2 : Nat) : Int) - 1) = ((at_ + 1 : Nat) : Int) := by rw [w64_id (by omega) (by omega)]; omega
      have w5 : w64 (key + 1) = key + 1 := w64_id (by omega) (by omega)
      have w6 : w64 (key + 1 + pk l at_ 10) = key + 1 + pk l at_ 10 := w64_id (by omega) (by omega)
      have w7 : w64 (pk l (at_ + 1) 513 - 1) = pk l (at_ + 1) 513 - 1 := w64_id (by omega) (by omega)
      simp only [w1, w2, w3, w4, w5, Int.toNat_natCast, pk_tmod hl, w6, w7]
      have v1 : [key].length = 1 := rfl
      by_cases c2 : kind = 2
      · simp only [decide_eq_true c2, cond_true, if_pos c2]
        by_cases c1 : l.length < at_ + 1
        · have z := pk_none (show l.length ≤ at_ by omega) 10
          have z2 := pk_none (show l.length ≤ at_ + 1 by omega) 513
          rw [decide_eq_true (show (l.length : Int) < ((at_ + 1 : Nat) : Int) by omega), cond_true, decide_eq_true (show (l.length : Int) < ((at_ + 2 : Nat) : Int) by omega), cond_true, decide_eq_true (by simp only [List.length_singleton]; omega), cond_true, decide_eq_true (by simp only [List.length_singleton]; omega), cond_true, z, z2, w64_id (n := key + 1 + 0) (by omega) (by omega)]
          rw [ih (at_ + 2) (by omega) _ (by omega) _ _ (by simp only [List.length_append, List.length_singleton]; omega) (by simp only [List.length_append, List.length_singleton]; omega)]
          simp
        · rw [decide_eq_false (show ¬ (l.length : Int) < ((at_ + 1 : Nat) : Int) by omega), cond_false, decide_eq_true (show (0 : Int) ≤ (at_ : Int) by omega), cond_true, decide_eq_true (show (at_ : Int) < l.length by omega), cond_true]
          by_cases c3 : l.length < at_ + 2
          · have z2 := pk_none (show l.length ≤ at_ + 1 by omega) 513
            rw [decide_eq_true (show (l.length : Int) < ((at_ + 2 : Nat) : Int) by omega), cond_true, decide_eq_true (by simp only [List.length_singleton]; omega), cond_true, decide_eq_true (by simp only [List.length_singleton]; omega), cond_true, z2]
            rw [ih (at_ + 2) (by omega) _ (by omega) _ _ (by simp only [List.length_append, List.length_singleton]; omega) (by simp only [List.length_append, List.length_singleton]; omega)]
            simp
          · rw [decide_eq_false (show ¬ (l.length : Int) < ((at_ + 2 : Nat) : Int) by omega), cond_false, decide_eq_true (show (0 : Int) ≤ ((at_ + 1 : Nat) : Int) by omega), cond_true, decide_eq_true (show ((at_ + 1 : Nat) : Int) < l.length by omega), cond_true, decide_eq_true (by simp only [List.length_singleton]; omega), cond_true, decide_eq_true (by simp only [List.length_singleton]; omega), cond_true]
            rw [ih (at_ + 2) (by omega) _ (by omega) _ _ (by simp only [List.length_append, List.length_singleton]; omega) (by simp only [List.length_append, List.length_singleton]; omega)]
            simp
      · simp only [decide_eq_false c2, cond_false, if_neg c2]
        by_cases c1 : l.length < at_ + 1
        · have z := pk_none (show l.length ≤ at_ by omega) 10
          rw [decide_eq_true (show (l.length : Int) < ((at_ + 1 : Nat) : Int) by omega), cond_true, z, w64_id (n := key + 1 + 0) (by omega) (by omega)]
          rw [ih (at_ + 1) (by omega) _ (by omega) _ _ (by simp only [List.length_append, List.length_singleton]; omega) (by omega)]
          simp
        · rw [decide_eq_false (show ¬ (l.length : Int) < ((at_ + 1 : Nat) : Int) by omega), cond_false, decide_eq_true (show (0 : Int) ≤ (at_ : Int) by omega), cond_true, decide_eq_true (show (at_ : Int) < l.length by omega), cond_true]
          rw [ih (at_ + 1) (by omega) _ (by omega) _ _ (by simp only [List.length_append, List.length_singleton]; omega) (by omega)]
          simp
    · rw [decide_eq_false hk, cond_false, if_neg hk]; simp
theorem s_law03_Made {l : List Int} (hl : U16 l) (hn : l.length < 9223372036854775808) : S_law03_Made l = some (madeT l) := by
  refine lim_eq 10 fun N hN => ?_
  have q0 := pk_range hl 0 (n := 2) (by omega)
  have q1 := pk_range hl 1 (n := 60000) (by omega)
  have q2 := pk_range hl 2 (n := 1000) (by omega)
  have q3 := pk_range hl 3 (n := 20) (by omega)
  have q4 := pk_range hl 4 (n := 8) (by omega)
  have key := fun kind seq => Made_L1 hl hn (kind := kind) (seq := seq) (pk l 4 8 + 1).toNat N 5 (pk l 4 8) (pk l 3 20) 5 [] [] (by omega) rfl (by omega) (by omega) (by omega) (by omega) (by simp; omega) (by simp; omega) (by omega)
  simp only [List.nil_append] at key
  have hm : 0 ≤ pk l 1 60000 * (1 + pk l 2 1000) ∧ pk l 1 60000 * (1 + pk l 2 1000) ≤ 60000 * 1001 := by
    refine ⟨Int.mul_nonneg q1.1 (by omega), Int.mul_le_mul (by omega) (by omega) (by omega) (by omega)⟩
  have w0 : w64 (1 + pk l 0 2) = 1 + pk l 0 2 := w64_id (by omega) (by omega)
  have w1 : w64 (1 + pk l 2 1000) = 1 + pk l 2 1000 := w64_id (by omega) (by omega)
  have w2 : w64 (pk l 1 60000 * (1 + pk l 2 1000)) = pk l 1 60000 * (1 + pk l 2 1000) := w64_id (by omega) (by omega)
  unfold G_law03_Made madeT
  simp only [pk_tmod hl, w0, w1, w2]
  by_cases c1 : l.length < 1
  · simp only [pk_none (show l.length ≤ 0 by omega), pk_none (show l.length ≤ 1 by omega), pk_none (show l.length ≤ 2 by omega), pk_none (show l.length ≤ 3 by omega), pk_none (show l.length ≤ 4 by omega)] at key ⊢
    rw [decide_eq_true (show (l.length : Int) < 1 by omega), cond_true, decide_eq_true (show (l.length : Int) < 2 by omega), cond_true, decide_eq_true (show (l.length : Int) < 3 by omega), cond_true, decide_eq_true (show (l.length : Int) < 4 by omega), cond_true, decide_eq_true (show (l.length : Int) < 5 by omega), cond_true]
    exact key 1 0
  · rw [decide_eq_false (show ¬ (l.length : Int) < 1 by omega), cond_false, decide_eq_true (show (0 : Int) < l.length by omega), cond_true]
    by_cases c2 : l.length < 2
    · simp only [pk_none (show l.length ≤ 1 by omega), pk_none (show l.length ≤ 2 by omega), pk_none (show l.length ≤ 3 by omega), pk_none (show l.length ≤ 4 by omega)] at key ⊢
      rw [decide_eq_true (show (l.length : Int) < 2 by omega), cond_true, decide_eq_true (show (l.length : Int) < 3 by omega), cond_true, decide_eq_true (show (l.length : Int) < 4 by omega), cond_true, decide_eq_true (show (l.length : Int) < 5 by omega), cond_true]
      exact key _ 0
    · rw [decide_eq_false (show ¬ (l.length : Int) < 2 by omega), cond_false, decide_eq_true (show (1 : Int) < l.length by omega), cond_true]
      by_cases c3 : l.length < 3
      · simp only [pk_none (show l.length ≤ 2 by omega), pk_none (show l.length ≤ 3 by omega), pk_none (show l.length ≤ 4 by omega)] at key ⊢
        rw [decide_eq_true (show (l.length : Int) < 3 by omega), cond_true, decide_eq_true (show (l.length : Int) < 4 by omega), cond_true, decide_eq_true (show (l.length : Int) < 5 by omega), cond_true, w64_id (n := pk l 1 60000 * 1) (by omega) (by omega)]
        exact key _ _
      · rw [decide_eq_false (show ¬ (l.length : Int) < 3 by omega), cond_false, decide_eq_true (show (2 : Int) < l.length by omega), cond_true]
        by_cases c4 : l.length < 4
        · simp only [pk_none (show l.length ≤ 3 by omega), pk_none (show l.length ≤ 4 by omega)] at key ⊢
          rw [decide_eq_true (show (l.length : Int) < 4 by omega), cond_true, decide_eq_true (show (l.length : Int) < 5 by omega), cond_true]
          exact key _ _
        · rw [decide_eq_false (show ¬ (l.length : Int) < 4 by omega), cond_false, decide_eq_true (show (3 : Int) < l.length by omega), cond_true]
          by_cases c5 : l.length < 5
          · simp only [pk_none (show l.length ≤ 4 by omega)] at key ⊢
            rw [decide_eq_true (show (l.length : Int) < 5 by omega), cond_true]
            exact key _ _
          · rw [decide_eq_false (show ¬ (l.length : Int) < 5 by omega), cond_false, decide_eq_true (show (4 : Int) < l.length by omega), cond_true]
            exact key _ _
theorem mkL_len (l : List Int) (kind : Int) : ∀ (n a : Nat) (key : Int), (mkL l kind n a key).1.length ≤ n ∧ (mkL l kind n a key).2.length ≤ n
  | 0, a, key => by simp [mkL]
  | n + 1, a, key => by
    unfold mkL
    split
    · split
      · have := mkL_len l kind n (a + 2) (key + 1 + pk l a 10)
        simp only [List.length_cons]; omega
      · have := mkL_len l kind n (a + 1) (key + 1 + pk l a 10)
        simp only [List.length_cons]; omega
    · simp
theorem madeT_ok {l : List Int} (hl : U16 l) : RecOk (madeT l) ∧ (madeT l).keys.length ≤ 8 := by
  have q4 := pk_range hl 4 (n := 8) (by omega)
  have := mkL_len l (1 + pk l 0 2) (pk l 4 8 + 1).toNat 5 (pk l 3 20)
  unfold madeT RecOk
  simp only
  omega
end Clk
namespace Clk
open Go
set_option linter.unusedVariables false
structure CI (c : Chip) (m : Int) : Prop where
  ok : ChipOk c
  pages : PagesOk c
  len : (c.blocks.length : Int) = m
theorem smallT_mem (n : Int) : smallT n ∈ smalls := small_cases (P := (· ∈ smalls)) (fun g h => h) n
theorem replayT_ok (c : Chip) (n : Int) : TabOk (replayT c n).1 := by
  obtain ⟨h1, h2⟩ := repL_len (allT c) (tabT n) 0
  have := tabT_ok n
  unfold replayT
  exact ⟨by rw [h1]; exact this.1, by rw [h2]; exact this.2⟩
theorem mountT_ok {g : Geometry} {c : Chip} (h : ChipOk c) : DevOk (mountT g c).1 := by
  unfold mountT
  split
  · exact ⟨⟨by simp [zDev], fun b hb => by simp [zDev] at hb⟩, ⟨by simp [zDev], by simp [zDev]⟩⟩
  · split
    · exact ⟨⟨by simp [zDev], fun b hb => by simp [zDev] at hb⟩, ⟨by simp [zDev], by simp [zDev]⟩⟩
    · exact ⟨⟨h.1, h.2⟩, replayT_ok c _⟩
def awakeT : Bool :=
  let d := (formatT (smallT 0) []).1
  let a := putD d ⟨[120], ⟨1, 0, [2], []⟩⟩ [⟨1, [], [], 0⟩, zFate, zFate]
  let f := putD d ⟨[], ⟨0, 0, [], []⟩⟩ []
  let b := putD d ⟨[120], ⟨1, 0, [2], []⟩⟩ [⟨2, [], [], 0⟩]
  decide (a.2.2 = 0) && decide (a.2.1.length = 1) && decide (a.1.chip.blocks.length = 8) && (a.1.chip.blocks.getD 0 default).bad && decide (a.1.opn = 1) && decide (a.1.seq = 1) && decide (f.2.2 = 1) && decide (b.2.2 = 52) && b.1.chip.off
set_option maxRecDepth 100000 in
theorem awake_ok : awakeT = true := by kernel_rfl
theorem formatT_ok {g : Geometry} {bad : List Int} : DevOk (formatT g bad).1 := by
  unfold formatT
  split
  · exact ⟨⟨by simp [zDev], fun b hb => by simp [zDev] at hb⟩, ⟨by simp [zDev], by simp [zDev]⟩⟩
  · exact mountT_ok (newT_ok _ _ _).1
theorem s_awake : S_law15_awake () = some true := by
  have hd : DevOk (formatT (smallT 0) []).1 := formatT_ok
  have h := awake_ok
  show G_law15_awake = _
  unfold G_law15_awake
  rw [s_Small (by omega) (by omega), some_bind', s_Format (by simp), some_bind', s_write_Put hd ⟨⟨by simp, by simp⟩, by simp⟩, some_bind', s_write_Put hd ⟨⟨by simp, by simp⟩, by simp⟩, some_bind', s_write_Put hd ⟨⟨by simp, by simp⟩, by simp⟩, some_bind']
  unfold awakeT zFate at h
  simp only [Bool.and_eq_true, decide_eq_true_eq] at h
  obtain ⟨⟨⟨⟨⟨⟨⟨⟨h1, h2⟩, h3⟩, h4⟩, h5⟩, h6⟩, h7⟩, h8⟩, h9⟩ := h
  rw [decide_eq_true h1, cond_true, decide_eq_true (by omega), cond_true, decide_eq_true (by omega), cond_true, decide_eq_true (by omega), cond_true, h4, cond_true, decide_eq_true h5, cond_true, decide_eq_true h6, cond_true, decide_eq_true h7, cond_true, decide_eq_true h8, cond_true, h9]
end Clk
namespace Clk
open Go
set_option linter.unusedVariables false
theorem mkL_chk {l : List Int} (hl : U16 l) {kind : Int} : ∀ (n a : Nat) (key : Int) (p : Option Int), 0 ≤ key → (∀ q, p = some q → q < key) → chkL p (mkL l kind n a key).1 = true
  | 0, a, key, p, _, _ => rfl
  | n + 1, a, key, p, h1, h2 => by
    have p1 := pk_range hl a (n := 10) (by omega)
    unfold mkL
    by_cases hk : key < 64
    · rw [if_pos hk]
      have hin : inr key = true := by unfold inr; rw [decide_eq_true h1, decide_eq_true hk]; rfl
      have hp : ∀ p : Option Int, (∀ q, p = some q → q < key) → (match p with | none => true | some q => decide (q < key)) = true := fun p h2 => by
        cases p with
        | none => rfl
        | some q => exact decide_eq_true (h2 q rfl)
      by_cases hc : kind = 2
      · rw [if_pos hc]
        have := mkL_chk hl (kind := kind) n (a + 2) (key + 1 + pk l a 10) (some key) (by omega) (fun q hq => by cases hq; omega)
        simp only [chkL, hin, this, Bool.true_and, Bool.and_true]; exact hp p h2
      · rw [if_neg hc]
        have := mkL_chk hl (kind := kind) n (a + 1) (key + 1 + pk l a 10) (some key) (by omega) (fun q hq => by cases hq; omega)
        simp only [chkL, hin, this, Bool.true_and, Bool.and_true]; exact hp p h2
    · rw [if_neg hk]; rfl
theorem madeT_keys {l : List Int} (hl : U16 l) : keysT (madeT l).keys = true := by
  have q3 := pk_range hl 3 (n := 20) (by omega)
  have q4 := pk_range hl 4 (n := 8) (by omega)
  have h8 := (madeT_ok hl).2
  have h0 : 0 < (madeT l).keys.length := by
    unfold madeT
    simp only
    obtain ⟨n, hn⟩ : ∃ n, (pk l 4 8 + 1).toNat = n + 1 := ⟨(pk l 4 8).toNat, by omega⟩
    rw [hn, mkL, if_pos (by omega)]
    split <;> simp
  unfold keysT
  rw [decide_eq_true h0, decide_eq_true h8, Bool.and_true, Bool.and_true]
  exact mkL_chk hl _ 5 _ none (by omega) (by intro q h; cases h)
def fresh (g : Geometry) : Device :=
  ⟨g, ⟨List.replicate g.blocks.toNat ⟨List.replicate g.pages.toNat zPage, 0, 0, false⟩, false, false, 0⟩, ⟨List.replicate g.sectors.toNat (-1), List.replicate g.sectors.toNat (-1)⟩, 0, -1⟩
def wrote1 (g : Geometry) (p : Page) : Chip :=
  ⟨(List.replicate g.blocks.toNat ⟨List.replicate g.pages.toNat zPage, 0, 0, false⟩).set 0 ⟨(List.replicate g.pages.toNat zPage).set 0 ⟨true, p.data, p.tag⟩, 1, 0, false⟩, false, false, 1⟩
def wrote2 (g : Geometry) (p q : Page) : Chip :=
  ⟨((List.replicate g.blocks.toNat ⟨List.replicate g.pages.toNat zPage, 0, 0, false⟩).set 0 ⟨(List.replicate g.pages.toNat zPage).set 0 ⟨true, p.data, p.tag⟩, 1, 0, false⟩).set 0 ⟨((List.replicate g.pages.toNat zPage).set 0 ⟨true, p.data, p.tag⟩).set 1 ⟨true, q.data, q.tag⟩, 2, 0, false⟩, false, false, 2⟩
theorem fresh_eq : ∀ g ∈ smalls, formatT g [] = (fresh g, 0) := by
  intro g hg
  simp only [smalls, List.mem_cons, List.not_mem_nil, or_false] at hg
  rcases hg with rfl | rfl | rfl | rfl | rfl | rfl <;> kernel_rfl
theorem put1 (page : Page) (rec : Record) : ∀ g ∈ smalls, putL page rec ((fresh g).chip.blocks.length + 1) [] (fresh g) = (⟨g, wrote1 g page, applyT (fresh g).table ⟨0, rec⟩, 1, 0⟩, [], 0) := by
  intro g hg
  simp only [smalls, List.mem_cons, List.not_mem_nil, or_false] at hg
  rcases hg with rfl | rfl | rfl | rfl | rfl | rfl <;> kernel_rfl
theorem put2 (p q : Page) (rec : Record) (t : Table) : ∀ g ∈ smalls, putL q rec ((wrote1 g p).blocks.length + 1) [] ⟨g, wrote1 g p, t, 1, 0⟩ = (⟨g, wrote2 g p q, applyT t ⟨1, rec⟩, 2, 0⟩, [], 0) := by
  intro g hg
  simp only [smalls, List.mem_cons, List.not_mem_nil, or_false] at hg
  rcases hg with rfl | rfl | rfl | rfl | rfl | rfl <;> kernel_rfl
theorem sectors_eq : ∀ g ∈ smalls, ((fresh g).table.map.length : Int) = g.sectors ∧ 0 ≤ g.sectors ∧ g.sectors < 100 := by
  intro g hg
  simp only [smalls, List.mem_cons, List.not_mem_nil, or_false] at hg
  rcases hg with rfl | rfl | rfl | rfl | rfl | rfl <;> decide
theorem getD_set_ne' {α : Type} {l : List α} {i j : Nat} {x d : α} (h : i ≠ j) : (l.set i x).getD j d = l.getD j d := by
  rw [List.getD_eq_getElem?_getD, List.getElem?_set_ne h, ← List.getD_eq_getElem?_getD]
theorem appL_get {f : Found} (hk : f.record.kind = 1) : ∀ (l : List Int) (i : Nat) (t : Table) (s : Nat), t.map.length = t.by_.length → s < t.map.length → (∀ k ∈ l, 0 ≤ k) →
    (appL f i l t).map.getD s 0 = (if (s : Int) ∈ l then f.place else t.map.getD s 0) ∧ (appL f i l t).by_.getD s 0 = (if (s : Int) ∈ l then f.place else t.by_.getD s 0)
  | [], i, t, s, _, _, _ => by simp [appL]
  | k :: l, i, t, s, h1, h2, h3 => by
    obtain ⟨e1, e2⟩ := app1_len f i k t
    obtain ⟨g1, g2⟩ := appL_get hk l (i + 1) (app1 f i k t) s (by rw [e1, e2, h1]) (by rw [e1]; exact h2) (fun x hx => h3 x (List.mem_cons_of_mem _ hx))
    have hk0 := h3 k List.mem_cons_self
    unfold appL
    rw [g1, g2]
    by_cases hm : (s : Int) ∈ l
    · rw [if_pos hm, if_pos hm, if_pos (List.mem_cons_of_mem _ hm), if_pos (List.mem_cons_of_mem _ hm)]; exact ⟨rfl, rfl⟩
    · rw [if_neg hm, if_neg hm]
      unfold app1
      by_cases hs : (s : Int) = k
      · have hmem : (s : Int) ∈ k :: l := by rw [hs]; exact List.mem_cons_self
        rw [if_pos hmem, if_pos hmem, if_pos ⟨hk0, by omega, by omega⟩, if_pos hk]
        have : k.toNat = s := by omega
        rw [this]
        exact ⟨getD_set_self h2, getD_set_self (by rw [← h1]; exact h2)⟩
      · have hmem : ¬ (s : Int) ∈ k :: l := by
          intro h; rcases List.mem_cons.1 h with h | h
          · exact hs h
          · exact hm h
        rw [if_neg hmem, if_neg hmem]
        split
        · try rw [if_pos hk]
          exact ⟨getD_set_ne' (by omega), getD_set_ne' (by omega)⟩
        · exact ⟨rfl, rfl⟩
theorem whL_nil {n : Int} : ∀ (l : List Int) (i : Nat), (∀ x ∈ l, x ≠ n) → whL n i l = []
  | [], i, _ => rfl
  | x :: l, i, h => by
    unfold whL
    rw [if_neg (h x List.mem_cons_self)]
    exact whL_nil l _ fun y hy => h y (List.mem_cons_of_mem _ hy)
theorem live_false {t : Table} {p : Int} (h1 : ∀ x ∈ t.map, x ≠ p) (h2 : ∀ x ∈ t.by_, x ≠ p) : liveT t p = false := by
  unfold liveT ownersT saysT whichT
  split
  · rw [whL_nil _ _ h1, whL_nil _ _ h2]; rfl
  · rfl
theorem mem_getD {l : List Int} {x : Int} (h : x ∈ l) : ∃ s, s < l.length ∧ x = l.getD s 0 := by
  obtain ⟨s, hs, rfl⟩ := List.mem_iff_getElem.1 h
  exact ⟨s, hs, by rw [List.getD_eq_getElem?_getD, List.getElem?_eq_getElem hs]; rfl⟩
theorem older_tables {m : Nat} {keys : List Int} (hk : ∀ k ∈ keys, 0 ≤ k) {s1 s2 : Int} (s : Nat) (hs : s < m) :
    let t0 : Table := ⟨List.replicate m (-1), List.replicate m (-1)⟩
    let t1 := applyT t0 ⟨0, ⟨1, s1, keys, []⟩⟩
    let t2 := applyT t1 ⟨1, ⟨1, s2, keys, []⟩⟩
    0 ≤ t1.map.getD s 0 → liveT t2 (t1.map.getD s 0) = false := by
  intro t0 t1 t2 h
  have l0 : t0.map.length = m := by simp [t0]
  have l0' : t0.by_.length = m := by simp [t0]
  obtain ⟨l1, l1'⟩ := applyT_len t0 ⟨0, ⟨1, s1, keys, []⟩⟩
  obtain ⟨l2, l2'⟩ := applyT_len t1 ⟨1, ⟨1, s2, keys, []⟩⟩
  have g1 := fun j (hj : j < m) => appL_get (f := ⟨0, ⟨1, s1, keys, []⟩⟩) rfl keys 0 t0 j (l0.trans l0'.symm) (by rw [l0]; exact hj) hk
  have g2 := fun j (hj : j < m) => appL_get (f := ⟨1, ⟨1, s2, keys, []⟩⟩) rfl keys 0 t1 j (by rw [show t1.map.length = m from l1.trans l0, show t1.by_.length = m from l1'.trans l0']) (by rw [show t1.map.length = m from l1.trans l0]; exact hj) hk
  have z : ∀ j, j < m → t0.map.getD j 0 = -1 ∧ t0.by_.getD j 0 = -1 := fun j hj => by
    have : (List.replicate m (-1 : Int)).getD j 0 = -1 := by rw [List.getD_eq_getElem?_getD, List.getElem?_replicate, if_pos hj]; rfl
    exact ⟨this, this⟩
  have h0 : t1.map.getD s 0 = 0 := by
    have := (g1 s hs).1
    rw [(z s hs).1] at this
    have e : t1.map.getD s 0 = if (s : Int) ∈ keys then (0 : Int) else -1 := this
    rw [e] at h ⊢
    split at h
    · rename_i hm; rw [if_pos hm]
    · omega
  rw [h0]
  refine live_false (fun x hx => ?_) (fun x hx => ?_)
  · obtain ⟨j, hj, rfl⟩ := mem_getD hx
    have hj' : j < m := by rw [show t2.map.length = m from l2.trans (l1.trans l0)] at hj; exact hj
    have e2 : t2.map.getD j 0 = if (j : Int) ∈ keys then (1 : Int) else t1.map.getD j 0 := (g2 j hj').1
    have e1 : t1.map.getD j 0 = if (j : Int) ∈ keys then (0 : Int) else t0.map.getD j 0 := (g1 j hj').1
    rw [e2, e1, (z j hj').1]
    split
    · omega
    · omega
  · obtain ⟨j, hj, rfl⟩ := mem_getD hx
    have hj' : j < m := by rw [show t2.by_.length = m from l2'.trans (l1'.trans l0')] at hj; exact hj
    have e2 : t2.by_.getD j 0 = if (j : Int) ∈ keys then (1 : Int) else t1.by_.getD j 0 := (g2 j hj').2
    have e1 : t1.by_.getD j 0 = if (j : Int) ∈ keys then (0 : Int) else t0.by_.getD j 0 := (g1 j hj').2
    rw [e2, e1, (z j hj').2]
    split
    · omega
    · omega
theorem encT_ok {r : Record} {data : Str} (h : rightT r = true) (hd : data.length ≤ 16) : (encT r data).2 = 0 := by
  unfold encT
  rw [if_neg]
  rintro (h1 | h1)
  · rw [h] at h1; cases h1
  · omega
theorem makeT_ok2 {w : Write} (h : rightT w.record = true) (hd : w.data.length ≤ 16) : (makeT w).2 = 0 := by
  unfold makeT
  rw [if_neg (by rw [encT_ok h hd]; simp)]
theorem Older_L1 {d a b : Device} (ha : ((a.table.map.length : Nat) : Int) = d.geometry.sectors) (hs : a.table.map.length < 100) (hb : TabOk b.table) (h : ∀ s, s < a.table.map.length → 0 ≤ a.table.map.getD s 0 → liveT b.table (a.table.map.getD s 0) = false) : ∀ (m N k : Nat) (i : Int), k + m = a.table.map.length → i = k → m < N → iterF F_law15_WriteOlder_L1 N (true, i, d, a, b) = some true
  | m, 0, _, _, _, _, h => by omega
  | 0, N + 1, k, i, h1, h2, _ => by
    rw [iterF_succ, F_law15_WriteOlder_L1_eq]
    unfold G_law15_WriteOlder_L1
    simp only
    rw [decide_eq_false (by omega), cond_false]
  | m + 1, N + 1, k, i, h1, h2, h3 => by
    subst h2
    have ih := Older_L1 ha hs hb h m N (k + 1) (w64 (k + 1)) (by omega) (by rw [w64_id (by omega) (by omega)]; omega) (by omega)
    rw [iterF_succ, F_law15_WriteOlder_L1_eq]
    unfold G_law15_WriteOlder_L1
    simp only [Int.toNat_natCast, s_Live hb, some_bind', ih]
    rw [decide_eq_true (show (k : Int) < d.geometry.sectors by omega), cond_true, decide_eq_true (show (0 : Int) ≤ k by omega), cond_true, decide_eq_true (show (k : Int) < a.table.map.length by omega), cond_true]
    by_cases hc : 0 ≤ a.table.map.getD k 0
    · rw [decide_eq_true hc, cond_true, h k (by omega) hc]; rfl
    · rw [decide_eq_false hc, cond_false]
theorem law_WriteOlder {n : Int} {w : List Int} (h0 : 0 ≤ n ∧ n < 256) (hw : U16 w) (hn : w.length < 9223372036854775808) : S_law15_WriteOlder (n, w) = some true := by
  refine lim_eq 200 fun N hN => ?_
  show G_law15_WriteOlder N n w = _
  have hg := smallT_mem n
  generalize hgg : smallT n = g at hg
  obtain ⟨k1, k2, k3⟩ := sectors_eq g hg
  have hkeys := madeT_keys hw
  have hrange := keysT_range hkeys
  have hd : DevOk (fresh g) := by
    have := formatT_ok (g := g) (bad := [])
    rw [fresh_eq g hg] at this
    exact this
  have hrec : ∀ data : Str, data.length < 4294967296 → WriteOk ⟨data, ⟨1, (madeT w).seq, (madeT w).keys, []⟩⟩ := fun data h => ⟨⟨(madeT_ok hw).1.1, by simp⟩, h⟩
  have hright : ∀ s : Int, 0 ≤ s → s ≤ 1099511627776 → rightT ⟨1, s, (madeT w).keys, []⟩ = true := fun s h1 h2 => by
    unfold rightT
    simp only [hkeys, if_true]
    rw [decide_eq_true h1, decide_eq_true h2]; rfl
  have e1 : ∃ p : Page, putD (fresh g) ⟨[97], ⟨1, (madeT w).seq, (madeT w).keys, []⟩⟩ [] = (⟨g, wrote1 g p, applyT (fresh g).table ⟨0, ⟨1, 0, (madeT w).keys, []⟩⟩, 1, 0⟩, [], 0) := by
    unfold putD seqW
    rw [if_neg (by rw [makeT_ok2 (hright _ (by show (0 : Int) ≤ 0; omega) (by show (0 : Int) ≤ 1099511627776; omega)) (by simp)]; simp)]
    exact ⟨_, put1 _ _ g hg⟩
  obtain ⟨p, e1⟩ := e1
  have hd1 := putD_ok (w := ⟨[97], ⟨1, (madeT w).seq, (madeT w).keys, []⟩⟩) (fs := []) hd
  rw [e1] at hd1
  have e2 : ∃ q : Page, putD ⟨g, wrote1 g p, applyT (fresh g).table ⟨0, ⟨1, 0, (madeT w).keys, []⟩⟩, 1, 0⟩ ⟨[98], ⟨1, (madeT w).seq, (madeT w).keys, []⟩⟩ [] = (⟨g, wrote2 g p q, applyT (applyT (fresh g).table ⟨0, ⟨1, 0, (madeT w).keys, []⟩⟩) ⟨1, ⟨1, 1, (madeT w).keys, []⟩⟩, 2, 0⟩, [], 0) := by
    unfold putD seqW
    rw [if_neg (by rw [makeT_ok2 (hright _ (by show (0 : Int) ≤ 1; omega) (by show (1 : Int) ≤ 1099511627776; omega)) (by simp)]; simp)]
    exact ⟨_, put2 _ _ _ _ g hg⟩
  obtain ⟨q, e2⟩ := e2
  have hd2 := putD_ok (w := ⟨[98], ⟨1, (madeT w).seq, (madeT w).keys, []⟩⟩) (fs := []) hd1
  rw [e2] at hd2
  obtain ⟨l1, _⟩ := applyT_len (fresh g).table ⟨0, ⟨1, 0, (madeT w).keys, []⟩⟩
  obtain ⟨l2, _⟩ := applyT_len (applyT (fresh g).table ⟨0, ⟨1, 0, (madeT w).keys, []⟩⟩) ⟨1, ⟨1, 1, (madeT w).keys, []⟩⟩
  unfold G_law15_WriteOlder
  rw [s_awake, some_bind', Bool.not_true, cond_false, s_Small h0.1 h0.2, some_bind', hgg, s_Format (by simp), some_bind', fresh_eq g hg, s_law03_Made hw hn, some_bind', s_write_Put hd (hrec _ (by simp)), some_bind', e1, s_write_Put hd1 (hrec _ (by simp)), some_bind', e2]
  have hsec : (fresh g).geometry.sectors = g.sectors := rfl
  simp only [decide_true, Bool.not_true, cond_false, hsec]
  rw [decide_eq_true (by rw [l1]; exact k1), Bool.not_true, cond_false, decide_eq_true (by rw [l2, l1]; exact k1), Bool.not_true, cond_false]
  have hlen : (fresh g).table.map.length < 100 := by omega
  refine Older_L1 (by rw [l1]; exact k1) (by show (applyT _ _).map.length < 100; rw [l1]; exact hlen) hd2.2 (fun s hs hnn => ?_) (applyT (fresh g).table ⟨0, ⟨1, 0, (madeT w).keys, []⟩⟩).map.length N 0 0 (by simp) rfl (by rw [l1]; omega)
  have hs' : s < (fresh g).table.map.length := by rw [← l1]; exact hs
  exact older_tables (m := g.sectors.toNat) (fun k hk => (hrange k hk).1) s (by simpa [fresh] using hs') hnn
end Clk
namespace Clk
open Go
theorem row_mem {k : IntKind} {w : World} {a : Option Addr} {len cap : Nat} {zs : List Int} (h : IsRow k w a len cap zs) : ∀ n ∈ zs.take len, (Lit.int k n).wf = true := by
  intro n hn
  rcases h with ⟨_, _, _, rfl⟩ | ⟨_, _, _, _, _, _, h⟩
  · simp at hn
  · exact h n (List.mem_of_mem_take hn)
theorem row_len {k : IntKind} {w : World} {a : Option Addr} {len cap : Nat} {zs : List Int} (h : IsRow k w a len cap zs) : (zs.take len).length < 9223372036854775808 := by
  rcases h with ⟨_, _, _, rfl⟩ | ⟨_, _, h1, h2, h3, _, _⟩
  · simp
  · have : maxLen = 9223372036854775807 := rfl
    simp only [List.length_take]; omega
theorem wf_u8 {n : Int} (h : (Lit.int .u8 n).wf = true) : 0 ≤ n ∧ n < 256 := by
  simp [Lit.wf, IntKind.min, IntKind.max, IntKind.signed, IntKind.bits] at h
  omega
theorem wf_u16 {n : Int} (h : (Lit.int .u16 n).wf = true) : 0 ≤ n ∧ n < 65536 := by
  simp [Lit.wf, IntKind.min, IntKind.max, IntKind.signed, IntKind.bits] at h
  omega
theorem litU8 {n : Int} (h : (Lit.int .u8 n).wf = true) : 0 ≤ n ∧ n < 256 := wf_u8 h
theorem rowU16 {w : World} {a : Option Addr} {len cap : Nat} {zs : List Int} (h : IsRow .u16 w a len cap zs) : U16 (zs.take len) := fun n hn => wf_u16 (row_mem h n hn)
theorem rowLen {k : IntKind} {w : World} {a : Option Addr} {len cap : Nat} {zs : List Int} (h : IsRow k w a len cap zs) : (zs.take len).length < 9223372036854775808 := row_len h
end Clk
