/- A part of the proof of ScanErase: an evaluator of the program's code that the kernel runs, its soundness, what the functions compute. -/
import Derived.Test.YtpncgjcflkhemaaPartF
import Derived.KernelRfl
import Derived.ChangeSlices
set_option linter.unusedVariables false
set_option linter.unusedSimpArgs false
namespace Clk
open Go
set_option linter.unusedVariables false
theorem encT_len (r : Record) (data : Str) : (encT r data).1.length ≤ 204 := by
 unfold encT
 split
 · simp
 · rename_i h
   have := bodyT_len (r := r) (by cases hr : rightT r with
    | true => rfl
    | false => exact absurd (.inl hr) h)
   simp only [List.length_append, bytes4, List.length_cons, List.length_nil]; omega
theorem makeT_ok {w : Write} (h : WriteOk w) : PageOk (makeT w).1 := by
 have := encT_len w.record w.data
 unfold makeT
 split
 · exact ⟨by simp, by simp⟩
 · exact ⟨by simp only; omega, h.2⟩
def pgT (seq : Int) (l : List Int) : Page := (makeT ⟨[100], ⟨(madeT l).kind, seq, (madeT l).keys, (madeT l).values⟩⟩).1
theorem pgT_w {l : List Int} (hl : U16 l) (seq : Int) : WriteOk ⟨[100], ⟨(madeT l).kind, seq, (madeT l).keys, (madeT l).values⟩⟩ := ⟨(madeT_ok hl).1, by simp⟩
theorem s_law06_Page {seq : Int} {l : List Int} (hl : U16 l) (hn : l.length < 9223372036854775808) : S_law06_Page (seq, l) = some (pgT seq l) := by
 show G_law06_Page seq l = _
 unfold G_law06_Page
 rw [s_law03_Made hl hn, some_bind', s_ref04_Make (pgT_w hl seq)]; rfl
def nextAt (l : List Int) (a : Nat) : Nat := min (a + 1 + (l.getD a 0).toNat / 50 % 8) l.length
def stepC (l : List Int) (m : Int) (a : Nat) (c : Chip) : Chip :=
 let n := l.getD a 0
 let page := pgT (n / 7 % 30) ((l.drop a).take (nextAt l a - a))
 let f : Fate := if n % 11 = 0 then ⟨1, [120], page.tag, 0⟩ else zFate
 let c1 := if n % 29 = 0 then (eraT c (n % m) zFate).1 else c
 let r := progT c1 (n % m) (nextOf c1 (n % m)) page f
 if r.2 = 1 then c1 else r.1
def chipL (l : List Int) (m : Int) : Nat → Nat → Chip → Chip
 | 0, _, c => c
 | k + 1, a, c => if a < l.length then chipL l m k (max (nextAt l a) (a + 1)) (stepC l m a c) else c
def chipT (l : List Int) (blocks pages : Int) : Chip := chipL l blocks 40 0 (newT blocks pages []).1
theorem eraT_ok {c : Chip} (h : ChipOk c) (b : Int) (f : Fate) : ChipOk (eraT c b f).1 ∧ (eraT c b f).1.blocks.length = c.blocks.length := by
 unfold eraT
 split
 · exact ⟨h, rfl⟩
 · split
   · rename_i hc
     unfold canEra at hc
     simp only [Bool.and_eq_true, decide_eq_true_eq] at hc
     refine ⟨⟨by simpa using h.1, fun x hx => ?_⟩, by simp⟩
     rcases List.mem_or_eq_of_mem_set hx with h3 | rfl
     · exact h.2 x h3
     · have := h.get (show b.toNat < c.blocks.length by omega) default
       unfold eraBlock
       split
       · exact this
       · simp only [clrT_len]; exact this
   · exact ⟨h, rfl⟩
theorem clrT_ok (all : Bool) (n : Int) : ∀ (i : Nat) (l : List Page), (∀ p ∈ l, PageOk p) → ∀ p ∈ clrT all n i l, PageOk p
 | _, [], _, p, hp => by cases hp
 | i, q :: l, h, p, hp => by
   unfold clrT at hp
   rcases List.mem_cons.1 hp with rfl | hp
   · split
     · exact ⟨by simp [zPage], by simp [zPage]⟩
     · exact h _ List.mem_cons_self
   · exact clrT_ok all n (i + 1) l (fun x hx => h x (List.mem_cons_of_mem _ hx)) p hp
theorem eraT_pages {c : Chip} (h : PagesOk c) (b : Int) (f : Fate) : PagesOk (eraT c b f).1 := by
 unfold eraT
 split
 · exact h
 · split
   · rename_i hc
     unfold canEra at hc
     simp only [Bool.and_eq_true, decide_eq_true_eq] at hc
     intro x hx
     rcases List.mem_or_eq_of_mem_set hx with h3 | rfl
     · exact h x h3
     · have := h _ (getD_mem' (d := default) (show b.toNat < c.blocks.length by omega))
       unfold eraBlock
       split
       · exact this
       · exact clrT_ok _ _ 0 _ this
   · exact h
theorem progT_pages {c : Chip} (h : PagesOk c) (b p : Int) {page : Page} {f : Fate} (hp : PageOk page) (hf : f.tag.length < 4294967296 ∧ f.data.length < 4294967296) : PagesOk (progT c b p page f).1 := by
 unfold progT
 split
 · exact h
 · split
   · rename_i hc
     obtain ⟨h1, h2, _⟩ := canProg_iff.1 hc
     intro x hx
     rcases List.mem_or_eq_of_mem_set hx with h3 | rfl
     · exact h x h3
     · have h4 := h _ (getD_mem' (d := default) (show b.toNat < c.blocks.length by omega))
       unfold newBlock
       intro q hq
       rcases List.mem_or_eq_of_mem_set hq with h5 | rfl
       · exact h4 q h5
       · split
         · exact ⟨hp.1, hp.2⟩
         · exact hf
   · exact h
theorem U16.sub {l m : List Int} (h : U16 l) (hm : ∀ n ∈ m, n ∈ l) : U16 m := fun n hn => h n (hm n hn)
theorem U16.part {l : List Int} (h : U16 l) (a k : Nat) : U16 ((l.drop a).take k) := h.sub fun n hn => List.mem_of_mem_drop (List.mem_of_mem_take hn)
structure CI (c : Chip) (m : Int) : Prop where
 ok : ChipOk c
 pages : PagesOk c
 len : (c.blocks.length : Int) = m
theorem stepC_ok {l : List Int} (hl : U16 l) {m : Int} {a : Nat} {c : Chip} (h : CI c m) : CI (stepC l m a c) m := by
 have h1 : CI (if l.getD a 0 % 29 = 0 then (eraT c (l.getD a 0 % m) zFate).1 else c) m := by
  split
  · exact ⟨(eraT_ok h.ok _ _).1, eraT_pages h.pages _ _, by rw [(eraT_ok h.ok _ _).2]; exact h.len⟩
  · exact h
 have h2 : PageOk (pgT (l.getD a 0 / 7 % 30) ((l.drop a).take (nextAt l a - a))) := makeT_ok (pgT_w (hl.part a _) _)
 have h3 : (if l.getD a 0 % 11 = 0 then (⟨1, [120], (pgT (l.getD a 0 / 7 % 30) ((l.drop a).take (nextAt l a - a))).tag, 0⟩ : Fate) else zFate).tag.length < 4294967296 ∧ (if l.getD a 0 % 11 = 0 then (⟨1, [120], (pgT (l.getD a 0 / 7 % 30) ((l.drop a).take (nextAt l a - a))).tag, 0⟩ : Fate) else zFate).data.length < 4294967296 := by
  split
  · exact ⟨h2.1, by simp⟩
  · exact ⟨by simp [zFate], by simp [zFate]⟩
 unfold stepC
 simp only
 generalize (if l.getD a 0 % 29 = 0 then (eraT c (l.getD a 0 % m) zFate).1 else c) = c1 at h1
 generalize (if l.getD a 0 % 11 = 0 then (⟨1, [120], (pgT (l.getD a 0 / 7 % 30) ((l.drop a).take (nextAt l a - a))).tag, 0⟩ : Fate) else zFate) = f at h3
 split
 · exact h1
 · exact ⟨progT_ok h1.ok _ _ _ _, progT_pages h1.pages _ _ h2 h3, by rw [progT_blocks]; exact h1.len⟩
theorem law06_Made_L1 {l : List Int} (hl : U16 l) (hn : l.length < 9223372036854775808) {m : Int} (hm : 0 < m) (hm2 : m < 4294967296) : ∀ (k N a : Nat) (ai i : Int) (c : Chip), ai = a → i = 40 - (k : Int) → k ≤ 40 → a + 10 * k ≤ 400 → CI c m → k < N → iterF F_law06_Made_L1 N (l, m, ai, i, c) = some (chipL l m k a c)
 | k, 0, _, _, _, _, _, _, _, _, _, h => by omega
 | 0, N + 1, a, ai, i, c, h1, h2, _, _, _, _ => by
   rw [iterF_succ, F_law06_Made_L1_eq]
   unfold G_law06_Made_L1
   simp only [chipL]
   rw [decide_eq_false (by omega), cond_false]
 | k + 1, N + 1, a, ai, i, c, h1, h2, h3, ha4, h4, h5 => by
   subst h1
   rw [iterF_succ, F_law06_Made_L1_eq]
   unfold G_law06_Made_L1
   simp only [Int.toNat_natCast, chipL]
   rw [decide_eq_true (show i < 40 by omega), cond_true]
   by_cases ha : a < l.length
   · rw [decide_eq_true (show (a : Int) < l.length by omega), cond_true, if_pos ha]
     have hg := hl.get a
     have hci := stepC_ok hl (a := a) h4
     have hna : nextAt l a ≤ a + 10 := by unfold nextAt; omega
     have ih := law06_Made_L1 hl hn hm hm2 k N (max (nextAt l a) (a + 1)) ((max (nextAt l a) (a + 1) : Nat) : Int) (w64 (i + 1)) _ rfl (by rw [w64_id (by omega) (by omega)]; omega) (by omega) (by omega) hci (by omega)
     rw [← ih]
     obtain ⟨q, hq⟩ : ∃ q : Nat, l.getD a 0 = q := ⟨(l.getD a 0).toNat, by omega⟩
     have hnx : nextAt l a = min (a + 1 + q / 50 % 8) l.length := by unfold nextAt; rw [hq]; rfl
     have b0 : ∀ m : Int, 0 < m → Int.tmod (q : Int) m = (q : Int) % m := fun m hm => Int.tmod_eq_emod_of_nonneg (by omega)
     have bm : 0 ≤ (q : Int) % m ∧ (q : Int) % m < m := ⟨Int.emod_nonneg _ (by omega), Int.emod_lt_of_pos _ hm⟩
     have d50 : Int.tdiv (q : Int) 50 = ((q / 50 : Nat) : Int) := tdiv_nat q 50
     have d7 : Int.tdiv (q : Int) 7 = ((q / 7 : Nat) : Int) := tdiv_nat q 7
     have m8 : Int.tmod ((q / 50 : Nat) : Int) 8 = ((q / 50 % 8 : Nat) : Int) := tmod_nat (q / 50) 8
     have m30 : Int.tmod ((q / 7 : Nat) : Int) 30 = ((q / 7 % 30 : Nat) : Int) := tmod_nat (q / 7) 30
     have m11 : Int.tmod (q : Int) 11 = (q : Int) % 11 := b0 11 (by omega)
     have m29 : Int.tmod (q : Int) 29 = (q : Int) % 29 := b0 29 (by omega)
     have emin : min (w64 (w64 ((a : Int) + 1) + ((q / 50 % 8 : Nat) : Int))) (l.length : Int) = ((nextAt l a : Nat) : Int) := by
      rw [w64_id (n := (a : Int) + 1) (by omega) (by omega), w64_id (by omega) (by omega), hnx]; omega
     have eseq : ((q / 7 % 30 : Nat) : Int) = l.getD a 0 / 7 % 30 := by rw [hq]; omega
     have hpage : S_law06_Page (((q / 7 % 30 : Nat) : Int), (l.drop a).take (Int.toNat ((nextAt l a : Nat) : Int) - a)) = some (pgT (l.getD a 0 / 7 % 30) ((l.drop a).take (nextAt l a - a))) := by
      rw [s_law06_Page (hl.part a _) (by simp only [List.length_take, List.length_drop]; omega), eseq, Int.toNat_natCast]
     have emax : max ((nextAt l a : Nat) : Int) (w64 ((a : Int) + 1)) = ((max (nextAt l a) (a + 1) : Nat) : Int) := by rw [w64_id (n := (a : Int) + 1) (by omega) (by omega)]; omega
     have wi : w64 (i + 1) = i + 1 := w64_id (by omega) (by omega)
     simp only [hq]
     rw [w64_id (n := (q : Int)) (by omega) (by omega), d50, d7, w64_id (n := ((q / 50 : Nat) : Int)) (by omega) (by omega), w64_id (n := ((q / 7 : Nat) : Int)) (by omega) (by omega), m8, m30, m11, m29, b0 m hm, emin, emax, hpage]
     simp only [some_bind', s_ref05_Erase h4.ok]
     rw [decide_eq_true (show (0 : Int) ≤ a by omega), decide_eq_false (show ¬ m = 0 by omega), decide_eq_true (show (a : Int) ≤ ((nextAt l a : Nat) : Int) by rw [hnx]; omega), decide_eq_true (show ((nextAt l a : Nat) : Int) ≤ l.length by rw [hnx]; omega), decide_eq_true bm.1]
     simp only [cond_true, Bool.not_false]
     have fin : ∀ (c1 : Chip) (f : Fate), CI c1 m → c1 = (if l.getD a 0 % 29 = 0 then (eraT c (l.getD a 0 % m) zFate).1 else c) → f = (if l.getD a 0 % 11 = 0 then (⟨1, [120], (pgT (l.getD a 0 / 7 % 30) ((l.drop a).take (nextAt l a - a))).tag, 0⟩ : Fate) else zFate) →
      (cond (decide ((q : Int) % m < ((c1.blocks.length : Nat) : Int))) (Option.bind (S_ref05_Program (c1, (q : Int) % m, (c1.blocks.getD (Int.toNat ((q : Int) % m)) default).next, pgT (l.getD a 0 / 7 % 30) ((l.drop a).take (nextAt l a - a)), f)) fun r8 =>
      cond (!(decide (r8.2 = 1)))
       (iterF F_law06_Made_L1 N (l, m, ((max (nextAt l a) (a + 1) : Nat) : Int), (w64 (i + 1)), r8.1))
       (iterF F_law06_Made_L1 N (l, m, ((max (nextAt l a) (a + 1) : Nat) : Int), (w64 (i + 1)), c1))) none) = iterF F_law06_Made_L1 N (l, m, ((max (nextAt l a) (a + 1) : Nat) : Int), (w64 (i + 1)), stepC l m a c) := by
      intro c1 f hc1 e1 e2
      have est : stepC l m a c = if (progT c1 ((q : Int) % m) (nextOf c1 ((q : Int) % m)) (pgT (l.getD a 0 / 7 % 30) ((l.drop a).take (nextAt l a - a))) f).2 = 1 then c1 else (progT c1 ((q : Int) % m) (nextOf c1 ((q : Int) % m)) (pgT (l.getD a 0 / 7 % 30) ((l.drop a).take (nextAt l a - a))) f).1 := by
       rw [e1, e2, ← hq]; rfl
      rw [decide_eq_true (by rw [hc1.len]; exact bm.2), cond_true, s_ref05_Program hc1.ok, some_bind', est]
      show cond (!decide ((progT c1 ((q : Int) % m) (nextOf c1 ((q : Int) % m)) (pgT (l.getD a 0 / 7 % 30) ((l.drop a).take (nextAt l a - a))) f).2 = 1)) _ _ = _
      by_cases h : (progT c1 ((q : Int) % m) (nextOf c1 ((q : Int) % m)) (pgT (l.getD a 0 / 7 % 30) ((l.drop a).take (nextAt l a - a))) f).2 = 1
      · rw [decide_eq_true h, Bool.not_true, cond_false, if_pos h]
      · rw [decide_eq_false h, Bool.not_false, cond_true, if_neg h]; rfl
     have hce : CI (eraT c ((q : Int) % m) zFate).1 m := ⟨(eraT_ok h4.ok _ _).1, eraT_pages h4.pages _ _, by rw [(eraT_ok h4.ok _ _).2]; exact h4.len⟩
     by_cases x11 : (q : Int) % 11 = 0
     · rw [decide_eq_true x11, cond_true]
       by_cases x29 : (q : Int) % 29 = 0
       · rw [decide_eq_true x29, cond_true]
         exact fin _ _ hce (by rw [hq, if_pos x29] <;> rfl) (by rw [hq, if_pos x11])
       · rw [decide_eq_false x29, cond_false]
         exact fin _ _ h4 (by rw [hq, if_neg x29]) (by rw [hq, if_pos x11])
     · rw [decide_eq_false x11, cond_false]
       by_cases x29 : (q : Int) % 29 = 0
       · rw [decide_eq_true x29, cond_true]
         exact fin _ _ hce (by rw [hq, if_pos x29] <;> rfl) (by rw [hq, if_neg x11]; rfl)
       · rw [decide_eq_false x29, cond_false]
         exact fin _ _ h4 (by rw [hq, if_neg x29]) (by rw [hq, if_neg x11]; rfl)
   · rw [decide_eq_false (show ¬ (a : Int) < l.length by omega), cond_false, if_neg ha]
theorem newL_nil (n : Int) (bs : List Block) : newL n [] bs = (⟨bs, false, false, 0⟩, 0) := rfl
theorem chipL_ok {l : List Int} (hl : U16 l) {m : Int} : ∀ (k a : Nat) (c : Chip), CI c m → CI (chipL l m k a c) m
 | 0, a, c, h => h
 | k + 1, a, c, h => by
   unfold chipL
   split
   · exact chipL_ok hl k _ _ (stepC_ok hl h)
   · exact h
end Clk
namespace Clk
open Go
set_option linter.unusedVariables false
end Clk
namespace Clk
open Go
set_option linter.unusedVariables false
theorem ofNat_toNat {n : Nat} (h : n < 256) : (UInt8.ofNat n).toNat = n := by simp; omega
theorem take_putN : ∀ (f n acc u : Nat) (first : Bool) (rest : Str), n < 128 ^ (f + 1) → acc + n * u ≤ 1099511627776 → (first = true ∨ 0 < n) → takeN (f + 1) first acc u (putN f n ++ rest) = (((acc + n * u : Nat) : Int), rest, true)
 | 0, n, acc, u, first, rest, h1, h2, h3 => by
   have hn : n < 128 := by simpa using h1
   simp only [putN, List.singleton_append, takeN, ofNat_toNat (show n < 256 by omega)]
   rw [if_pos hn, if_neg]
   rintro (h | ⟨h, h'⟩)
   · omega
   · rcases h3 with h3 | h3
     · rw [h3] at h; cases h
     · omega
 | f + 1, n, acc, u, first, rest, h1, h2, h3 => by
   unfold putN
   by_cases hn : 127 < n
   · rw [if_pos hn]
     simp only [List.cons_append, takeN, ofNat_toNat (show 128 + n % 128 < 256 by omega)]
     have e1 : (128 + n % 128) % 128 = n % 128 := by omega
     have e2 : acc + n % 128 * u + n / 128 * (u * 128) = acc + n * u := by
      have : n * u = n % 128 * u + n / 128 * (u * 128) := by
       have h := Nat.div_add_mod n 128
       calc n * u = (128 * (n / 128) + n % 128) * u := by rw [h]
        _ = n % 128 * u + n / 128 * (u * 128) := by rw [Nat.add_mul, Nat.add_comm]; congr 1; rw [Nat.mul_comm 128, Nat.mul_assoc, Nat.mul_comm 128]
      omega
     rw [if_neg (by omega), e1, take_putN f (n / 128) _ _ false rest (by rw [Nat.pow_succ] at h1; omega) (by rw [e2]; exact h2) (.inr (by omega)), e2]
   · rw [if_neg hn]
     simp only [List.singleton_append, takeN, ofNat_toNat (show n < 256 by omega)]
     rw [if_pos (by omega), if_neg]
     rintro (h | ⟨h, h'⟩)
     · omega
     · rcases h3 with h3 | h3
       · rw [h3] at h; cases h
       · omega
def Small40 (n : Int) : Prop := 0 ≤ n ∧ n ≤ 1099511627776
theorem take_putV {n : Int} (h : Small40 n) (rest : Str) : takeT (putV n ++ rest) = (n, rest, true) := by
 unfold putV takeT
 rw [if_neg (by have := h.1; have := h.2; omega)]
 obtain ⟨h1, h2⟩ := h
 rw [take_putN 5 n.toNat 0 1 true rest (by have : (128 : Nat) ^ (5 + 1) = 4398046511104 := rfl; omega) (by omega) (.inl rfl)]
 have : ((0 + n.toNat * 1 : Nat) : Int) = n := by omega
 rw [this]
def flatP (l : List Int) : Str := l.flatMap putV
theorem packL_flat : ∀ (l : List Int) (s : Str), (∀ n ∈ l, Small40 n) → packL l s = (s ++ flatP l, 0)
 | [], s, _ => by simp [packL, flatP]
 | n :: l, s, h => by
   obtain ⟨h1, h2⟩ := h n List.mem_cons_self
   unfold packL
   have : putV n ≠ [] := by unfold putV; rw [if_neg (by omega)]; exact putN_ne 5 _
   rw [if_neg this, packL_flat l _ fun m hm => h m (List.mem_cons_of_mem _ hm)]
   simp [flatP]
theorem flatP_len : ∀ (l : List Int), (∀ n ∈ l, Small40 n) → l.length ≤ (flatP l).length
 | [], _ => Nat.zero_le _
 | n :: l, h => by
   obtain ⟨h1, h2⟩ := h n List.mem_cons_self
   have h3 := flatP_len l fun m hm => h m (List.mem_cons_of_mem _ hm)
   have : putV n ≠ [] := by unfold putV; rw [if_neg (by omega)]; exact putN_ne 5 _
   have : 0 < (putV n).length := List.length_pos_iff.2 this
   simp only [flatP, List.flatMap_cons, List.length_append, List.length_cons] at h3 ⊢
   omega
theorem unpackL_flat : ∀ (l : List Int) (rest : Str) (acc : List Int), (∀ n ∈ l, Small40 n) → unpackL l.length (flatP l ++ rest) acc = (acc ++ l, rest, 0)
 | [], rest, acc, _ => by simp [unpackL, flatP]
 | n :: l, rest, acc, h => by
   have e : flatP (n :: l) ++ rest = putV n ++ (flatP l ++ rest) := by simp [flatP]
   simp only [List.length_cons, unpackL, e, take_putV (h n List.mem_cons_self)]
   rw [if_neg (by simp), unpackL_flat l rest _ fun m hm => h m (List.mem_cons_of_mem _ hm)]
   simp
theorem unpack_pack {l : List Int} (hl : ∀ n ∈ l, Small40 n) (hn : l.length ≤ 1099511627776) (rest : Str) : unpackT ((packT l).1 ++ rest) = (l, rest, 0) := by
 have hf := flatP_len l hl
 have e : (packT l).1 ++ rest = putV l.length ++ (flatP l ++ rest) := by unfold packT; rw [packL_flat l _ hl]; simp
 unfold unpackT
 rw [e, take_putV ⟨by omega, by omega⟩]
 simp only
 rw [if_neg (by simp; omega), Int.toNat_natCast, unpackL_flat l rest [] hl]
 simp
theorem mv_mov {l : List Int} (h : l.all vr = true) : mvT (movT 1 l) = l := by
 unfold mvT movT
 rw [List.map_map]
 conv => rhs; rw [← List.map_id l]
 refine List.map_congr_left fun n hn => ?_
 have := vr_range h n hn
 show w64 (w64 (n + 1) - 1) = n
 rw [w64_id (n := n + 1) (by omega) (by omega), w64_id (by omega) (by omega)]; omega
theorem dec_enc {r : Record} {data : Str} (h : rightT r = true) (hd : data.length ≤ 16) : decT (encT r data).1 data = (r, 0) := by
 obtain ⟨k0, k1, k2, k3, k4, k5, k6, k7⟩ := rightT_len h
 have hk : ∀ n ∈ r.keys, Small40 n := fun n hn => by have := keysT_range k7 n hn; exact ⟨by omega, by omega⟩
 have hv : ∀ n ∈ movT 1 r.values, Small40 n := fun n hn => by
  unfold movT at hn
  obtain ⟨m, hm, rfl⟩ := List.mem_map.1 hn
  have := vr_range k6 m hm
  rw [w64_id (by omega) (by omega)]; exact ⟨by omega, by omega⟩
 have hh : ∀ n ∈ [r.kind, r.seq], Small40 n := fun n hn => by
  simp only [List.mem_cons, List.not_mem_nil, or_false] at hn
  rcases hn with rfl | rfl
  · exact ⟨by omega, by omega⟩
  · exact ⟨k3, k4⟩
 have hml : (movT 1 r.values).length = r.values.length := by simp [movT]
 have hE : encT r data = (bodyT r ++ bytes4 (crcT (bodyT r ++ data)), 0) := by
  unfold encT
  rw [if_neg]
  rintro (h1 | h1)
  · rw [h] at h1; cases h1
  · omega
 generalize hX : bytes4 (crcT (bodyT r ++ data)) = X at hE
 have u1 : unpackT (encT r data).1 = ([r.kind, r.seq], (packT r.keys).1 ++ ((packT (movT 1 r.values)).1 ++ X), 0) := by
  rw [hE]
  unfold bodyT
  simp only [List.append_assoc]
  exact unpack_pack hh (by simp) _
 have u2 : unpackT ((packT r.keys).1 ++ ((packT (movT 1 r.values)).1 ++ X)) = (r.keys, (packT (movT 1 r.values)).1 ++ X, 0) := unpack_pack hk (by omega) _
 have u3 : unpackT ((packT (movT 1 r.values)).1 ++ X) = (movT 1 r.values, X, 0) := unpack_pack hv (by omega) _
 have hr : (⟨r.kind, r.seq, r.keys, mvT (movT 1 r.values)⟩ : Record) = r := by rw [mv_mov k6]
 unfold decT
 rw [u1]
 simp only
 rw [u2]
 simp only
 rw [u3]
 simp only [List.length_cons, List.length_nil]
 rw [if_neg (by simp)]
 have e0 : [r.kind, r.seq].getD 0 0 = r.kind := rfl
 have e1 : [r.kind, r.seq].getD 1 0 = r.seq := rfl
 rw [e0, e1, hr, if_neg]
 rw [hE]
 simp
def vv (b p : Nat) (pg : Page) : List Found := if (lookT pg).1 = 1 ∧ 0 ≤ placeT b p then [⟨placeT b p, (lookT pg).2⟩] else []
def vp (b : Nat) : Nat → List Page → List Found
 | _, [] => []
 | p, pg :: l => vv b p pg ++ vp b (p + 1) l
def vb : Nat → List Block → List Found
 | _, [] => []
 | b, x :: l => vp b 0 x.pages ++ vb (b + 1) l
theorem pagesT_fold (b : Nat) : ∀ (l : List Page) (p : Nat) (out : List Found), pagesT b p l out = (vp b p l).foldl insT out
 | [], p, out => rfl
 | pg :: l, p, out => by
   unfold pagesT vp vv
   rw [pagesT_fold b l (p + 1), List.foldl_append]
   split <;> rfl
theorem blocksT_fold : ∀ (l : List Block) (b : Nat) (out : List Found), blocksT b l out = (vb b l).foldl insT out
 | [], b, out => rfl
 | x :: l, b, out => by
   unfold blocksT vb
   rw [blocksT_fold l (b + 1), List.foldl_append, pagesT_fold]
theorem fold_mem : ∀ (B l : List Found) (y : Found), y ∈ B.foldl insT l ↔ y ∈ l ∨ y ∈ B
 | [], l, y => by simp
 | b :: B, l, y => by
   have hi : ∀ (l : List Found) (x : Found), y ∈ insT l x ↔ y = x ∨ y ∈ l := by
    intro l x
    induction l with
    | nil => simp [insT]
    | cons z l ih =>
      unfold insT
      split
      · simp
      · simp only [List.mem_cons, ih]
        constructor
        · rintro (h | h | h)
          · exact .inr (.inl h)
          · exact .inl h
          · exact .inr (.inr h)
        · rintro (h | h | h)
          · exact .inr (.inl h)
          · exact .inl h
          · exact .inr (.inr h)
   simp only [List.foldl_cons, fold_mem B, hi, List.mem_cons]
   constructor
   · rintro ((h | h) | h)
     · exact .inr (.inl h)
     · exact .inl h
     · exact .inr (.inr h)
   · rintro (h | h | h)
     · exact .inl (.inr h)
     · exact .inl (.inl h)
     · exact .inr h
end Clk
namespace Clk
open Go
set_option linter.unusedVariables false
end Clk
namespace Clk
open Go
set_option linter.unusedVariables false
theorem s_pack_finish (n : Int) (r : Str) (ok : Bool) : S_pack_finish (n, r, ok) = some (if ok = false ∨ 1099511627776 < n then (0, [], false) else (n, r, true)) := by
 show G_pack_finish n r ok = _
 unfold G_pack_finish
 cases ok with
 | false => simp
 | true =>
   by_cases h : 1099511627776 < n
   · rw [decide_eq_true h, if_pos (.inr h)]; rfl
   · rw [decide_eq_false h, if_neg (by simp; omega)]; rfl
theorem andNot_all : (List.range 256).map (fun c : Nat => w64 (bAndNot .i64 (w64 (c : Int)) 128)) = (List.range 256).map (fun c : Nat => ((c % 128 : Nat) : Int)) := by kernel_rfl
theorem pow_all : (List.range 6).map (fun k : Nat => (w64 (7 * (k : Int)), (2 : Int) ^ (min (Int.toNat (w64 (7 * (k : Int)))) 64))) = (List.range 6).map (fun k : Nat => (((7 * k : Nat) : Int), ((128 ^ k : Nat) : Int))) := by kernel_rfl
theorem andNot128 {c : Nat} (h : c < 256) : w64 (bAndNot .i64 (w64 (c : Int)) 128) = ((c % 128 : Nat) : Int) := by
 have := congrArg (fun l => l[c]?) andNot_all
 simpa only [List.getElem?_map, List.getElem?_range h, Option.map_some, Option.some.injEq] using this
theorem pow7 {k : Nat} (h : k < 6) : w64 (7 * (k : Int)) = ((7 * k : Nat) : Int) ∧ (2 : Int) ^ (min (Int.toNat (w64 (7 * (k : Int)))) 64) = ((128 ^ k : Nat) : Int) := by
 have := congrArg (fun l => l[k]?) pow_all
 simp only [List.getElem?_map, List.getElem?_range h, Option.map_some, Option.some.injEq, Prod.mk.injEq] at this
 exact this
theorem or_add {n m k : Nat} (h : n < 128 ^ k) : n ||| m * 128 ^ k = n + m * 128 ^ k := by
 have e : 128 ^ k = 2 ^ (7 * k) := by rw [Nat.pow_mul]
 rw [e] at h ⊢
 have := Nat.two_pow_add_eq_or_of_lt h m
 rw [Nat.or_comm, Nat.mul_comm m, ← this]; omega
theorem pack_Take_L1 {s : Str} (hs : s.length < 4294967296) : ∀ (f N : Nat) (l : Str) (n k : Nat) (i cnt : Int), s.drop k = l → i = k → cnt = min (s.length : Int) 6 → k + f = 6 → n < 128 ^ k → f < N → iterF F_pack_Take_L1 N (s, n, cnt, i) = some (takeN f (k == 0) n (128 ^ k) l)
 | f, 0, _, _, _, _, _, _, _, _, _, _, h => by omega
 | 0, N + 1, l, n, k, i, cnt, h1, h2, hc, h3, h4, h6 => by
   rw [iterF_succ, F_pack_Take_L1_eq]
   unfold G_pack_Take_L1
   simp only [takeN]
   rw [decide_eq_false (show ¬ i < cnt by omega), cond_false]
 | f + 1, N + 1, [], n, k, i, cnt, h1, h2, hc, h3, h4, h6 => by
   have := drop_nil h1
   rw [iterF_succ, F_pack_Take_L1_eq]
   unfold G_pack_Take_L1
   simp only [takeN]
   rw [decide_eq_false (show ¬ i < cnt by omega), cond_false]
 | f + 1, N + 1, c :: l, n, k, i, cnt, h1, h2, hcn, h3, h4, h6 => by
   obtain ⟨g1, g2, g3⟩ := drop_cons h1
   subst h2
   have hc := u8_lt c
   have hu : 128 ^ k ≤ 34359738368 := Nat.le_trans (Nat.pow_le_pow_right (by omega) (show k ≤ 5 by omega)) (by decide)
   have hu0 : 0 < 128 ^ k := Nat.pow_pos (by omega)
   have hm2 : c.toNat % 128 * 128 ^ k ≤ 127 * 128 ^ k := Nat.mul_le_mul (by omega) (Nat.le_refl _)
   obtain ⟨p1, p2⟩ := pow7 (show k < 6 by omega)
   have hor : w64 (bOr .i64 (n : Int) (w64 ((w64 (bAndNot .i64 (w64 (c.toNat : Int)) 128)) * 2 ^ (min (Int.toNat (w64 (7 * (k : Int)))) 64)))) = ((n + c.toNat % 128 * 128 ^ k : Nat) : Int) := by
    rw [andNot128 hc, p2]
    have e2 : ((c.toNat % 128 : Nat) : Int) * ((128 ^ k : Nat) : Int) = ((c.toNat % 128 * 128 ^ k : Nat) : Int) := by push_cast; rfl
    rw [e2, w64_id (n := ((c.toNat % 128 * 128 ^ k : Nat) : Int)) (by omega) (by omega), bOr_nat (k := .i64) (show n < 2 ^ 64 by omega) (show c.toNat % 128 * 128 ^ k < 2 ^ 64 by omega), or_add h4, w64_id (by omega) (by omega)]
   rw [iterF_succ, F_pack_Take_L1_eq]
   unfold G_pack_Take_L1
   simp only [Int.toNat_natCast, g2, takeN]
   rw [decide_eq_true (show (k : Int) < cnt by omega), decide_eq_true (show (k : Int) < s.length by omega), decide_eq_true (show (0 : Int) ≤ k by omega), p1, decide_eq_true (show (0 : Int) ≤ ((7 * k : Nat) : Int) by omega)]
   rw [p1] at hor
   simp only [Int.toNat_natCast] at hor ⊢
   rw [hor, w64_id (n := (c.toNat : Int)) (by omega) (by omega), w64_id (n := (k : Int) + 1) (by omega) (by omega)]
   simp only [cond_true, s_pack_finish, some_bind']
   have e4 : Int.toNat ((k : Int) + 1) = k + 1 := by omega
   by_cases h7 : c.toNat < 128
   · have e3 : c.toNat % 128 = c.toNat := Nat.mod_eq_of_lt h7
     rw [decide_eq_true (show (c.toNat : Int) < 128 by omega), cond_true, if_pos h7, decide_eq_true (show (0 : Int) ≤ (k : Int) + 1 by omega), decide_eq_true (show (k : Int) + 1 ≤ s.length by omega), e4, g3, e3]
     simp only [cond_true]
     by_cases h9 : k = 0
     · subst h9
       rw [decide_eq_true (show ((0 : Nat) : Int) = 0 from rfl), cond_true]
       by_cases h8 : 1099511627776 < n + c.toNat * 128 ^ 0
       · rw [if_pos (.inr (by omega)), if_pos (.inl h8)]
       · rw [if_neg (by simp; omega), if_neg (by simp; omega)]
     · rw [decide_eq_false (show ¬ (k : Int) = 0 by omega), cond_false]
       by_cases h8 : 1099511627776 < n + c.toNat * 128 ^ k
       · rw [if_pos (.inr (by omega)), if_pos (.inl h8)]
       · by_cases h10 : c.toNat = 0
         · rw [if_pos (.inl (by simp; omega)), if_pos (.inr ⟨by simpa using h9, h10⟩)]
         · rw [if_neg (by rintro (h | h); simp at h; omega; omega), if_neg (by rintro (h | ⟨_, h⟩); exact h8 h; exact h10 h)]
   · rw [decide_eq_false (show ¬ (c.toNat : Int) < 128 by omega), cond_false, if_neg h7]
     have hn2 : n + c.toNat % 128 * 128 ^ k < 128 ^ (k + 1) := by rw [Nat.pow_succ]; omega
     have := pack_Take_L1 hs f N l (n + c.toNat % 128 * 128 ^ k) (k + 1) ((k : Int) + 1) cnt g3 (by omega) hcn (by omega) hn2 (by omega)
     rw [this, Nat.pow_succ]
     rfl
theorem s_pack_Take {s : Str} (hs : s.length < 4294967296) : S_pack_Take s = some (takeT s) := by
 refine lim_eq 7 fun N hN => ?_
 exact pack_Take_L1 hs 6 N s 0 0 0 _ rfl rfl rfl (by omega) (by omega) (by omega)
theorem pack_Unpack_L1 {n : Int} (hn : n < 4294967296) : ∀ (m N k : Nat) (i : Int) (s : Str) (acc : List Int), (k : Int) + m = n → i = k → s.length < 4294967296 → acc.length = k → m < N → iterF F_pack_Unpack_L1 N (s, n, i, acc) = some (unpackL m s acc)
 | m, 0, _, _, _, _, _, _, _, _, h => by omega
 | 0, N + 1, k, i, s, acc, h1, h2, h3, h4, h5 => by
   rw [iterF_succ, F_pack_Unpack_L1_eq]
   unfold G_pack_Unpack_L1
   simp only [unpackL]
   rw [decide_eq_false (by omega)]; rfl
 | m + 1, N + 1, k, i, s, acc, h1, h2, h3, h4, h5 => by
   rw [iterF_succ, F_pack_Unpack_L1_eq]
   unfold G_pack_Unpack_L1
   simp only [unpackL, s_pack_Take h3, some_bind']
   rw [decide_eq_true (show i < n by omega), cond_true]
   have hl := takeT_len s
   cases hb : (takeT s).2.2 with
   | false => rfl
   | true =>
     rw [if_neg (by simp), Bool.not_true, cond_false]
     rw [decide_eq_true (by simp; omega), cond_true, decide_eq_true (by simp; omega), cond_true]
     exact pack_Unpack_L1 hn m N (k + 1) _ _ _ (by omega) (by rw [w64_id (by omega) (by omega)]; omega) (by omega) (by simp; omega) (by omega)
theorem s_pack_Unpack {s : Str} (hs : s.length < 4294967296) : S_pack_Unpack s = some (unpackT s) := by
 refine lim_eq (s.length + 1) fun N hN => ?_
 show G_pack_Unpack N s = _
 unfold G_pack_Unpack unpackT
 simp only [s_pack_Take hs, some_bind']
 have hl := takeT_len s
 have hn := takeT_nn s
 cases hb : (takeT s).2.2 with
 | false => rfl
 | true =>
   rw [Bool.not_true, cond_false]
   by_cases h1 : ((takeT s).2.1.length : Int) < (takeT s).1
   · rw [decide_eq_true h1, cond_true, if_pos (.inr h1)]
   · rw [decide_eq_false h1, cond_false, if_neg (by simp; omega)]
     exact pack_Unpack_L1 (by omega) _ N 0 0 _ _ (by omega) rfl (by omega) rfl (by omega)
def tagOk (s : Str) : Prop := (unpackT s).2.2 = 0 → (unpackT s).1.length = 2 → (unpackT (unpackT s).2.1).2.2 = 0
theorem s_tag_read {s : Str} (hs : s.length < 4294967296) (ht : tagOk s) : S_tag_read s = some (if (unpackT s).2.2 ≠ 0 ∨ (unpackT s).1.length ≠ 2 ∨ (unpackT (unpackT (unpackT s).2.1).2.1).2.2 ≠ 0 then (zRec, 30) else (⟨(unpackT s).1.getD 0 0, (unpackT s).1.getD 1 0, (unpackT (unpackT s).2.1).1, movT (-1) (unpackT (unpackT (unpackT s).2.1).2.1).1⟩, 0)) := by
 have q1 := unpackT_len s
 have q2 := unpackT_len (unpackT s).2.1
 have q3 := unpackT_len (unpackT (unpackT s).2.1).2.1
 unfold tagOk at ht
 show readF S_pack_Unpack (fun l => S_tag_moved (l, -1)) s = _
 unfold readF
 simp only [s_pack_Unpack hs]
 by_cases c1 : (unpackT s).2.2 = 0
 · rw [decide_eq_true c1, cond_true]
   by_cases c2 : (unpackT s).1.length = 2
   · rw [decide_eq_true c2, cond_true]
     simp only [s_pack_Unpack (show (unpackT s).2.1.length < 4294967296 by omega)]
     rw [decide_eq_true (ht c1 c2), cond_true]
     simp only [s_pack_Unpack (show (unpackT (unpackT s).2.1).2.1.length < 4294967296 by omega)]
     by_cases c3 : (unpackT (unpackT (unpackT s).2.1).2.1).2.2 = 0
     · rw [decide_eq_true c3, cond_true, if_neg (by simp [c1, c2, c3])]
       simp only [s_tag_moved (show (unpackT (unpackT (unpackT s).2.1).2.1).1.length < 4294967296 by omega)]
     · rw [decide_eq_false c3, cond_false, if_pos (.inr (.inr c3))]; rfl
   · rw [decide_eq_false c2, cond_false, if_pos (.inr (.inl c2))]; rfl
 · rw [decide_eq_false c1, cond_false, if_pos (.inl c1)]; rfl
theorem mv_mov1 (l : List Int) : movT (-1) l = mvT l := by unfold movT mvT; rfl
theorem s_tag_Decode {tag data : Str} (ht : tag.length < 4294967296) (hd : data.length < 4294967296) (hk : tagOk tag) : S_tag_Decode (tag, data) = some (decT tag data) := by
 have q1 := unpackT_len tag
 have q2 := unpackT_len (unpackT tag).2.1
 have q3 := unpackT_len (unpackT (unpackT tag).2.1).2.1
 show G_tag_Decode tag data = _
 unfold G_tag_Decode
 rw [s_tag_read ht hk, some_bind']
 unfold decT
 have hk' := hk
 unfold tagOk at hk'
 split
 · rename_i h
   rw [decide_eq_false (by decide), Bool.not_false, cond_true, if_pos (by
    rcases h with h | h | h
    · exact .inl h
    · exact .inr (.inr (.inr h))
    · exact .inr (.inr (.inl h)))]
   rfl
 · rename_i h
   simp only [not_or, Decidable.not_not] at h
   obtain ⟨c1, c2, c3⟩ := h
   rw [decide_eq_true rfl, Bool.not_true, cond_false, if_neg (by simp [c1, c2, c3, hk' c1 c2])]
   simp only
   rw [mv_mov1, s_tag_Encode ⟨by show (unpackT (unpackT tag).2.1).1.length < _; omega, by show (mvT _).length < _; unfold mvT; rw [List.length_map]; omega⟩ hd, some_bind']
   generalize ({ kind := _, seq := _, keys := _, values := _ } : Record) = r
   by_cases e1 : (encT r data).2 = 0
   · rw [decide_eq_true e1, Bool.not_true, cond_false]
     by_cases e2 : (encT r data).1 = tag
     · rw [decide_eq_true e2, Bool.not_true, cond_false, if_neg (by simp [e1, e2])]
     · rw [decide_eq_false e2, Bool.not_false, cond_true, if_pos (.inr e2)]; rfl
   · rw [decide_eq_false e1, Bool.not_false, cond_true, if_pos (.inl e1)]; rfl
theorem s_look_Look {p : Page} (h : PageOk p) (hk : tagOk p.tag) : S_look_Look p = some (lookT p) := by
 show G_look_Look p = _
 unfold G_look_Look lookT
 cases p.written with
 | false => rfl
 | true =>
   rw [Bool.not_true, cond_false, s_tag_Decode h.1 h.2 hk, some_bind', if_neg (by simp)]
   by_cases c : (decT p.tag p.data).2 = 0
   · rw [decide_eq_true c, cond_true, if_neg (by simp [c])]
   · rw [decide_eq_false c, cond_false, if_pos c]; rfl
end Clk
namespace Clk
open Go
set_option linter.unusedVariables false
def TagsOk (c : Chip) : Prop := ∀ b ∈ c.blocks, ∀ p ∈ b.pages, tagOk p.tag
theorem insF_eq : ∀ (l : List Found) (f : Found), insF l f = insT l f
 | [], f => rfl
 | x :: l, f => by
   unfold insF insT
   rw [insF_eq l f]
   rfl
theorem sortF_eq (l : List Found) : sortF l = l.foldl insT [] := by
 unfold sortF
 rw [show insF = insT from funext fun l => funext fun f => insF_eq l f]
theorem vv_place {b p : Nat} {pg : Page} {f : Found} (h : f ∈ vv b p pg) : f.place = 16 * (b : Int) + p ∧ p < 16 ∧ b < 32 := by
 unfold vv at h
 split at h
 · rename_i hc
   obtain ⟨h1, h2⟩ := place_nn hc.2
   simp at h
   subst h
   refine ⟨?_, h2, h1⟩
   show placeT b p = _
   unfold placeT
   rw [if_neg (by omega)]
   omega
 · cases h
theorem vp_place {b : Nat} : ∀ {l : List Page} {p : Nat} {f : Found}, f ∈ vp b p l → ∃ q : Nat, p ≤ q ∧ q < 16 ∧ b < 32 ∧ f.place = 16 * (b : Int) + q
 | [], p, f, h => by simp [vp] at h
 | pg :: l, p, f, h => by
   unfold vp at h
   rcases List.mem_append.1 h with h | h
   · obtain ⟨h1, h2, h3⟩ := vv_place h
     exact ⟨p, Nat.le_refl _, h2, h3, h1⟩
   · obtain ⟨q, h1, h2⟩ := vp_place h
     exact ⟨q, by omega, h2⟩
theorem vb_place : ∀ {l : List Block} {b : Nat} {f : Found}, f ∈ vb b l → ∃ c q : Nat, b ≤ c ∧ q < 16 ∧ f.place = 16 * (c : Int) + q
 | [], b, f, h => by simp [vb] at h
 | x :: l, b, f, h => by
   unfold vb at h
   rcases List.mem_append.1 h with h | h
   · obtain ⟨q, _, h2, _, h3⟩ := vp_place h
     exact ⟨b, q, Nat.le_refl _, h2, h3⟩
   · obtain ⟨c, q, h1, h2⟩ := vb_place h
     exact ⟨c, q, by omega, h2⟩
theorem vv_pair (b p : Nat) (pg : Page) : (vv b p pg).Pairwise (fun x y => x.place < y.place) := by
 unfold vv; split <;> simp
theorem vp_pair (b : Nat) : ∀ (l : List Page) (p : Nat), (vp b p l).Pairwise (fun x y => x.place < y.place)
 | [], p => by simp [vp]
 | pg :: l, p => by
   unfold vp
   refine List.pairwise_append.2 ⟨vv_pair b p pg, vp_pair b l (p + 1), fun x hx y hy => ?_⟩
   obtain ⟨h1, _, _⟩ := vv_place hx
   obtain ⟨q, h2, _, _, h3⟩ := vp_place hy
   omega
theorem vb_pair : ∀ (l : List Block) (b : Nat), (vb b l).Pairwise (fun x y => x.place < y.place)
 | [], b => by simp [vb]
 | x :: l, b => by
   unfold vb
   refine List.pairwise_append.2 ⟨vp_pair b _ 0, vb_pair l (b + 1), fun x hx y hy => ?_⟩
   obtain ⟨q, _, h1, _, h2⟩ := vp_place hx
   obtain ⟨c, r, h3, _, h4⟩ := vb_place hy
   omega
theorem dist_pair : ∀ {l : List Found}, l.Pairwise (fun x y => x.place < y.place) → distF l = true
 | [], _ => rfl
 | x :: l, h => by
   rw [List.pairwise_cons] at h
   unfold distF
   rw [Bool.and_eq_true]
   refine ⟨List.all_eq_true.2 fun y hy => ?_, dist_pair h.2⟩
   have := h.1 y hy
   simp only [Bool.not_eq_true', decide_eq_false_iff_not, Prod.mk.injEq]
   omega
theorem vv_len (b p : Nat) (pg : Page) : (vv b p pg).length ≤ 1 := by unfold vv; split <;> simp
theorem pAll_L2 {M : List Block × Int × Int × List Found → Option (List Found)} {bs : List Block} {n : Int} {b : Nat} {pgs : List Page} (hs : pgs.length < 4294967296) (hb : b < 4294967296) (hp : ∀ p ∈ pgs, PageOk p) (ht : ∀ p ∈ pgs, tagOk p.tag) : ∀ (l : List Page) (N p : Nat) (i : Int) (out : List Found), pgs.drop p = l → i = p → out.length ≤ min (16 * b + min p 16) 512 → l.length < N →
 iterF (F_scan_All_L2 M) N ((b : Int), bs, n, (b : Int), pgs, (pgs.length : Int), i, out) = M (bs, n, ((b + 1 : Nat) : Int), out ++ vp b p l)
 | l, 0, _, _, _, _, _, _, h => by omega
 | [], N + 1, p, i, out, h1, h2, h3, _ => by
   have h4 := drop_nil h1
   rw [iterF_succ, F_scan_All_L2_eq]
   unfold G_scan_All_L2
   simp only [vp, List.append_nil]
   rw [decide_eq_false (by omega), cond_false, w64_id (by omega) (by omega)]
   rfl
 | pg :: l, N + 1, p, i, out, h1, h2, h3, h5 => by
   obtain ⟨g1, g2, g3⟩ := drop_cons h1
   subst h2
   have hmem : pg ∈ pgs := by rw [← g2 default]; exact getD_mem' g1
   simp at h5
   have hv := vv_len b p pg
   have hv2 : vv b p pg ≠ [] → b < 32 ∧ p < 16 := fun h => by
    cases hvv : vv b p pg with
    | nil => exact absurd hvv h
    | cons f r => have := vv_place (f := f) (by rw [hvv]; simp); omega
   have hlen : (out ++ vv b p pg).length ≤ min (16 * b + min (p + 1) 16) 512 := by
    rw [List.length_append]
    by_cases hvv : vv b p pg = []
    · rw [hvv]; simp; omega
    · have := hv2 hvv; omega
   have ih := pAll_L2 (M := M) (bs := bs) (n := n) hs hb hp ht l N (p + 1) ((p : Int) + 1) (out ++ vv b p pg) g3 (by omega) hlen (by omega)
   rw [iterF_succ, F_scan_All_L2_eq]
   unfold G_scan_All_L2
   simp only [Int.toNat_natCast, g2, vp]
   rw [decide_eq_true (show (p : Int) < (pgs.length : Int) by omega), decide_eq_true (show (0 : Int) ≤ p by omega)]
   simp only [cond_true, s_scan_Place, some_bind']
   rw [w64_id (n := (p : Int) + 1) (by omega) (by omega), s_look_Look (hp pg hmem) (ht pg hmem), some_bind', ← List.append_assoc, ← ih]
   by_cases c1 : 0 ≤ placeT b p
   · rw [decide_eq_true c1, cond_true]
     by_cases c2 : (lookT pg).1 = 1
     · rw [decide_eq_true c2, cond_true]
       have e : vv b p pg = [⟨placeT b p, (lookT pg).2⟩] := by unfold vv; rw [if_pos ⟨c2, c1⟩]
       rw [e] at hlen ⊢
       rw [decide_eq_true (by simp at hlen ⊢; omega), cond_true, decide_eq_true (by simp at hlen ⊢; omega), cond_true]
     · rw [decide_eq_false c2, cond_false]
       have e : vv b p pg = [] := by unfold vv; rw [if_neg (fun h => c2 h.1)]
       rw [e, List.append_nil]
   · rw [decide_eq_false c1, cond_false]
     have e : vv b p pg = [] := by unfold vv; rw [if_neg (fun h => c1 h.2)]
     rw [e, List.append_nil]
theorem vp_len (b : Nat) : ∀ (l : List Page) (p : Nat), (vp b p l).length ≤ 16 - min p 16 ∧ (32 ≤ b → vp b p l = [])
 | [], p => by simp [vp]
 | pg :: l, p => by
   unfold vp
   obtain ⟨h1, h2⟩ := vp_len b l (p + 1)
   have hv := vv_len b p pg
   have hv2 : vv b p pg ≠ [] → b < 32 ∧ p < 16 := fun h => by
    cases hvv : vv b p pg with
    | nil => exact absurd hvv h
    | cons f r => have := vv_place (f := f) (by rw [hvv]; simp); omega
   by_cases hvv : vv b p pg = []
   · rw [hvv]; simp only [List.nil_append]; exact ⟨by omega, h2⟩
   · obtain ⟨h3, h4⟩ := hv2 hvv
     rw [List.length_append]
     exact ⟨by omega, fun h => by omega⟩
theorem pAll_L1 {c : Chip} (hc : ChipOk c) (hp : PagesOk c) (ht : TagsOk c) {M : Nat} (hM : ∀ b ∈ c.blocks, b.pages.length < M) : ∀ (l : List Block) (N b : Nat) (i : Int) (out : List Found), c.blocks.drop b = l → i = b → out.length ≤ min (16 * b) 512 → (out ++ vb b l).Pairwise (fun x y => x.place < y.place) → l.length < N →
 iterF (F_scan_All_L1 M) N (c.blocks, (c.blocks.length : Int), i, out) = some (sortF (out ++ vb b l))
 | l, 0, _, _, _, _, _, _, _, h => by omega
 | [], N + 1, b, i, out, h1, h2, h3, h6, _ => by
   have h4 := drop_nil h1
   rw [iterF_succ, F_scan_All_L1_eq]
   unfold G_scan_All_L1
   simp only [vb, List.append_nil] at h6 ⊢
   rw [decide_eq_false (by omega), cond_false, dist_pair h6, cond_true, decide_eq_true (by omega), cond_true]
 | x :: l, N + 1, b, i, out, h1, h2, h3, h6, h5 => by
   obtain ⟨g1, g2, g3⟩ := drop_cons h1
   subst h2
   have hmem : x ∈ c.blocks := by rw [← g2 default]; exact getD_mem' g1
   have hb := hc.1
   simp at h5
   rw [iterF_succ, F_scan_All_L1_eq]
   unfold G_scan_All_L1
   simp only [Int.toNat_natCast, g2, vb]
   rw [decide_eq_true (show (b : Int) < (c.blocks.length : Int) by omega), decide_eq_true (show (0 : Int) ≤ b by omega)]
   simp only [cond_true]
   rw [pAll_L2 (hc.2 x hmem) (by omega) (fun p h => hp x hmem p h) (fun p h => ht x hmem p h) x.pages M 0 0 out rfl rfl (by omega) (hM x hmem), ← List.append_assoc]
   obtain ⟨k1, k2⟩ := vp_len b x.pages 0
   have hlen : (out ++ vp b 0 x.pages).length ≤ min (16 * (b + 1)) 512 := by
    rw [List.length_append]
    by_cases h32 : 32 ≤ b
    · rw [k2 h32]; simp; omega
    · omega
   exact pAll_L1 hc hp ht hM l N (b + 1) _ _ g3 rfl hlen (by rw [List.append_assoc]; exact h6) (by omega)
theorem exists_bound {α : Type} (f : α → Nat) : ∀ (l : List α), ∃ M, ∀ x ∈ l, f x < M
 | [] => ⟨0, fun _ h => by cases h⟩
 | x :: l => by
   obtain ⟨M, h⟩ := exists_bound f l
   exact ⟨max M (f x + 1), fun y hy => by
    rcases List.mem_cons.1 hy with rfl | hy
    · omega
    · have := h y hy; omega⟩
theorem s_scan_All {c : Chip} (hc : ChipOk c) (hp : PagesOk c) (ht : TagsOk c) : S_scan_All c = some (allT c) := by
 obtain ⟨M, hM⟩ := exists_bound (fun b : Block => b.pages.length) c.blocks
 refine lim_eq (max M (c.blocks.length + 1)) fun N hN => ?_
 show G_scan_All N c = _
 unfold G_scan_All
 have := pAll_L1 hc hp ht (M := N) (fun b hb => by have := hM b hb; omega) c.blocks N 0 0 [] rfl rfl (by simp) (by rw [List.nil_append]; exact vb_pair _ 0) (by omega)
 rw [this, List.nil_append, sortF_eq]
 unfold allT
 rw [blocksT_fold]
end Clk
namespace Clk
open Go
set_option linter.unusedVariables false
def AllP (Q : Page → Prop) (c : Chip) : Prop := ∀ b ∈ c.blocks, ∀ p ∈ b.pages, Q p
theorem clrT_allP {Q : Page → Prop} (hz : Q zPage) (all : Bool) (n : Int) : ∀ (i : Nat) (l : List Page), (∀ p ∈ l, Q p) → ∀ p ∈ clrT all n i l, Q p
 | _, [], _, p, hp => by cases hp
 | i, q :: l, h, p, hp => by
   unfold clrT at hp
   rcases List.mem_cons.1 hp with rfl | hp
   · split
     · exact hz
     · exact h _ List.mem_cons_self
   · exact clrT_allP hz all n (i + 1) l (fun x hx => h x (List.mem_cons_of_mem _ hx)) p hp
theorem eraT_all {Q : Page → Prop} (hz : Q zPage) {c : Chip} (h : AllP Q c) (b : Int) (f : Fate) : AllP Q (eraT c b f).1 := by
 unfold eraT
 split
 · exact h
 · split
   · rename_i hc
     unfold canEra at hc
     simp only [Bool.and_eq_true, decide_eq_true_eq] at hc
     intro x hx
     rcases List.mem_or_eq_of_mem_set hx with h3 | rfl
     · exact h x h3
     · have := h _ (getD_mem' (d := default) (show b.toNat < c.blocks.length by omega))
       unfold eraBlock
       split
       · exact this
       · exact clrT_allP hz _ _ 0 _ this
   · exact h
theorem progT_all {Q : Page → Prop} {c : Chip} (h : AllP Q c) (b p : Int) {page : Page} {f : Fate} (hp : Q ⟨true, page.data, page.tag⟩) (hf : f.kind ≠ 0 → Q ⟨true, f.data, f.tag⟩) : AllP Q (progT c b p page f).1 := by
 unfold progT
 split
 · exact h
 · split
   · rename_i hc
     obtain ⟨h1, h2, _⟩ := canProg_iff.1 hc
     intro x hx
     rcases List.mem_or_eq_of_mem_set hx with h3 | rfl
     · exact h x h3
     · have h4 := h _ (getD_mem' (d := default) (show b.toNat < c.blocks.length by omega))
       unfold newBlock
       intro q hq
       rcases List.mem_or_eq_of_mem_set hq with h5 | rfl
       · exact h4 q h5
       · split
         · exact hp
         · rename_i hk; exact hf hk
   · exact h
theorem newT_all {Q : Page → Prop} (hz : Q zPage) (n p : Int) (bad : List Int) : AllP Q (newT n p bad).1 := by
 unfold newT
 split
 · intro b hb; simp [zChip] at hb
 · rename_i h
   obtain ⟨h1, h2⟩ := newL_ok (n := n) (m := n.toNat) bad (List.replicate n.toNat ⟨List.replicate p.toNat zPage, 0, 0, false⟩) (fun b hb => by
    obtain ⟨_, rfl⟩ := List.mem_replicate.1 hb
    exact ⟨by simp; omega, fun q hq => (List.mem_replicate.1 hq).2⟩) (by simp)
   intro b hb q hq
   rw [(h1 b hb).2 q hq]
   exact hz
theorem tag_nil : tagOk [] := by
 intro h; exact absurd h (by decide)
theorem dec_tag {tag data : Str} {r : Record} (h : decT tag data = (r, 0)) : tagOk tag := by
 intro h1 h2
 unfold decT at h
 split at h
 · cases h
 · rename_i hn
   exact Decidable.byContradiction fun hc => hn (.inr (.inl hc))
theorem enc_tag (r : Record) (data : Str) : tagOk (encT r data).1 := by
 by_cases h : rightT r = false ∨ 16 < data.length
 · have : (encT r data).1 = [] := by unfold encT; rw [if_pos h]
   rw [this]; exact tag_nil
 · simp only [not_or] at h
   exact dec_tag (dec_enc (by simpa using h.1) (by omega))
theorem make_tag (w : Write) : tagOk (makeT w).1.tag := by
 unfold makeT
 split
 · exact tag_nil
 · exact enc_tag _ _
theorem step_tags {l : List Int} {m : Int} {a : Nat} {c : Chip} (h : AllP (fun p => tagOk p.tag) c) : AllP (fun p => tagOk p.tag) (stepC l m a c) := by
 unfold stepC
 simp only
 have h1 : AllP (fun p => tagOk p.tag) (if l.getD a 0 % 29 = 0 then (eraT c (l.getD a 0 % m) zFate).1 else c) := by
  split
  · exact eraT_all tag_nil h _ _
  · exact h
 have hp : tagOk (pgT (l.getD a 0 / 7 % 30) ((l.drop a).take (nextAt l a - a))).tag := make_tag _
 have hf : (if l.getD a 0 % 11 = 0 then (⟨1, [120], (pgT (l.getD a 0 / 7 % 30) ((l.drop a).take (nextAt l a - a))).tag, 0⟩ : Fate) else zFate).kind ≠ 0 → tagOk (if l.getD a 0 % 11 = 0 then (⟨1, [120], (pgT (l.getD a 0 / 7 % 30) ((l.drop a).take (nextAt l a - a))).tag, 0⟩ : Fate) else zFate).tag := by
  split
  · intro _; exact hp
  · intro hk; exact absurd rfl hk
 generalize (if l.getD a 0 % 29 = 0 then (eraT c (l.getD a 0 % m) zFate).1 else c) = c1 at h1
 generalize (if l.getD a 0 % 11 = 0 then (⟨1, [120], (pgT (l.getD a 0 / 7 % 30) ((l.drop a).take (nextAt l a - a))).tag, 0⟩ : Fate) else zFate) = f at hf
 split
 · exact h1
 · exact progT_all h1 _ _ hp hf
theorem chipL_tags {l : List Int} {m : Int} : ∀ (k a : Nat) (c : Chip), AllP (fun p => tagOk p.tag) c → AllP (fun p => tagOk p.tag) (chipL l m k a c)
 | 0, a, c, h => h
 | k + 1, a, c, h => by
   unfold chipL
   split
   · exact chipL_tags k _ _ (step_tags h)
   · exact h
theorem chipT_tags (l : List Int) (b p : Int) : TagsOk (chipT l b p) := chipL_tags 40 0 _ (newT_all tag_nil b p [])
theorem newT_CI2 {b p : Int} (h : 1 ≤ b ∧ b ≤ 32 ∧ 1 ≤ p ∧ p ≤ 16) : CI (newT b p []).1 b := by
 obtain ⟨h1, h2⟩ := newT_ok b p []
 refine ⟨h1, h2, ?_⟩
 unfold newT
 rw [if_neg (by omega), newL_nil]
 simp only [List.length_replicate]
 omega
theorem s_law06_Made2 {l : List Int} (hl : U16 l) (hn : l.length < 9223372036854775808) {b p : Int} (h : 1 ≤ b ∧ b ≤ 32 ∧ 1 ≤ p ∧ p ≤ 16) : S_law06_Made (l, b, p) = some (chipT l b p) := by
 refine lim_eq 41 fun N hN => ?_
 show G_law06_Made N l b p = _
 unfold G_law06_Made chipT
 rw [s_ref05_New (by simp), some_bind']
 exact law06_Made_L1 hl hn (by omega) (by omega) 40 N 0 0 0 _ rfl (by omega) (by omega) (by omega) (newT_CI2 h) (by omega)
theorem chipT_CI {l : List Int} (hl : U16 l) {b p : Int} (h : 1 ≤ b ∧ b ≤ 32 ∧ 1 ≤ p ∧ p ≤ 16) : CI (chipT l b p) b := chipL_ok hl 40 0 _ (newT_CI2 h)
end Clk
namespace Clk
open Go
set_option linter.unusedVariables false
theorem allT_mem (c : Chip) (f : Found) : f ∈ allT c ↔ f ∈ vb 0 c.blocks := by
 unfold allT
 rw [blocksT_fold, fold_mem]
 simp
end Clk
namespace Clk
open Go
set_option linter.unusedVariables false
theorem aheadT_swo : Sort.SWO aheadT where
 irrefl x := by unfold aheadT; simp
 trans x y z h1 h2 := by unfold aheadT at *; simp only [Bool.or_eq_true, Bool.and_eq_true, decide_eq_true_eq] at *; omega
 ntrans x y z h1 h2 := by unfold aheadT at *; simp only [Bool.or_eq_false_iff, Bool.and_eq_false_iff, decide_eq_false_iff_not] at *; omega
theorem insT_insL : ∀ (l : List Found) (f : Found), insT l f = insL aheadT l f
 | [], f => rfl
 | x :: l, f => by unfold insT insL; rw [insT_insL l f]
def SortedT (l : List Found) : Prop := l.Pairwise fun x y => aheadT y x = false
theorem insT_sorted {l : List Found} (f : Found) (h : SortedT l) : SortedT (insT l f) := by
 rw [insT_insL]; exact insL_sorted aheadT_swo l f h
theorem insT_cons (x : Found) (l : List Found) (f : Found) : insT (x :: l) f = if aheadT f x = true then f :: x :: l else x :: insT l f := rfl
theorem insT_front {l : List Found} {f : Found} (h : ∀ x ∈ l, aheadT f x = true) : insT l f = f :: l := by
 cases l with
 | nil => rfl
 | cons x l => unfold insT; rw [if_pos (h x List.mem_cons_self)]
theorem insT_filter {P : Found → Bool} (f : Found) : ∀ (l : List Found), SortedT l → (insT l f).filter P = if P f = true then insT (l.filter P) f else l.filter P
 | [], _ => by
   unfold insT
   cases hP : P f with
   | true => rw [if_pos rfl]; simp [hP, insT]
   | false => rw [if_neg (by simp)]; simp [hP]
 | x :: l, h => by
   unfold SortedT at h
   rw [List.pairwise_cons] at h
   rw [insT_cons]
   split
   · rename_i hx
     have hall : ∀ y ∈ x :: l, aheadT f y = true := by
      intro y hy
      rcases List.mem_cons.1 hy with rfl | hy
      · exact hx
      · cases hc : aheadT f y with
        | true => rfl
        | false => have := aheadT_swo.ntrans _ _ _ hc (h.1 y hy); rw [hx] at this; cases this
     have hfr : insT ((x :: l).filter P) f = f :: (x :: l).filter P := insT_front fun y hy => hall y (List.mem_filter.1 hy).1
     cases hP : P f with
     | true => rw [if_pos rfl, hfr]; exact List.filter_cons_of_pos hP
     | false => rw [if_neg (by simp)]; exact List.filter_cons_of_neg (by simp [hP])
   · rename_i hx
     have ih := insT_filter (P := P) f l h.2
     cases hPx : P x with
     | false =>
       rw [List.filter_cons_of_neg (by simp [hPx]), List.filter_cons_of_neg (by simp [hPx]), ih]
     | true =>
       rw [List.filter_cons_of_pos hPx, List.filter_cons_of_pos hPx, ih]
       cases hP : P f with
       | true => rw [if_pos rfl, if_pos rfl, insT_cons, if_neg hx]
       | false => rw [if_neg (by simp), if_neg (by simp)]
theorem foldT_filter {P : Found → Bool} : ∀ (B l : List Found), SortedT l → (B.foldl insT l).filter P = (B.filter P).foldl insT (l.filter P)
 | [], l, _ => rfl
 | f :: B, l, h => by
   rw [List.foldl_cons, foldT_filter B _ (insT_sorted f h), insT_filter f l h]
   cases hP : P f with
   | true => rw [if_pos rfl, List.filter_cons_of_pos hP]; rfl
   | false => rw [if_neg (by simp), List.filter_cons_of_neg (by simp [hP])]
def notIn (b : Nat) (f : Found) : Bool := !(decide (f.place / 16 = (b : Int)))
theorem vp_notIn {b c : Nat} {l : List Page} {p : Nat} : (vp c p l).filter (notIn b) = if c = b then [] else vp c p l := by
 split
 · rename_i h; subst h
   rw [List.filter_eq_nil_iff]
   intro f hf
   obtain ⟨q, _, h2, _, h3⟩ := vp_place hf
   unfold notIn
   simp only [Bool.not_eq_true', Bool.not_eq_false, decide_eq_true_eq, Bool.not_eq_true]
   omega
 · rename_i h
   rw [List.filter_eq_self]
   intro f hf
   obtain ⟨q, _, h2, _, h3⟩ := vp_place hf
   unfold notIn
   rw [decide_eq_false (by omega)]; rfl
theorem vb_after {b : Nat} : ∀ (l : List Block) (c : Nat), b < c → (vb c l).filter (notIn b) = vb c l
 | [], c, _ => rfl
 | x :: l, c, h => by
   unfold vb
   rw [List.filter_append, vp_notIn, if_neg (by omega), vb_after l (c + 1) (by omega)]
theorem vb_filter {y : Block} : ∀ (l : List Block) (b i : Nat), (∀ c, vp c 0 y.pages = []) → (vb b l).filter (notIn (b + i)) = vb b (l.set i y)
 | [], b, i, _ => rfl
 | x :: l, b, 0, h => by
   rw [List.set_cons_zero]
   unfold vb
   rw [List.filter_append, vp_notIn, if_pos (by omega), vb_after l (b + 1) (by omega), h, List.nil_append]
 | x :: l, b, i + 1, h => by
   rw [List.set_cons_succ]
   unfold vb
   rw [List.filter_append, vp_notIn, if_neg (by omega), show b + (i + 1) = b + 1 + i by omega, vb_filter l (b + 1) i h]
theorem look_zPage : (lookT zPage).1 = 0 := rfl
theorem vp_blank {l : List Page} (h : ∀ p ∈ l, p = zPage) : ∀ (c p : Nat), vp c p l = [] := by
 induction l with
 | nil => intro c p; rfl
 | cons x l ih =>
   intro c p
   unfold vp
   rw [ih (fun q hq => h q (List.mem_cons_of_mem _ hq)), List.append_nil, h x List.mem_cons_self]
   unfold vv
   rw [if_neg (by rw [look_zPage]; simp)]
theorem clrT_blank (n : Int) : ∀ (i : Nat) (l : List Page), ∀ p ∈ clrT true n i l, p = zPage
 | _, [], p, h => by cases h
 | i, q :: l, p, h => by
   unfold clrT at h
   rcases List.mem_cons.1 h with rfl | h
   · rw [if_pos (.inl rfl)]
   · exact clrT_blank n (i + 1) l p h
theorem allT_erase {c : Chip} {b : Int} (hoff : c.off = false) (hc : canEra c b zFate = true) : allT (eraT c b zFate).1 = (allT c).filter (notIn b.toNat) := by
 unfold eraT
 rw [hoff, if_neg (by simp), if_pos hc]
 unfold allT
 rw [blocksT_fold, blocksT_fold, foldT_filter _ _ .nil, List.filter_nil]
 have := vb_filter (y := eraBlock (c.blocks.getD b.toNat default) zFate) c.blocks 0 b.toNat (fun d => vp_blank (by
  unfold eraBlock
  rw [if_neg (by decide)]
  exact clrT_blank _ 0 _) d 0)
 rw [Nat.zero_add] at this
 rw [this]
end Clk
namespace Clk
open Go
set_option linter.unusedVariables false
end Clk
namespace Clk
open Go
set_option linter.unusedVariables false
def pageT (c : Chip) (place : Int) : Page × Bool :=
 if place < 0 ∨ (c.blocks.length : Int) ≤ place / 16 ∨ 32 ≤ place / 16 ∨ ((c.blocks.getD (place / 16).toNat default).pages.length : Int) ≤ place % 16 then (zPage, false)
 else ((c.blocks.getD (place / 16).toNat default).pages.getD (place % 16).toNat default, true)
def I64 (n : Int) : Prop := -9223372036854775808 ≤ n ∧ n < 9223372036854775808
theorem s_scan_Page (c : Chip) {place : Int} (hp : I64 place) : S_scan_Page (c, place) = some (pageT c place) := by
 obtain ⟨p1, p2⟩ := hp
 show G_scan_Page c place = _
 unfold G_scan_Page pageT
 by_cases c1 : place < 0
 · rw [decide_eq_true c1, cond_true, if_pos (.inl c1)]; rfl
 · rw [decide_eq_false c1, cond_false, Int.tdiv_eq_ediv_of_nonneg (by omega), Int.tmod_eq_emod_of_nonneg (by omega), w64_id (n := place / 16) (by omega) (by omega)]
   by_cases c2 : min (c.blocks.length : Int) 32 ≤ place / 16
   · rw [decide_eq_true c2, cond_true, if_pos (by omega)]; rfl
   · rw [decide_eq_false c2, cond_false, decide_eq_true (show 0 ≤ place / 16 by omega), decide_eq_true (show place / 16 < (c.blocks.length : Int) by omega)]
     simp only [cond_true]
     by_cases c3 : ((c.blocks.getD (place / 16).toNat default).pages.length : Int) ≤ place % 16
     · rw [decide_eq_true c3, cond_true, if_pos (by omega)]; rfl
     · rw [decide_eq_false c3, cond_false, decide_eq_true (show 0 ≤ place % 16 by omega), decide_eq_true (show place % 16 < ((c.blocks.getD (place / 16).toNat default).pages.length : Int) by omega), if_neg (by omega)]
       rfl
def c6a : Chip := (progT (newT 2 2 []).1 0 0 (pgT 7 []) zFate).1
def c6 : Chip := (progT c6a 1 0 (pgT 3 []) zFate).1
theorem u16_nil : U16 [] := fun _ h => by cases h
theorem c6_ok : ChipOk c6a ∧ ChipOk c6 ∧ PagesOk c6 ∧ TagsOk c6 := by
 have h := newT_CI2 (b := 2) (p := 2) (by decide)
 have k1 : PageOk (pgT 7 []) := makeT_ok (pgT_w u16_nil _)
 have k2 : PageOk (pgT 3 []) := makeT_ok (pgT_w u16_nil _)
 have z : zFate.tag.length < 4294967296 ∧ zFate.data.length < 4294967296 := ⟨by simp [zFate], by simp [zFate]⟩
 have h1 : ChipOk c6a := progT_ok h.ok _ _ _ _
 have h2 : PagesOk c6a := progT_pages h.pages _ _ k1 z
 have h3 : TagsOk c6a := progT_all (newT_all tag_nil 2 2 []) _ _ (show tagOk (pgT 7 []).tag from make_tag _) (fun h => absurd rfl h)
 exact ⟨h1, progT_ok h1 _ _ _ _, progT_pages h2 _ _ k2 z, progT_all h3 _ _ (show tagOk (pgT 3 []).tag from make_tag _) (fun h => absurd rfl h)⟩
def awake6T : Bool :=
 decide ((allT c6).length = 2) && decide (((allT c6).getD 0 default).place = 16) && decide (((allT c6).getD 0 default).record.seq = 3) && decide (((allT c6).getD 1 default).place = 0) && (pageT c6 16).2 && (pageT c6 16).1.written && !(pageT c6 2).2
set_option maxRecDepth 1000000 in
theorem awake6_ok : awake6T = true := by kernel_rfl
theorem s_law06_awake : S_law06_awake () = some true := by
 obtain ⟨h1, h2, h3, h4⟩ := c6_ok
 have h := awake6_ok
 unfold awake6T at h
 simp only [Bool.and_eq_true, decide_eq_true_eq, Bool.not_eq_true'] at h
 obtain ⟨⟨⟨⟨⟨⟨a1, a2⟩, a3⟩, a4⟩, a5⟩, a6⟩, a7⟩ := h
 show G_law06_awake = _
 unfold G_law06_awake
 rw [s_ref05_New (by simp), some_bind', s_law06_Page u16_nil (by simp), some_bind', show (Fate.mk 0 [] [] 0) = zFate from rfl, s_ref05_Program (newT_CI2 (b := 2) (p := 2) (by decide)).ok, some_bind', s_law06_Page u16_nil (by simp), some_bind']
 rw [show (progT (newT 2 2 []).1 0 0 (pgT 7 []) zFate).1 = c6a from rfl, s_ref05_Program h1, some_bind', show (progT c6a 1 0 (pgT 3 []) zFate).1 = c6 from rfl, s_scan_All h2 h3 h4, some_bind', s_scan_Page c6 (by constructor <;> decide), some_bind', s_scan_Page c6 (by constructor <;> decide), some_bind']
 rw [a1, a2, a3, a4, a5, a6, a7, s_scan_Place, some_bind', s_scan_Place, some_bind']
 rfl
end Clk
namespace Clk
open Go
theorem row_mem {k : IntKind} {w : World} {a : Option Addr} {len cap : Nat} {zs : List Int} (h : IsRow k w a len cap zs) : ∀ n ∈ zs.take len, (Lit.int k n).wf = true := by
 intro n hn
 rcases h with ⟨_, _, _, rfl⟩ | ⟨_, _, _, _, _, _, h⟩
 · simp at hn
 · exact h n (List.mem_of_mem_take hn)
theorem row_len {k : IntKind} {w : World} {a : Option Addr} {len cap : Nat} {zs : List Int} (h : IsRow k w a len cap zs) : (zs.take len).length < 9223372036854775808 := by
 rcases h with ⟨_, _, _, rfl⟩ | ⟨_, _, h1, h2, h3, _, _⟩
 · simp
 · have : maxLen = 9223372036854775807 := rfl
   simp only [List.length_take]; omega
theorem wf_u8 {n : Int} (h : (Lit.int .u8 n).wf = true) : 0 ≤ n ∧ n < 256 := by
 simp [Lit.wf, IntKind.min, IntKind.max, IntKind.signed, IntKind.bits] at h
 omega
theorem wf_u16 {n : Int} (h : (Lit.int .u16 n).wf = true) : 0 ≤ n ∧ n < 65536 := by
 simp [Lit.wf, IntKind.min, IntKind.max, IntKind.signed, IntKind.bits] at h
 omega
theorem litU8 {n : Int} (h : (Lit.int .u8 n).wf = true) : 0 ≤ n ∧ n < 256 := wf_u8 h
theorem rowU16 {w : World} {a : Option Addr} {len cap : Nat} {zs : List Int} (h : IsRow .u16 w a len cap zs) : U16 (zs.take len) := fun n hn => wf_u16 (row_mem h n hn)
theorem rowLen {k : IntKind} {w : World} {a : Option Addr} {len cap : Nat} {zs : List Int} (h : IsRow k w a len cap zs) : (zs.take len).length < 9223372036854775808 := row_len h
end Clk
namespace Clk
open Go
section
variable {H : Type} {enc : TypeId × Value → H} {P : Program} {w : World} {base : Nat} {spare : Nat → Bool} {held : Bool}
open Go.ChangeShapes Go.WideShapes
end
end Clk
namespace Clk
open Go
inductive Sh where
 | int (k : IntKind) | bool | str | sl (l : List Sh)
inductive ShA : Sh → AV → Prop
 | int {k : IntKind} {n : Int} (h : (Lit.int k n).wf = true) : ShA (.int k) (.int k n)
 | bool (b : Bool) : ShA .bool (.bool b)
 | str {s : ByteArray} (h : s.size ≤ maxLen) : ShA .str (.str s)
 | sl {sh : List Sh} {l : List (List AV)} (h : l.length ≤ maxLen) (hl : ∀ row ∈ l, row.length = sh.length) (hr : ∀ row ∈ l, ∀ (j : Nat) s a, sh[j]? = some s → row[j]? = some a → ShA s a) : ShA (.sl sh) (.rows l)
section
variable {H : Type} {enc : TypeId × Value → H} {P : Program} {w : World} {base : Nat} {spare : Nat → Bool} {held : Bool} {N : Nat → Prop}
end
end Clk
namespace Clk
open Go
section
variable {H : Type} {enc : TypeId × Value → H} {P : Program} {w : World} {base : Nat} {spare : Nat → Bool} {held : Bool}
end
end Clk
namespace Clk
open Go
set_option linter.unusedVariables false
theorem s_ref03_Same {r s : Record} (hr : RecOk r) : S_ref03_Same (r, s) = some (decide (r = s)) := by
 show G_ref03_Same r s = _
 unfold G_ref03_Same
 obtain ⟨k, q, ks, vs⟩ := r
 obtain ⟨k', q', ks', vs'⟩ := s
 simp only [Record.mk.injEq]
 by_cases h1 : k = k'
 · rw [decide_eq_true h1, cond_true]
   by_cases h2 : q = q'
   · rw [decide_eq_true h2, cond_true, s_ref02_Same hr.1, some_bind']
     by_cases h3 : ks = ks'
     · rw [decide_eq_true h3, cond_true, s_ref02_Same hr.2, some_bind']
       simp [h1, h2, h3]
     · rw [decide_eq_false h3, cond_false, decide_eq_false (fun h => h3 h.2.2.1)]
   · rw [decide_eq_false h2, cond_false, decide_eq_false (fun h => h2 h.2.1)]
 · rw [decide_eq_false h1, cond_false, decide_eq_false (fun h => h1 h.1)]
theorem Same6_L1 {xs : List Found} (hs : xs.length < 4294967296) (hf : FoundsOk xs) : ∀ (l : List Found) (N k : Nat) (i : Int), xs.drop k = l → i = k → l.length < N → iterF F_ref06_Same_L1 N (xs, xs, i) = some true
 | l, 0, _, _, _, _, h => by omega
 | [], N + 1, k, i, h1, h2, _ => by
   have := drop_nil h1
   rw [iterF_succ, F_ref06_Same_L1_eq]
   unfold G_ref06_Same_L1
   dsimp only
   rw [decide_eq_false (by omega), cond_false]
 | f :: l, N + 1, k, i, h1, h2, h4 => by
   obtain ⟨g1, g2, g3⟩ := drop_cons h1
   subst h2
   have hr : RecOk f.record := by rw [← g2 default]; exact hf _ (getD_mem' g1)
   rw [iterF_succ, F_ref06_Same_L1_eq]
   unfold G_ref06_Same_L1
   simp only [Int.toNat_natCast, g2]
   rw [decide_eq_true (show (k : Int) < xs.length by omega), decide_eq_true (show (0 : Int) ≤ k by omega), s_ref03_Same hr, some_bind']
   simp only [cond_true, decide_true, Bool.not_true, cond_false]
   exact Same6_L1 hs hf l N (k + 1) _ g3 (by rw [w64_id (by omega) (by omega)]; omega) (by simp at h4; omega)
theorem s_ref06_Same {l : List Found} (hs : l.length < 4294967296) (hf : FoundsOk l) : S_ref06_Same (l, l) = some true := by
 refine lim_eq (l.length + 1) fun N hN => ?_
 show G_ref06_Same N l l = _
 unfold G_ref06_Same
 rw [decide_eq_true rfl, Bool.not_true, cond_false]
 exact Same6_L1 hs hf l N 0 0 rfl rfl (by omega)
theorem ScanErase_L1x {c d : Chip} {b : Nat} {a : List Found} (ha : a.length ≤ 512) (hp : ∀ f ∈ a, 0 ≤ f.place ∧ f.place < 4294967296) (hd : S_scan_All d = some (a.filter (notIn b))) (hf : FoundsOk a) : ∀ (l : List Found) (N k : Nat) (i : Int) (acc : List Found), a.drop k = l → i = k → acc.length ≤ k → a.filter (notIn b) = acc ++ l.filter (notIn b) → l.length < N →
 iterF F_law06_ScanErase_L1 N (true, (b : Int), a, i, d, acc) = some true
 | l, 0, _, _, _, _, _, _, _, h => by omega
 | [], N + 1, k, i, acc, h1, h2, h3, h4, _ => by
   have := drop_nil h1
   rw [iterF_succ, F_law06_ScanErase_L1_eq]
   unfold G_law06_ScanErase_L1
   dsimp only
   rw [List.filter_nil, List.append_nil] at h4
   rw [decide_eq_false (by omega), cond_false, cond_true, hd, some_bind', ← h4, s_ref06_Same (Nat.lt_of_le_of_lt (List.length_filter_le _ _) (by omega)) (fun f hm => hf f (List.mem_filter.1 hm).1), some_bind']
 | f :: l, N + 1, k, i, acc, h1, h2, h3, h4, h5 => by
   obtain ⟨g1, g2, g3⟩ := drop_cons h1
   subst h2
   obtain ⟨p1, p2⟩ := hp f (by rw [← g2 default]; exact getD_mem' g1)
   simp at h5
   rw [iterF_succ, F_law06_ScanErase_L1_eq]
   unfold G_law06_ScanErase_L1
   simp only [Int.toNat_natCast, g2]
   rw [decide_eq_true (show (k : Int) < a.length by omega), decide_eq_true (show (0 : Int) ≤ k by omega), Int.tdiv_eq_ediv_of_nonneg p1, w64_id (n := f.place / 16) (by omega) (by omega), w64_id (n := (k : Int) + 1) (by omega) (by omega)]
   simp only [cond_true]
   by_cases hb : f.place / 16 = (b : Int)
   · rw [decide_eq_true hb, Bool.not_true, cond_false]
     exact ScanErase_L1x (c := c) ha hp hd hf l N (k + 1) _ acc g3 (by omega) (by omega) (by rw [h4, List.filter_cons_of_neg (by unfold notIn; rw [decide_eq_true hb]; simp)]) (by omega)
   · rw [decide_eq_false hb, Bool.not_false, cond_true, decide_eq_true (by simp; omega), cond_true, decide_eq_true (by simp; omega), cond_true]
     exact ScanErase_L1x (c := c) ha hp hd hf l N (k + 1) _ (acc ++ [f]) g3 (by omega) (by simp; omega) (by rw [h4, List.filter_cons_of_pos (by unfold notIn; rw [decide_eq_false hb]; rfl), List.append_assoc]; rfl) (by omega)
theorem allT_place (c : Chip) : ∀ f ∈ allT c, 0 ≤ f.place ∧ f.place < 4294967296 := fun f hf => by
 have h := (allT_mem c f).1 hf
 have : ∀ (l : List Block) (b : Nat), f ∈ vb b l → 0 ≤ f.place ∧ f.place < 4294967296 := by
  intro l
  induction l with
  | nil => intro b h; simp [vb] at h
  | cons x l ih =>
    intro b h
    unfold vb at h
    rcases List.mem_append.1 h with h | h
    · obtain ⟨q, _, h2, h3, h4⟩ := vp_place h; omega
    · exact ih _ h
 exact this _ 0 h
theorem law_ScanErase {l : List Int} {n : Int} (hl : U16 l) (hn : l.length < 9223372036854775808) (h0 : 0 ≤ n ∧ n < 256) : S_law06_ScanErase (l, n) = some true := by
 have hb : (1 : Int) ≤ 4 ∧ (4 : Int) ≤ 32 ∧ (1 : Int) ≤ 5 ∧ (5 : Int) ≤ 16 := by decide
 have hci := chipT_CI hl hb
 have ht := chipT_tags l 4 5
 have hl2 := allT_len (chipT l 4 5)
 have e1 : Int.tmod (w64 n) 4 = (((n % 4).toNat : Nat) : Int) := by rw [w64_id (n := n) (by omega) (by omega), Int.tmod_eq_emod_of_nonneg (by omega)]; omega
 refine lim_eq 514 fun N hN => ?_
 show G_law06_ScanErase N l n = _
 unfold G_law06_ScanErase
 rw [s_law06_awake, some_bind', Bool.not_true, cond_false, s_law06_Made2 hl hn hb, some_bind', e1, show (Fate.mk 0 [] [] 0) = zFate from rfl, s_ref05_Erase hci.ok, some_bind']
 generalize hbn : (n % 4).toNat = b
 generalize chipT l 4 5 = c at *
 by_cases he : (eraT c (b : Int) zFate).2 = 0
 · rw [decide_eq_true he, Bool.not_true, cond_false, s_scan_All hci.ok hci.pages ht, some_bind']
   have hoc : c.off = false ∧ canEra c (b : Int) zFate = true := by
    unfold eraT at he
    split at he
    · cases he
    · rename_i h1
      split at he
      · rename_i h2; exact ⟨by simpa using h1, h2⟩
      · unfold brkT at he; cases he
   have hall := allT_erase hoc.1 hoc.2
   rw [Int.toNat_natCast] at hall
   have hd : S_scan_All (eraT c (b : Int) zFate).1 = some ((allT c).filter (notIn b)) := by
    rw [s_scan_All (eraT_ok hci.ok _ _).1 (eraT_pages hci.pages _ _) (eraT_all tag_nil ht _ _), hall]
   exact ScanErase_L1x (c := c) hl2 (allT_place c) hd (allT_ok hci.pages) (allT c) N 0 0 [] rfl rfl (by simp) rfl (by omega)
 · rw [decide_eq_false he, Bool.not_false, cond_true]
end Clk
