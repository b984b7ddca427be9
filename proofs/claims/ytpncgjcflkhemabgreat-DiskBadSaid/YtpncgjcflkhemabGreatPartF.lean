/- A part of the proof of DiskBad: an evaluator of the program's code that the kernel runs, its soundness, what the functions compute. -/
import Derived.Test.YtpncgjcflkhemabGreatPartE
import Derived.KernelRfl
set_option linter.unusedVariables false
set_option linter.unusedSimpArgs false
set_option maxRecDepth 1000000
namespace Clk
open Go
def z2t : List Geometry := [⟨8, 4, 5, 1⟩, ⟨5, 4, 3, 0⟩, ⟨12, 3, 5, 2⟩, ⟨6, 6, 8, 0⟩, ⟨16, 2, 4, 3⟩, ⟨10, 5, 12, 1⟩]
def smallT (n : Int) : Geometry := z2t.getD (n.toNat % 6) default
theorem z00v {n : Int} (h0 : 0 <= n) (h1 : n < 256) : z5s n = some (smallT n) := by
 show z5r n = _; unfold z5r; obtain ⟨k, rfl⟩ : ∃ k : Nat, n = k := ⟨n.toNat, by omega⟩; have e : Int.tmod (w64 (k : Int)) (([(Geometry.mk 8 4 5 1), (Geometry.mk 5 4 3 0), (Geometry.mk 12 3 5 2), (Geometry.mk 6 6 8 0), (Geometry.mk 16 2 4 3), (Geometry.mk 10 5 12 1)].length : Nat) : Int) = ((k % 6 : Nat) : Int) := by
  rw [ze (by omega) (by omega)]; exact zao k 6
 rw [e, zF (by decide), Bool.not_false, zC, zT (show (0 : Int) <= ((k % 6 : Nat) : Int) by omega), zC, zT (by simp only [List.length_cons, List.length_nil]; omega), zC, zT (by simp only [List.length_cons, List.length_nil]; omega), zC]; rfl
theorem zud {P : Geometry -> Prop} (h : ∀ g ∈ z2t, P g) (n : Int) : P (smallT n) := h _ (z07 (by show n.toNat % 6 < 6; omega))
def pk (l : List Int) (i : Nat) (n : Int) : Int := l.getD i 0 % n
def mkL (l : List Int) (kind : Int) : Nat -> Nat -> Int -> List Int × List Int
 | 0, _, _ => ([], [])
 | n + 1, at_, key => if key < 64 then
    (if kind = 2 then (key :: (mkL l kind n (at_ + 2) (key + 1 + pk l at_ 10)).1, (pk l (at_ + 1) 513 - 1) :: (mkL l kind n (at_ + 2) (key + 1 + pk l at_ 10)).2)
     else (key :: (mkL l kind n (at_ + 1) (key + 1 + pk l at_ 10)).1, (mkL l kind n (at_ + 1) (key + 1 + pk l at_ 10)).2))
   else ([], [])
def madeT (l : List Int) : Record :=
 ⟨1 + pk l 0 2, pk l 1 60000 * (1 + pk l 2 1000), (mkL l (1 + pk l 0 2) (pk l 4 8 + 1).toNat 5 (pk l 3 20)).1, (mkL l (1 + pk l 0 2) (pk l 4 8 + 1).toNat 5 (pk l 3 20)).2⟩
def U16 (l : List Int) : Prop := ∀ n ∈ l, 0 <= n /\ n < 65536
theorem U16.get {l : List Int} (h : U16 l) (i : Nat) : 0 <= l.getD i 0 /\ l.getD i 0 < 65536 := by
 by_cases hi : i < l.length
 · exact h _ (z07 hi)
 · rw [zI, List.getElem?_eq_none (by omega)]; exact ⟨Int.le_refl 0, show (0 : Int) < 65536 by omega⟩
theorem z19 {l : List Int} {i : Nat} (h : l.length <= i) (n : Int) : pk l i n = 0 := by
 unfold pk; rw [zI, List.getElem?_eq_none h]; simp
theorem z86 {l : List Int} (h : U16 l) (i : Nat) {n : Int} (hn : 0 < n) : 0 <= pk l i n /\ pk l i n < n := ⟨Int.emod_nonneg _ (by omega), Int.emod_lt_of_pos _ hn⟩
theorem z00w {l : List Int} (h : U16 l) (i : Nat) (n : Int) : Int.tmod (w64 (l.getD i 0)) n = pk l i n := by
 have := h.get i; rw [ze (by omega) (by omega), Int.tmod_eq_emod_of_nonneg this.1]; rfl
theorem z00x {l : List Int} (hl : U16 l) (hn : l.length < 9223372036854775808) {kind seq : Int} : ∀ (n N at_ : Nat) (cnt key ati : Int) (ks vs : List Int), cnt = (n : Int) - 1 -> ati = at_ -> n <= 9 -> at_ + 2 * n <= 4294967296 -> 0 <= key -> key <= 100 -> ks.length + n <= 100 -> vs.length + n <= 100 -> n < N ->
 zf za N (key, cnt, l, kind, seq, ati, ks, vs) = some ⟨kind, seq, ks ++ (mkL l kind n at_ key).1, vs ++ (mkL l kind n at_ key).2⟩
 | n, 0, _, _, _, _, _, _, _, _, _, _, _, _, _, _, h => by omega
 | 0, N + 1, at_, cnt, key, ati, ks, vs, h1, h2, _, _, _, _, _, _, _ => by
   rw [z6, z7p]; unfold z3n; simp only [mkL, List.append_nil]; rw [zF (by omega), zD]
 | n + 1, N + 1, at_, cnt, key, ati, ks, vs, h1, h2, h3, h4, h5, h6, h7, h8, h9 => by
   subst h2; rw [z6, z7p]; unfold z3n; simp only [mkL]; rw [zT (show 0 <= cnt by omega), zC]; by_cases hk : key < 64
   · have p1 := z86 hl at_ (n := 10) (by omega); have p2 := z86 hl (at_ + 1) (n := 513) (by omega); have ih := fun (a : Nat) (ha : a + 2 * n <= 4294967296) (k' : Int) (hk' : 0 <= k' /\ k' <= 100) (ks' vs' : List Int) (hks : ks'.length + n <= 100) (hvs : vs'.length + n <= 100) => z00x hl hn (kind := kind) (seq := seq) n N a (w64 (cnt - 1)) k' (a : Int) ks' vs' (by rw [ze (by omega) (by omega)]; omega) rfl (by omega) ha hk'.1 hk'.2 hks hvs (by omega)
     rw [zT hk, zC, if_pos hk, zT (by simp only [List.length_singleton]; omega), zC, zT (by simp only [List.length_singleton]; omega), zC]; have w1 : w64 ((at_ : Int) + 1) = ((at_ + 1 : Nat) : Int) := by rw [ze (by omega) (by omega)]; rfl
     have w2 : w64 (((at_ + 1 : Nat) : Int) + 1) = ((at_ + 2 : Nat) : Int) := by rw [ze (by omega) (by omega)]; rfl
     have w3 : w64 (((at_ + 1 : Nat) : Int) - 1) = (at_ : Int) := by rw [ze (by omega) (by omega)]; omega
     have w4 : w64 (((at_ + 2 : Nat) : Int) - 1) = ((at_ + 1 : Nat) : Int) := by rw [ze (by omega) (by omega)]; omega
     have w5 : w64 (key + 1) = key + 1 := ze (by omega) (by omega); have w6 : w64 (key + 1 + pk l at_ 10) = key + 1 + pk l at_ 10 := ze (by omega) (by omega); have w7 : w64 (pk l (at_ + 1) 513 - 1) = pk l (at_ + 1) 513 - 1 := ze (by omega) (by omega); simp only [w1, w2, w3, w4, w5, Int.toNat_natCast, z00w hl, w6, w7]; have v1 : [key].length = 1 := rfl; by_cases c2 : kind = 2
     · simp only [zT c2, zC, if_pos c2]; by_cases c1 : l.length < at_ + 1
       · have z := z19 (show l.length <= at_ by omega) 10; have z2 := z19 (show l.length <= at_ + 1 by omega) 513; rw [zT (show (l.length : Int) < ((at_ + 1 : Nat) : Int) by omega), zC, zT (show (l.length : Int) < ((at_ + 2 : Nat) : Int) by omega), zC, zT (by simp only [List.length_singleton]; omega), zC, zT (by simp only [List.length_singleton]; omega), zC, z, z2, ze (n := key + 1 + 0) (by omega) (by omega)]; rw [ih (at_ + 2) (by omega) _ (by omega) _ _ (by simp only [List.length_append, List.length_singleton]; omega) (by simp only [List.length_append, List.length_singleton]; omega)]; simp
       · rw [zF (show ¬ (l.length : Int) < ((at_ + 1 : Nat) : Int) by omega), zD, zT (show (0 : Int) <= (at_ : Int) by omega), zC, zT (show (at_ : Int) < l.length by omega), zC]; by_cases c3 : l.length < at_ + 2
         · have z2 := z19 (show l.length <= at_ + 1 by omega) 513; rw [zT (show (l.length : Int) < ((at_ + 2 : Nat) : Int) by omega), zC, zT (by simp only [List.length_singleton]; omega), zC, zT (by simp only [List.length_singleton]; omega), zC, z2]; rw [ih (at_ + 2) (by omega) _ (by omega) _ _ (by simp only [List.length_append, List.length_singleton]; omega) (by simp only [List.length_append, List.length_singleton]; omega)]; simp
         · rw [zF (show ¬ (l.length : Int) < ((at_ + 2 : Nat) : Int) by omega), zD, zT (show (0 : Int) <= ((at_ + 1 : Nat) : Int) by omega), zC, zT (show ((at_ + 1 : Nat) : Int) < l.length by omega), zC, zT (by simp only [List.length_singleton]; omega), zC, zT (by simp only [List.length_singleton]; omega), zC]; rw [ih (at_ + 2) (by omega) _ (by omega) _ _ (by simp only [List.length_append, List.length_singleton]; omega) (by simp only [List.length_append, List.length_singleton]; omega)]; simp
     · simp only [zF c2, zD, if_neg c2]; by_cases c1 : l.length < at_ + 1
       · have z := z19 (show l.length <= at_ by omega) 10; rw [zT (show (l.length : Int) < ((at_ + 1 : Nat) : Int) by omega), zC, z, ze (n := key + 1 + 0) (by omega) (by omega)]; rw [ih (at_ + 1) (by omega) _ (by omega) _ _ (by simp only [List.length_append, List.length_singleton]; omega) (by omega)]; simp
       · rw [zF (show ¬ (l.length : Int) < ((at_ + 1 : Nat) : Int) by omega), zD, zT (show (0 : Int) <= (at_ : Int) by omega), zC, zT (show (at_ : Int) < l.length by omega), zC]; rw [ih (at_ + 1) (by omega) _ (by omega) _ _ (by simp only [List.length_append, List.length_singleton]; omega) (by omega)]; simp
   · rw [zF hk, zD, if_neg hk]; simp
theorem zry {l : List Int} (hl : U16 l) (hn : l.length < 9223372036854775808) : zbs l = some (madeT l) := by
 refine z0k 10 fun N hN => ?_
 have q0 := z86 hl 0 (n := 2) (by omega); have q1 := z86 hl 1 (n := 60000) (by omega); have q2 := z86 hl 2 (n := 1000) (by omega); have q3 := z86 hl 3 (n := 20) (by omega); have q4 := z86 hl 4 (n := 8) (by omega); have key := fun kind seq => z00x hl hn (kind := kind) (seq := seq) (pk l 4 8 + 1).toNat N 5 (pk l 4 8) (pk l 3 20) 5 [] [] (by omega) rfl (by omega) (by omega) (by omega) (by omega) (by simp; omega) (by simp; omega) (by omega)
 simp only [List.nil_append] at key; have hm : 0 <= pk l 1 60000 * (1 + pk l 2 1000) /\ pk l 1 60000 * (1 + pk l 2 1000) <= 60000 * 1001 := by
  refine ⟨Int.mul_nonneg q1.1 (by omega), Int.mul_le_mul (by omega) (by omega) (by omega) (by omega)⟩
 have w0 : w64 (1 + pk l 0 2) = 1 + pk l 0 2 := ze (by omega) (by omega); have w1 : w64 (1 + pk l 2 1000) = 1 + pk l 2 1000 := ze (by omega) (by omega); have w2 : w64 (pk l 1 60000 * (1 + pk l 2 1000)) = pk l 1 60000 * (1 + pk l 2 1000) := ze (by omega) (by omega); unfold zbr madeT; simp only [z00w hl, w0, w1, w2]; by_cases c1 : l.length < 1
 · simp only [z19 (show l.length <= 0 by omega), z19 (show l.length <= 1 by omega), z19 (show l.length <= 2 by omega), z19 (show l.length <= 3 by omega), z19 (show l.length <= 4 by omega)] at key ⊢; rw [zT (show (l.length : Int) < 1 by omega), zC, zT (show (l.length : Int) < 2 by omega), zC, zT (show (l.length : Int) < 3 by omega), zC, zT (show (l.length : Int) < 4 by omega), zC, zT (show (l.length : Int) < 5 by omega), zC]; exact key 1 0
 · rw [zF (show ¬ (l.length : Int) < 1 by omega), zD, zT (show (0 : Int) < l.length by omega), zC]; by_cases c2 : l.length < 2
   · simp only [z19 (show l.length <= 1 by omega), z19 (show l.length <= 2 by omega), z19 (show l.length <= 3 by omega), z19 (show l.length <= 4 by omega)] at key ⊢; rw [zT (show (l.length : Int) < 2 by omega), zC, zT (show (l.length : Int) < 3 by omega), zC, zT (show (l.length : Int) < 4 by omega), zC, zT (show (l.length : Int) < 5 by omega), zC]; exact key _ 0
   · rw [zF (show ¬ (l.length : Int) < 2 by omega), zD, zT (show (1 : Int) < l.length by omega), zC]; by_cases c3 : l.length < 3
     · simp only [z19 (show l.length <= 2 by omega), z19 (show l.length <= 3 by omega), z19 (show l.length <= 4 by omega)] at key ⊢; rw [zT (show (l.length : Int) < 3 by omega), zC, zT (show (l.length : Int) < 4 by omega), zC, zT (show (l.length : Int) < 5 by omega), zC, ze (n := pk l 1 60000 * 1) (by omega) (by omega)]; exact key _ _
     · rw [zF (show ¬ (l.length : Int) < 3 by omega), zD, zT (show (2 : Int) < l.length by omega), zC]; by_cases c4 : l.length < 4
       · simp only [z19 (show l.length <= 3 by omega), z19 (show l.length <= 4 by omega)] at key ⊢; rw [zT (show (l.length : Int) < 4 by omega), zC, zT (show (l.length : Int) < 5 by omega), zC]; exact key _ _
       · rw [zF (show ¬ (l.length : Int) < 4 by omega), zD, zT (show (3 : Int) < l.length by omega), zC]; by_cases c5 : l.length < 5
         · simp only [z19 (show l.length <= 4 by omega)] at key ⊢; rw [zT (show (l.length : Int) < 5 by omega), zC]; exact key _ _
         · rw [zF (show ¬ (l.length : Int) < 5 by omega), zD, zT (show (4 : Int) < l.length by omega), zC]; exact key _ _
theorem zue (l : List Int) (kind : Int) : ∀ (n a : Nat) (key : Int), (mkL l kind n a key).1.length <= n /\ (mkL l kind n a key).2.length <= n
 | 0, a, key => by simp [mkL]
 | n + 1, a, key => by
   unfold mkL; split
   · split
     · have := zue l kind n (a + 2) (key + 1 + pk l a 10); simp only [List.length_cons]; omega
     · have := zue l kind n (a + 1) (key + 1 + pk l a 10); simp only [List.length_cons]; omega
   · simp
theorem z030 {l : List Int} (hl : U16 l) : RecOk (madeT l) /\ (madeT l).keys.length <= 8 := by
 have q4 := z86 hl 4 (n := 8) (by omega); have := zue l (1 + pk l 0 2) (pk l 4 8 + 1).toNat 5 (pk l 3 20); unfold madeT RecOk; simp only; omega
end Clk
namespace Clk
open Go
theorem z031 (r : Record) (data : Str) : (encT r data).1.length <= 204 := by
 unfold encT; split
 · simp
 · rename_i h; have := zkv (r := r) (by cases hr : z2s r with
    | true => rfl
    | false => exact absurd (.inl hr) h)
   simp only [List.length_append, bytes4, List.length_cons, List.length_nil]; omega
theorem zvt {w : Write} (h : WriteOk w) : PageOk (makeT w).1 := by
 have := z031 w.record w.data; unfold makeT; split
 · exact ⟨by simp, by simp⟩
 · exact ⟨by simp only; omega, h.2⟩
def pgT (seq : Int) (l : List Int) : Page := (makeT ⟨[100], ⟨(madeT l).kind, seq, (madeT l).keys, (madeT l).values⟩⟩).1
theorem z05m {l : List Int} (hl : U16 l) (seq : Int) : WriteOk ⟨[100], ⟨(madeT l).kind, seq, (madeT l).keys, (madeT l).values⟩⟩ := ⟨(z030 hl).1, by simp⟩
theorem zrz {seq : Int} {l : List Int} (hl : U16 l) (hn : l.length < 9223372036854775808) : z7s (seq, l) = some (pgT seq l) := by
 show z7r seq l = _; unfold z7r; rw [zry hl hn, z7, zrt (z05m hl seq)]; rfl
def z0b (l : List Int) (a : Nat) : Nat := min (a + 1 + (l.getD a 0).toNat / 50 % 8) l.length
def stepC (l : List Int) (m : Int) (a : Nat) (c : Chip) : Chip :=
 let n := l.getD a 0
 let page := pgT (n / 7 % 30) ((l.drop a).take (z0b l a - a))
 let f : Fate := if n % 11 = 0 then ⟨1, [120], page.tag, 0⟩ else z2n
 let c1 := if n % 29 = 0 then (eraT c (n % m) z2n).1 else c
 let r := progT c1 (n % m) (nextOf c1 (n % m)) page f
 if r.2 = 1 then c1 else r.1
def chipL (l : List Int) (m : Int) : Nat -> Nat -> Chip -> Chip
 | 0, _, c => c
 | k + 1, a, c => if a < l.length then chipL l m k (max (z0b l a) (a + 1)) (stepC l m a c) else c
def chipT (l : List Int) (blocks pages : Int) : Chip := chipL l blocks 40 0 (newT blocks pages []).1
theorem zl1 {c : Chip} (h : z0s c) (b : Int) (f : Fate) : z0s (eraT c b f).1 /\ (eraT c b f).1.blocks.length = c.blocks.length := by
 unfold eraT; split
 · exact ⟨h, rfl⟩
 · split
   · rename_i hc; unfold canEra at hc; simp only [Bool.and_eq_true, decide_eq_true_eq] at hc; refine ⟨⟨by simpa using h.1, fun x hx => ?_⟩, by simp⟩; rcases List.mem_or_eq_of_mem_set hx with h3 | rfl
     · exact h.2 x h3
     · have := h.get (show b.toNat < c.blocks.length by omega) default; unfold z84; split
       · exact this
       · simp only [zp3]; exact this
   · exact ⟨h, rfl⟩
theorem z00y (all : Bool) (n : Int) : ∀ (i : Nat) (l : List Page), (∀ p ∈ l, PageOk p) -> ∀ p ∈ clrT all n i l, PageOk p
 | _, [], _, p, hp => by cases hp
 | i, q :: l, h, p, hp => by
   unfold clrT at hp; rcases List.mem_cons.1 hp with rfl | hp
   · split
     · exact ⟨by simp [z5k], by simp [z5k]⟩
     · exact h _ List.mem_cons_self
   · exact z00y all n (i + 1) l (fun x hx => h x (List.mem_cons_of_mem _ hx)) p hp
theorem zh2 {c : Chip} (h : PagesOk c) (b : Int) (f : Fate) : PagesOk (eraT c b f).1 := by
 unfold eraT; split
 · exact h
 · split
   · rename_i hc; unfold canEra at hc; simp only [Bool.and_eq_true, decide_eq_true_eq] at hc; intro x hx; rcases List.mem_or_eq_of_mem_set hx with h3 | rfl
     · exact h x h3
     · have := h _ (z07 (d := default) (show b.toNat < c.blocks.length by omega)); unfold z84; split
       · exact this
       · exact z00y _ _ 0 _ this
   · exact h
theorem zl2 {c : Chip} (h : PagesOk c) (b p : Int) {page : Page} {f : Fate} (hp : PageOk page) (hf : f.tag.length < 4294967296 /\ f.data.length < 4294967296) : PagesOk (progT c b p page f).1 := by
 unfold progT; split
 · exact h
 · split
   · rename_i hc; obtain ⟨h1, h2, _⟩ := z4h.1 hc; intro x hx; rcases List.mem_or_eq_of_mem_set hx with h3 | rfl
     · exact h x h3
     · have h4 := h _ (z07 (d := default) (show b.toNat < c.blocks.length by omega)); unfold z4y; intro q hq; rcases List.mem_or_eq_of_mem_set hq with h5 | rfl
       · exact h4 q h5
       · split
         · exact ⟨hp.1, hp.2⟩
         · exact hf
   · exact h
theorem U16.sub {l m : List Int} (h : U16 l) (hm : ∀ n ∈ m, n ∈ l) : U16 m := fun n hn => h n (hm n hn)
theorem U16.part {l : List Int} (h : U16 l) (a k : Nat) : U16 ((l.drop a).take k) := h.sub fun n hn => List.mem_of_mem_drop (List.mem_of_mem_take hn)
structure CI (c : Chip) (m : Int) : Prop where
 ok : z0s c
 pages : PagesOk c
 len : (c.blocks.length : Int) = m
theorem zvu {l : List Int} (hl : U16 l) {m : Int} {a : Nat} {c : Chip} (h : CI c m) : CI (stepC l m a c) m := by
 have h1 : CI (if l.getD a 0 % 29 = 0 then (eraT c (l.getD a 0 % m) z2n).1 else c) m := by
  split
  · exact ⟨(zl1 h.ok _ _).1, zh2 h.pages _ _, by rw [(zl1 h.ok _ _).2]; exact h.len⟩
  · exact h
 have h2 : PageOk (pgT (l.getD a 0 / 7 % 30) ((l.drop a).take (z0b l a - a))) := zvt (z05m (hl.part a _) _); have h3 : (if l.getD a 0 % 11 = 0 then (⟨1, [120], (pgT (l.getD a 0 / 7 % 30) ((l.drop a).take (z0b l a - a))).tag, 0⟩ : Fate) else z2n).tag.length < 4294967296 /\ (if l.getD a 0 % 11 = 0 then (⟨1, [120], (pgT (l.getD a 0 / 7 % 30) ((l.drop a).take (z0b l a - a))).tag, 0⟩ : Fate) else z2n).data.length < 4294967296 := by
  split
  · exact ⟨h2.1, by simp⟩
  · exact ⟨by simp [z2n], by simp [z2n]⟩
 unfold stepC; simp only; generalize (if l.getD a 0 % 29 = 0 then (eraT c (l.getD a 0 % m) z2n).1 else c) = c1 at h1; generalize (if l.getD a 0 % 11 = 0 then (⟨1, [120], (pgT (l.getD a 0 / 7 % 30) ((l.drop a).take (z0b l a - a))).tag, 0⟩ : Fate) else z2n) = f at h3; split
 · exact h1
 · exact ⟨z02z h1.ok _ _ _ _, zl2 h1.pages _ _ h2 h3, by rw [zi0]; exact h1.len⟩
theorem zfs {l : List Int} (hl : U16 l) (hn : l.length < 9223372036854775808) {m : Int} (hm : 0 < m) (hm2 : m < 4294967296) : ∀ (k N a : Nat) (ai i : Int) (c : Chip), ai = a -> i = 40 - (k : Int) -> k <= 40 -> a + 10 * k <= 400 -> CI c m -> k < N -> zf z17 N (l, m, ai, i, c) = some (chipL l m k a c)
 | k, 0, _, _, _, _, _, _, _, _, _, h => by omega
 | 0, N + 1, a, ai, i, c, h1, h2, _, _, _, _ => by
   rw [z6, z7t]; unfold z3o; simp only [chipL]; rw [zF (by omega), zD]
 | k + 1, N + 1, a, ai, i, c, h1, h2, h3, ha4, h4, h5 => by
   subst h1; rw [z6, z7t]; unfold z3o; simp only [Int.toNat_natCast, chipL]; rw [zT (show i < 40 by omega), zC]; by_cases ha : a < l.length
   · rw [zT (show (a : Int) < l.length by omega), zC, if_pos ha]; have hg := hl.get a; have hci := zvu hl (a := a) h4; have hna : z0b l a <= a + 10 := by unfold z0b; omega
     have ih := zfs hl hn hm hm2 k N (max (z0b l a) (a + 1)) ((max (z0b l a) (a + 1) : Nat) : Int) (w64 (i + 1)) _ rfl (by rw [ze (by omega) (by omega)]; omega) (by omega) (by omega) hci (by omega); rw [<- ih]; obtain ⟨q, hq⟩ : ∃ q : Nat, l.getD a 0 = q := ⟨(l.getD a 0).toNat, by omega⟩; have hnx : z0b l a = min (a + 1 + q / 50 % 8) l.length := by unfold z0b; rw [hq]; rfl
     have b0 : ∀ m : Int, 0 < m -> Int.tmod (q : Int) m = (q : Int) % m := fun m hm => Int.tmod_eq_emod_of_nonneg (by omega)
     have bm : 0 <= (q : Int) % m /\ (q : Int) % m < m := ⟨Int.emod_nonneg _ (by omega), Int.emod_lt_of_pos _ hm⟩; have d50 : Int.tdiv (q : Int) 50 = ((q / 50 : Nat) : Int) := zd6 q 50; have d7 : Int.tdiv (q : Int) 7 = ((q / 7 : Nat) : Int) := zd6 q 7; have m8 : Int.tmod ((q / 50 : Nat) : Int) 8 = ((q / 50 % 8 : Nat) : Int) := zao (q / 50) 8; have m30 : Int.tmod ((q / 7 : Nat) : Int) 30 = ((q / 7 % 30 : Nat) : Int) := zao (q / 7) 30; have m11 : Int.tmod (q : Int) 11 = (q : Int) % 11 := b0 11 (by omega); have m29 : Int.tmod (q : Int) 29 = (q : Int) % 29 := b0 29 (by omega); have emin : min (w64 (w64 ((a : Int) + 1) + ((q / 50 % 8 : Nat) : Int))) (l.length : Int) = ((z0b l a : Nat) : Int) := by
      rw [ze (n := (a : Int) + 1) (by omega) (by omega), ze (by omega) (by omega), hnx]; omega
     have eseq : ((q / 7 % 30 : Nat) : Int) = l.getD a 0 / 7 % 30 := by rw [hq]; omega
     have hpage : z7s (((q / 7 % 30 : Nat) : Int), (l.drop a).take (Int.toNat ((z0b l a : Nat) : Int) - a)) = some (pgT (l.getD a 0 / 7 % 30) ((l.drop a).take (z0b l a - a))) := by
      rw [zrz (hl.part a _) (by simp only [List.length_take, List.length_drop]; omega), eseq, Int.toNat_natCast]
     have emax : max ((z0b l a : Nat) : Int) (w64 ((a : Int) + 1)) = ((max (z0b l a) (a + 1) : Nat) : Int) := by rw [ze (n := (a : Int) + 1) (by omega) (by omega)]; omega
     have wi : w64 (i + 1) = i + 1 := ze (by omega) (by omega); simp only [hq]; rw [ze (n := (q : Int)) (by omega) (by omega), d50, d7, ze (n := ((q / 50 : Nat) : Int)) (by omega) (by omega), ze (n := ((q / 7 : Nat) : Int)) (by omega) (by omega), m8, m30, m11, m29, b0 m hm, emin, emax, hpage]; simp only [z7, zp4 h4.ok]; rw [zT (show (0 : Int) <= a by omega), zF (show ¬ m = 0 by omega), zT (show (a : Int) <= ((z0b l a : Nat) : Int) by rw [hnx]; omega), zT (show ((z0b l a : Nat) : Int) <= l.length by rw [hnx]; omega), zT bm.1]; simp only [zC, Bool.not_false]; have fin : ∀ (c1 : Chip) (f : Fate), CI c1 m -> c1 = (if l.getD a 0 % 29 = 0 then (eraT c (l.getD a 0 % m) z2n).1 else c) -> f = (if l.getD a 0 % 11 = 0 then (⟨1, [120], (pgT (l.getD a 0 / 7 % 30) ((l.drop a).take (z0b l a - a))).tag, 0⟩ : Fate) else z2n) ->
      (cond (decide ((q : Int) % m < (c1.blocks.length : Int))) (Option.bind (z0r (c1, (q : Int) % m, (c1.blocks.getD (Int.toNat ((q : Int) % m)) default).next, pgT (l.getD a 0 / 7 % 30) ((l.drop a).take (z0b l a - a)), f)) fun r8 =>
      cond (!(decide (r8.2 = 1)))
       (zf z17 N (l, m, ((max (z0b l a) (a + 1) : Nat) : Int), (w64 (i + 1)), r8.1))
       (zf z17 N (l, m, ((max (z0b l a) (a + 1) : Nat) : Int), (w64 (i + 1)), c1))) none) = zf z17 N (l, m, ((max (z0b l a) (a + 1) : Nat) : Int), (w64 (i + 1)), stepC l m a c) := by
      intro c1 f hc1 e1 e2; have est : stepC l m a c = if (progT c1 ((q : Int) % m) (nextOf c1 ((q : Int) % m)) (pgT (l.getD a 0 / 7 % 30) ((l.drop a).take (z0b l a - a))) f).2 = 1 then c1 else (progT c1 ((q : Int) % m) (nextOf c1 ((q : Int) % m)) (pgT (l.getD a 0 / 7 % 30) ((l.drop a).take (z0b l a - a))) f).1 := by
       rw [e1, e2, <- hq]; rfl
      rw [zT (by rw [hc1.len]; exact bm.2), zC, zkz hc1.ok, z7, est]; show cond (!decide ((progT c1 ((q : Int) % m) (nextOf c1 ((q : Int) % m)) (pgT (l.getD a 0 / 7 % 30) ((l.drop a).take (z0b l a - a))) f).2 = 1)) _ _ = _; by_cases h : (progT c1 ((q : Int) % m) (nextOf c1 ((q : Int) % m)) (pgT (l.getD a 0 / 7 % 30) ((l.drop a).take (z0b l a - a))) f).2 = 1
      · rw [zT h, Bool.not_true, zD, if_pos h]
      · rw [zF h, Bool.not_false, zC, if_neg h]; rfl
     have hce : CI (eraT c ((q : Int) % m) z2n).1 m := ⟨(zl1 h4.ok _ _).1, zh2 h4.pages _ _, by rw [(zl1 h4.ok _ _).2]; exact h4.len⟩; by_cases x11 : (q : Int) % 11 = 0
     · rw [zT x11, zC]; by_cases x29 : (q : Int) % 29 = 0
       · rw [zT x29, zC]; exact fin _ _ hce (by rw [hq, if_pos x29] <;> rfl) (by rw [hq, if_pos x11])
       · rw [zF x29, zD]; exact fin _ _ h4 (by rw [hq, if_neg x29]) (by rw [hq, if_pos x11])
     · rw [zF x11, zD]; by_cases x29 : (q : Int) % 29 = 0
       · rw [zT x29, zC]; exact fin _ _ hce (by rw [hq, if_pos x29] <;> rfl) (by rw [hq, if_neg x11]; rfl)
       · rw [zF x29, zD]; exact fin _ _ h4 (by rw [hq, if_neg x29]) (by rw [hq, if_neg x11]; rfl)
   · rw [zF (show ¬ (a : Int) < l.length by omega), zD, if_neg ha]
theorem zvv (n : Int) (bs : List Block) : newL n [] bs = (⟨bs, false, false, 0⟩, 0) := rfl
theorem zp6 {g : Geometry} (hg : g ∈ z2t) : CI (newT g.blocks g.pages []).1 g.blocks /\ 0 < g.blocks /\ g.blocks < 4294967296 := by
 have : 1 <= g.blocks /\ g.blocks <= 32 /\ 1 <= g.pages /\ g.pages <= 16 := by
  simp only [z2t, List.mem_cons, List.not_mem_nil, or_false] at hg; rcases hg with rfl | rfl | rfl | rfl | rfl | rfl <;> decide
 obtain ⟨h1, h2⟩ := zuc g.blocks g.pages []; refine ⟨⟨h1, h2, ?_⟩, by omega, by omega⟩; unfold newT; rw [if_neg (by omega), zvv]; simp only [List.length_replicate]; omega
theorem zs0 {l : List Int} (hl : U16 l) (hn : l.length < 9223372036854775808) {g : Geometry} (hg : g ∈ z2t) : zbu (l, g.blocks, g.pages) = some (chipT l g.blocks g.pages) := by
 obtain ⟨h1, h2, h3⟩ := zp6 hg; refine z0k 41 fun N hN => ?_
 show z7u N l g.blocks g.pages = _; unfold z7u chipT; rw [zua (by simp), z7]; exact zfs hl hn h2 h3 40 N 0 0 0 _ rfl (by omega) (by omega) (by omega) h1 (by omega)
theorem zvw {l : List Int} (hl : U16 l) {m : Int} : ∀ (k a : Nat) (c : Chip), CI c m -> CI (chipL l m k a c) m
 | 0, a, c, h => h
 | k + 1, a, c, h => by
   unfold chipL; split
   · exact zvw hl k _ _ (zvu hl h)
   · exact h
theorem z032 {l : List Int} (hl : U16 l) {g : Geometry} (hg : g ∈ z2t) : CI (chipT l g.blocks g.pages) g.blocks := zvw hl 40 0 _ (zp6 hg).1
theorem zxr (n : Int) : smallT n ∈ z2t := zud (P := (· ∈ z2t)) (fun g h => h) n
theorem zxs (c : Chip) (n : Int) : TabOk (replayT c n).1 := by
 obtain ⟨h1, h2⟩ := zvr (allT c) (tabT n) 0; have := z00u n; unfold replayT; exact ⟨by rw [h1]; exact this.1, by rw [h2]; exact this.2⟩
theorem zl3 {g : Geometry} {c : Chip} (h : z0s c) : DevOk (z0m g c).1 := by
 unfold z0m; split
 · exact ⟨⟨by simp [zDev], fun b hb => by simp [zDev] at hb⟩, ⟨by simp [zDev], by simp [zDev]⟩⟩
 · split
   · exact ⟨⟨by simp [zDev], fun b hb => by simp [zDev] at hb⟩, ⟨by simp [zDev], by simp [zDev]⟩⟩
   · exact ⟨⟨h.1, h.2⟩, zxs c _⟩
theorem zxt {g : Geometry} {bad : List Int} : DevOk (formatT g bad).1 := by
 unfold formatT; split
 · exact ⟨⟨by simp [zDev], fun b hb => by simp [zDev] at hb⟩, ⟨by simp [zDev], by simp [zDev]⟩⟩
 · exact zl3 (zuc _ _ _).1
end Clk
namespace Clk
open Go
def fresh (g : Geometry) : Device :=
 ⟨g, ⟨List.replicate g.blocks.toNat ⟨List.replicate g.pages.toNat z5k, 0, 0, false⟩, false, false, 0⟩, ⟨List.replicate g.sectors.toNat (-1), List.replicate g.sectors.toNat (-1)⟩, 0, -1⟩
theorem zs1 {α : Type} {l : List α} {i j : Nat} {x d : α} (h : i ≠ j) : (l.set i x).getD j d = l.getD j d := by
 rw [zI, List.getElem?_set_ne h, <- zI]
end Clk
namespace Clk
open Go
theorem zeo {n : Nat} (h : n < 256) : (UInt8.ofNat n).toNat = n := by simp; omega
theorem zs2 : ∀ (f n acc u : Nat) (first : Bool) (rest : Str), n < 128 ^ (f + 1) -> acc + n * u <= 1099511627776 -> (first = true \/ 0 < n) -> takeN (f + 1) first acc u (putN f n ++ rest) = (((acc + n * u : Nat) : Int), rest, true)
 | 0, n, acc, u, first, rest, h1, h2, h3 => by
   have hn : n < 128 := by simpa using h1
   simp only [putN, List.singleton_append, takeN, zeo (show n < 256 by omega)]; rw [if_pos hn, if_neg]; rintro (h | ⟨h, h'⟩)
   · omega
   · rcases h3 with h3 | h3
     · rw [h3] at h; cases h
     · omega
 | f + 1, n, acc, u, first, rest, h1, h2, h3 => by
   unfold putN; by_cases hn : 127 < n
   · rw [if_pos hn]; simp only [List.cons_append, takeN, zeo (show 128 + n % 128 < 256 by omega)]; have e1 : (128 + n % 128) % 128 = n % 128 := by omega
     have e2 : acc + n % 128 * u + n / 128 * (u * 128) = acc + n * u := by
      have : n * u = n % 128 * u + n / 128 * (u * 128) := by
       have h := Nat.div_add_mod n 128; calc n * u = (128 * (n / 128) + n % 128) * u := by rw [h]
        _ = n % 128 * u + n / 128 * (u * 128) := by rw [Nat.add_mul, Nat.add_comm]; congr 1; rw [Nat.mul_comm 128, Nat.mul_assoc, Nat.mul_comm 128]
      omega
     rw [if_neg (by omega), e1, zs2 f (n / 128) _ _ false rest (by rw [Nat.pow_succ] at h1; omega) (by rw [e2]; exact h2) (.inr (by omega)), e2]
   · rw [if_neg hn]; simp only [List.singleton_append, takeN, zeo (show n < 256 by omega)]; rw [if_pos (by omega), if_neg]; rintro (h | ⟨h, h'⟩)
     · omega
     · rcases h3 with h3 | h3
       · rw [h3] at h; cases h
       · omega
def Small40 (n : Int) : Prop := 0 <= n /\ n <= 1099511627776
theorem zs3 {n : Int} (h : Small40 n) (rest : Str) : z7d (putV n ++ rest) = (n, rest, true) := by
 unfold putV z7d; rw [if_neg (by have := h.1; have := h.2; omega)]; obtain ⟨h1, h2⟩ := h; rw [zs2 5 n.toNat 0 1 true rest (by have : (128 : Nat) ^ (5 + 1) = 4398046511104 := rfl; omega) (by omega) (.inl rfl)]; have : ((0 + n.toNat * 1 : Nat) : Int) = n := by omega
 rw [this]
def flatP (l : List Int) : Str := l.flatMap putV
theorem zn5 : ∀ (l : List Int) (s : Str), (∀ n ∈ l, Small40 n) -> packL l s = (s ++ flatP l, 0)
 | [], s, _ => by simp [packL, flatP]
 | n :: l, s, h => by
   obtain ⟨h1, h2⟩ := h n List.mem_cons_self; unfold packL; have : putV n ≠ [] := by unfold putV; rw [if_neg (by omega)]; exact zu6 5 _
   rw [if_neg this, zn5 l _ fun m hm => h m (List.mem_cons_of_mem _ hm)]; simp [flatP]
theorem zs4 : ∀ (l : List Int), (∀ n ∈ l, Small40 n) -> l.length <= (flatP l).length
 | [], _ => Nat.zero_le _
 | n :: l, h => by
   obtain ⟨h1, h2⟩ := h n List.mem_cons_self; have h3 := zs4 l fun m hm => h m (List.mem_cons_of_mem _ hm)
   have : putV n ≠ [] := by unfold putV; rw [if_neg (by omega)]; exact zu6 5 _
   have : 0 < (putV n).length := List.length_pos_iff.2 this; simp only [flatP, List.flatMap_cons, List.length_append, List.length_cons] at h3 ⊢; omega
theorem zi1 : ∀ (l : List Int) (rest : Str) (acc : List Int), (∀ n ∈ l, Small40 n) -> unpackL l.length (flatP l ++ rest) acc = (acc ++ l, rest, 0)
 | [], rest, acc, _ => by simp [unpackL, flatP]
 | n :: l, rest, acc, h => by
   have e : flatP (n :: l) ++ rest = putV n ++ (flatP l ++ rest) := by simp [flatP]
   simp only [List.length_cons, unpackL, e, zs3 (h n List.mem_cons_self)]; rw [if_neg (by simp), zi1 l rest _ fun m hm => h m (List.mem_cons_of_mem _ hm)]; simp
theorem zep {l : List Int} (hl : ∀ n ∈ l, Small40 n) (hn : l.length <= 1099511627776) (rest : Str) : zd ((packT l).1 ++ rest) = (l, rest, 0) := by
 have hf := zs4 l hl; have e : (packT l).1 ++ rest = putV l.length ++ (flatP l ++ rest) := by unfold packT; rw [zn5 l _ hl]; simp
 unfold zd; rw [e, zs3 ⟨by omega, by omega⟩]; simp only; rw [if_neg (by simp; omega), Int.toNat_natCast, zi1 l rest [] hl]; simp
theorem z06o {l : List Int} (h : l.all vr = true) : mvT (zen 1 l) = l := by
 unfold mvT zen; rw [List.map_map]; conv => rhs; rw [<- List.map_id l]
 refine List.map_congr_left fun n hn => ?_
 have := zp2 h n hn; show w64 (w64 (n + 1) - 1) = n; rw [ze (n := n + 1) (by omega) (by omega), ze (by omega) (by omega)]; omega
theorem z05n {r : Record} {data : Str} (h : z2s r = true) (hd : data.length <= 16) : decT (encT r data).1 data = (r, 0) := by
 obtain ⟨k0, k1, k2, k3, k4, k5, k6, k7⟩ := zd8 h; have hk : ∀ n ∈ r.keys, Small40 n := fun n hn => by have := zkw k7 n hn; exact ⟨by omega, by omega⟩
 have hv : ∀ n ∈ zen 1 r.values, Small40 n := fun n hn => by
  unfold zen at hn; obtain ⟨m, hm, rfl⟩ := List.mem_map.1 hn; have := zp2 k6 m hm; rw [ze (by omega) (by omega)]; exact ⟨by omega, by omega⟩
 have hh : ∀ n ∈ [r.kind, r.seq], Small40 n := fun n hn => by
  simp only [List.mem_cons, List.not_mem_nil, or_false] at hn; rcases hn with rfl | rfl
  · exact ⟨by omega, by omega⟩
  · exact ⟨k3, k4⟩
 have hml : (zen 1 r.values).length = r.values.length := by simp [zen]
 have hE : encT r data = (bodyT r ++ bytes4 (crcT (bodyT r ++ data)), 0) := by
  unfold encT; rw [if_neg]; rintro (h1 | h1)
  · rw [h] at h1; cases h1
  · omega
 generalize hX : bytes4 (crcT (bodyT r ++ data)) = X at hE; have u1 : zd (encT r data).1 = ([r.kind, r.seq], (packT r.keys).1 ++ ((packT (zen 1 r.values)).1 ++ X), 0) := by
  rw [hE]; unfold bodyT; simp only [List.append_assoc]; exact zep hh (by simp) _
 have u2 : zd ((packT r.keys).1 ++ ((packT (zen 1 r.values)).1 ++ X)) = (r.keys, (packT (zen 1 r.values)).1 ++ X, 0) := zep hk (by omega) _; have u3 : zd ((packT (zen 1 r.values)).1 ++ X) = (zen 1 r.values, X, 0) := zep hv (by omega) _; have hr : (⟨r.kind, r.seq, r.keys, mvT (zen 1 r.values)⟩ : Record) = r := by rw [z06o k6]
 unfold decT; rw [u1]; simp only; rw [u2]; simp only; rw [u3]; simp only [List.length_cons, List.length_nil]; rw [if_neg (by simp)]; have e0 : [r.kind, r.seq].getD 0 0 = r.kind := rfl; have e1 : [r.kind, r.seq].getD 1 0 = r.seq := rfl; rw [e0, e1, hr, if_neg]; rw [hE]; simp
theorem zxu {p : Page} (h : (lookT p).1 = 1) : z2s (lookT p).2 = true := by
 unfold lookT at h ⊢; split at h
 · simp at h
 · rename_i h1; rw [if_neg h1]; split at h
   · simp at h
   · rename_i h2; rw [if_neg h2]; simp only [ne_eq, Decidable.not_not] at h2; simp only; unfold decT at h2 ⊢; split at h2
     · simp at h2
     · rename_i h3; rw [if_neg h3]; split at h2
       · simp at h2
       · rename_i h4; rw [if_neg h4]; simp only; generalize hR : (⟨(zd p.tag).1.getD 0 0, (zd p.tag).1.getD 1 0, (zd (zd p.tag).2.1).1, mvT (zd (zd (zd p.tag).2.1).2.1).1⟩ : Record) = R at h4; cases hr : z2s R with
         | true => rfl
         | false =>
           exfalso; apply h4
           left; unfold encT; rw [if_pos (.inl hr)]; simp
def vv (b p : Nat) (pg : Page) : List Found := if (lookT pg).1 = 1 /\ 0 <= placeT b p then [⟨placeT b p, (lookT pg).2⟩] else []
def vp (b : Nat) : Nat -> List Page -> List Found
 | _, [] => []
 | p, pg :: l => vv b p pg ++ vp b (p + 1) l
def vb : Nat -> List Block -> List Found
 | _, [] => []
 | b, x :: l => vp b 0 x.pages ++ vb (b + 1) l
theorem zl4 (b : Nat) : ∀ (l : List Page) (p : Nat) (out : List Found), pagesT b p l out = (vp b p l).foldl insT out
 | [], p, out => rfl
 | pg :: l, p, out => by
   unfold pagesT vp vv; rw [zl4 b l (p + 1), List.foldl_append]; split <;> rfl
theorem zcn : ∀ (l : List Block) (b : Nat) (out : List Found), blocksT b l out = (vb b l).foldl insT out
 | [], b, out => rfl
 | x :: l, b, out => by
   unfold blocksT vb; rw [zcn l (b + 1), List.foldl_append, zl4]
theorem zvx : ∀ (B l : List Found) (y : Found), y ∈ B.foldl insT l ↔ y ∈ l \/ y ∈ B
 | [], l, y => by simp
 | b :: B, l, y => by
   have hi : ∀ (l : List Found) (x : Found), y ∈ insT l x ↔ y = x \/ y ∈ l := by
    intro l x; induction l with
    | nil => simp [insT]
    | cons z l ih =>
      unfold insT; split
      · simp
      · simp only [List.mem_cons, ih]; constructor
        · rintro (h | h | h)
          · exact .inr (.inl h)
          · exact .inl h
          · exact .inr (.inr h)
        · rintro (h | h | h)
          · exact .inr (.inl h)
          · exact .inl h
          · exact .inr (.inr h)
   simp only [List.foldl_cons, zvx B, hi, List.mem_cons]; constructor
   · rintro ((h | h) | h)
     · exact .inr (.inl h)
     · exact .inl h
     · exact .inr (.inr h)
   · rintro (h | h | h)
     · exact .inl (.inr h)
     · exact .inl (.inl h)
     · exact .inr h
end Clk
namespace Clk
open Go
def BlkG (g : Geometry) (b : Block) : Prop := (b.pages.length : Int) = g.pages /\ 0 <= b.next /\ ∀ i : Nat, b.next <= i -> i < b.pages.length -> (b.pages.getD i default).written = false
structure ChipG (g : Geometry) (c : Chip) : Prop where
 len : (c.blocks.length : Int) = g.blocks
 each : ∀ b ∈ c.blocks, BlkG g b
 pages : PagesOk c
theorem z4i : ∀ g ∈ z2t, 1 <= g.blocks /\ g.blocks <= 32 /\ 1 <= g.pages /\ g.pages <= 16 /\ fitsT g = true := by
 intro g hg; simp only [z2t, List.mem_cons, List.not_mem_nil, or_false] at hg; rcases hg with rfl | rfl | rfl | rfl | rfl | rfl <;> decide
theorem ChipG.ok {g : Geometry} (hg : g ∈ z2t) {c : Chip} (h : ChipG g c) : z0s c := by
 obtain ⟨h1, h2, h3, h4, _⟩ := z4i g hg; refine ⟨by have := h.len; omega, fun b hb => ?_⟩; have := (h.each b hb).1; omega
theorem z00z {g : Geometry} (hg : g ∈ z2t) {bl : Block} (h : BlkG g bl) {p : Int} (h0 : 0 <= p) (h1 : p < bl.pages.length) (hn : bl.next = p) (page : Page) (f : Fate) : BlkG g (z4y bl p page f) := by
 obtain ⟨k1, k2, k3, k4, _⟩ := z4i g hg; obtain ⟨h2, h3, h4⟩ := h; have e : w64 (bl.next + 1) = bl.next + 1 := ze (by omega) (by omega); refine ⟨by simpa [z4y] using h2, by simp only [z4y, e]; omega, fun i hi hl => ?_⟩; simp only [z4y, e] at hi; simp only [z4y, List.length_set] at hl ⊢; rw [zs1 (by omega)]; exact h4 i (by omega) hl
theorem zvy (n : Int) : ∀ (i : Nat) (l : List Page), ∀ p ∈ clrT true n i l, p = z5k
 | _, [], p, hp => by cases hp
 | i, q :: l, p, hp => by
   unfold clrT at hp; rcases List.mem_cons.1 hp with rfl | hp
   · rw [if_pos (.inl rfl)]
   · exact zvy n (i + 1) l p hp
theorem z033 {g : Geometry} {bl : Block} (h : BlkG g bl) : BlkG g (z84 bl z2n) := by
 unfold z84; rw [if_neg (by decide)]; refine ⟨by simp only [zp3]; exact h.1, by simp only; rw [if_neg (by decide)]; omega, fun i _ hl => ?_⟩; have : (clrT (decide (z2n.kind = 0)) z2n.n 0 bl.pages).getD i default ∈ clrT true z2n.n 0 bl.pages := z07 hl; show ((clrT (decide (z2n.kind = 0)) z2n.n 0 bl.pages).getD i default).written = false; rw [zvy _ _ _ _ this]; rfl
theorem z034 {g : Geometry} (hg : g ∈ z2t) {c : Chip} (h : ChipG g c) (b p : Int) {page : Page} {f : Fate} (hp : PageOk page) (hf : f.tag.length < 4294967296 /\ f.data.length < 4294967296) : ChipG g (progT c b p page f).1 := by
 refine ⟨by rw [zi0]; exact h.len, ?_, zl2 h.pages b p hp hf⟩; unfold progT; split
 · exact h.each
 · split
   · rename_i hc; obtain ⟨h1, h2, h3, h4, h5, h6, _⟩ := z4h.1 hc; intro x hx; rcases List.mem_or_eq_of_mem_set hx with h7 | rfl
     · exact h.each x h7
     · exact z00z hg (h.each _ (z07 (by omega))) h3 h4 h6 _ _
   · exact h.each
theorem z05o {g : Geometry} (hg : g ∈ z2t) {c : Chip} (h : ChipG g c) (b : Int) : ChipG g (eraT c b z2n).1 := by
 refine ⟨by rw [(zl1 (h.ok hg) b z2n).2]; exact h.len, ?_, zh2 h.pages b z2n⟩; unfold eraT; split
 · exact h.each
 · split
   · rename_i hc; unfold canEra at hc; simp only [Bool.and_eq_true, decide_eq_true_eq] at hc; intro x hx; rcases List.mem_or_eq_of_mem_set hx with h7 | rfl
     · exact h.each x h7
     · exact z033 (h.each _ (z07 (by omega)))
   · exact h.each
theorem z035 {g : Geometry} (hg : g ∈ z2t) {l : List Int} (hl : U16 l) {m : Int} {a : Nat} {c : Chip} (h : ChipG g c) : ChipG g (stepC l m a c) := by
 have h1 : ChipG g (if l.getD a 0 % 29 = 0 then (eraT c (l.getD a 0 % m) z2n).1 else c) := by
  split
  · exact z05o hg h _
  · exact h
 have h2 : PageOk (pgT (l.getD a 0 / 7 % 30) ((l.drop a).take (z0b l a - a))) := zvt (z05m (hl.part a _) _); have h3 : (if l.getD a 0 % 11 = 0 then (⟨1, [120], (pgT (l.getD a 0 / 7 % 30) ((l.drop a).take (z0b l a - a))).tag, 0⟩ : Fate) else z2n).tag.length < 4294967296 /\ (if l.getD a 0 % 11 = 0 then (⟨1, [120], (pgT (l.getD a 0 / 7 % 30) ((l.drop a).take (z0b l a - a))).tag, 0⟩ : Fate) else z2n).data.length < 4294967296 := by
  split
  · exact ⟨h2.1, by simp⟩
  · exact ⟨by simp [z2n], by simp [z2n]⟩
 unfold stepC; simp only; generalize (if l.getD a 0 % 29 = 0 then (eraT c (l.getD a 0 % m) z2n).1 else c) = c1 at h1; generalize (if l.getD a 0 % 11 = 0 then (⟨1, [120], (pgT (l.getD a 0 / 7 % 30) ((l.drop a).take (z0b l a - a))).tag, 0⟩ : Fate) else z2n) = f at h3; split
 · exact h1
 · exact z034 hg h1 _ _ h2 h3
theorem zvz {g : Geometry} (hg : g ∈ z2t) {l : List Int} (hl : U16 l) {m : Int} : ∀ (k a : Nat) (c : Chip), ChipG g c -> ChipG g (chipL l m k a c)
 | 0, a, c, h => h
 | k + 1, a, c, h => by
   unfold chipL; split
   · exact zvz hg hl k _ _ (z035 hg hl h)
   · exact h
theorem z05p {g : Geometry} (hg : g ∈ z2t) : ChipG g (newT g.blocks g.pages []).1 := by
 obtain ⟨k1, k2, k3, k4, _⟩ := z4i g hg; refine ⟨(zp6 hg).1.len, ?_, (zp6 hg).1.pages⟩; unfold newT; rw [if_neg (by omega), zvv]; intro b hb; obtain ⟨_, rfl⟩ := List.mem_replicate.1 hb; refine ⟨by simp only [List.length_replicate]; omega, by simp only; omega, fun i _ hl => ?_⟩; have : (List.replicate g.pages.toNat z5k).getD i default ∈ List.replicate g.pages.toNat z5k := z07 hl; show ((List.replicate g.pages.toNat z5k).getD i default).written = false; rw [(List.mem_replicate.1 this).2]; rfl
theorem z036 {g : Geometry} (hg : g ∈ z2t) {l : List Int} (hl : U16 l) : ChipG g (chipT l g.blocks g.pages) := zvz hg hl 40 0 _ (z05p hg)
theorem zw0 {g : Geometry} : ∀ (l : List Block) (i : Nat) (o : Int), (∀ b ∈ l, BlkG g b) -> ∃ o', mtL g i l o = some o'
 | [], i, o, _ => ⟨o, rfl⟩
 | b :: l, i, o, h => by
   unfold mtL; rw [if_neg (by have := (h b List.mem_cons_self).1; simp [this])]; exact zw0 l _ _ fun x hx => h x (List.mem_cons_of_mem _ hx)
theorem z037 {g : Geometry} (hg : g ∈ z2t) {c : Chip} (h : ChipG g c) : ∃ o, z0m g c = (⟨g, onT c, (replayT c g.sectors).1, (replayT c g.sectors).2, o⟩, 0) := by
 obtain ⟨_, _, _, _, hf⟩ := z4i g hg; obtain ⟨o, ho⟩ := zw0 (g := g) c.blocks 0 (-1) h.each; refine ⟨o, ?_⟩; unfold z0m; rw [if_neg (by rw [hf]; simp [h.len]), ho]
end Clk
namespace Clk
open Go
theorem zp7 (n : Int) (r : Str) (ok : Bool) : z64 (n, r, ok) = some (if ok = false \/ 1099511627776 < n then (0, [], false) else (n, r, true)) := by
 show z63 n r ok = _; unfold z63; cases ok with
 | false => simp
 | true =>
   by_cases h : 1099511627776 < n
   · rw [zT h, if_pos (.inr h)]; rfl
   · rw [zF h, if_neg (by simp; omega)]; rfl
theorem zxv : (List.range 256).map (fun c : Nat => w64 (bAndNot .i64 (w64 (c : Int)) 128)) = (List.range 256).map (fun c : Nat => ((c % 128 : Nat) : Int)) := by kernel_rfl
theorem z05q : (List.range 6).map (fun k : Nat => (w64 (7 * (k : Int)), (2 : Int) ^ (min (Int.toNat (w64 (7 * (k : Int)))) 64))) = (List.range 6).map (fun k : Nat => (((7 * k : Nat) : Int), ((128 ^ k : Nat) : Int))) := by kernel_rfl
theorem z010 {c : Nat} (h : c < 256) : w64 (bAndNot .i64 (w64 (c : Int)) 128) = ((c % 128 : Nat) : Int) := by
 have := congrArg (fun l => l[c]?) zxv; simpa only [List.getElem?_map, List.getElem?_range h, Option.map_some, Option.some.injEq] using this
theorem pow7 {k : Nat} (h : k < 6) : w64 (7 * (k : Int)) = ((7 * k : Nat) : Int) /\ (2 : Int) ^ (min (Int.toNat (w64 (7 * (k : Int)))) 64) = ((128 ^ k : Nat) : Int) := by
 have := congrArg (fun l => l[k]?) z05q; simp only [List.getElem?_map, List.getElem?_range h, Option.map_some, Option.some.injEq, Prod.mk.injEq] at this; exact this
theorem z06p {n m k : Nat} (h : n < 128 ^ k) : n ||| m * 128 ^ k = n + m * 128 ^ k := by
 have e : 128 ^ k = 2 ^ (7 * k) := by rw [Nat.pow_mul]
 rw [e] at h ⊢; have := Nat.two_pow_add_eq_or_of_lt h m; rw [Nat.or_comm, Nat.mul_comm m, <- this]; omega
theorem zi2 {s : Str} (hs : s.length < 4294967296) : ∀ (f N : Nat) (l : Str) (n k : Nat) (i cnt : Int), s.drop k = l -> i = k -> cnt = min (s.length : Int) 6 -> k + f = 6 -> n < 128 ^ k -> f < N -> zf z8l N (s, n, cnt, i) = some (takeN f (k == 0) n (128 ^ k) l)
 | f, 0, _, _, _, _, _, _, _, _, _, _, h => by omega
 | 0, N + 1, l, n, k, i, cnt, h1, h2, hc, h3, h4, h6 => by
   rw [z6, z4b]; unfold z2r; simp only [takeN]; rw [zF (show ¬ i < cnt by omega), zD]
 | f + 1, N + 1, [], n, k, i, cnt, h1, h2, hc, h3, h4, h6 => by
   have := zu h1; rw [z6, z4b]; unfold z2r; simp only [takeN]; rw [zF (show ¬ i < cnt by omega), zD]
 | f + 1, N + 1, c :: l, n, k, i, cnt, h1, h2, hcn, h3, h4, h6 => by
   obtain ⟨g1, g2, g3⟩ := zn h1; subst h2; have hc := z02r c; have hu : 128 ^ k <= 34359738368 := Nat.le_trans (Nat.pow_le_pow_right (by omega) (show k <= 5 by omega)) (by decide); have hu0 : 0 < 128 ^ k := Nat.pow_pos (by omega); have hm2 : c.toNat % 128 * 128 ^ k <= 127 * 128 ^ k := Nat.mul_le_mul (by omega) (Nat.le_refl _); obtain ⟨p1, p2⟩ := pow7 (show k < 6 by omega); have hor : w64 (bOr .i64 (n : Int) (w64 ((w64 (bAndNot .i64 (w64 (c.toNat : Int)) 128)) * 2 ^ (min (Int.toNat (w64 (7 * (k : Int)))) 64)))) = ((n + c.toNat % 128 * 128 ^ k : Nat) : Int) := by
    rw [z010 hc, p2]; have e2 : ((c.toNat % 128 : Nat) : Int) * ((128 ^ k : Nat) : Int) = ((c.toNat % 128 * 128 ^ k : Nat) : Int) := by push_cast; rfl
    rw [e2, ze (n := ((c.toNat % 128 * 128 ^ k : Nat) : Int)) (by omega) (by omega), z00h (k := .i64) (show n < 2 ^ 64 by omega) (show c.toNat % 128 * 128 ^ k < 2 ^ 64 by omega), z06p h4, ze (by omega) (by omega)]
   rw [z6, z4b]; unfold z2r; simp only [Int.toNat_natCast, g2, takeN]; rw [zT (show (k : Int) < cnt by omega), zT (show (k : Int) < s.length by omega), zT (show (0 : Int) <= k by omega), p1, zT (show (0 : Int) <= ((7 * k : Nat) : Int) by omega)]; rw [p1] at hor; simp only [Int.toNat_natCast] at hor ⊢; rw [hor, ze (n := (c.toNat : Int)) (by omega) (by omega), ze (n := (k : Int) + 1) (by omega) (by omega)]; simp only [zC, zp7, z7]; have e4 : Int.toNat ((k : Int) + 1) = k + 1 := by omega
   by_cases h7 : c.toNat < 128
   · have e3 : c.toNat % 128 = c.toNat := Nat.mod_eq_of_lt h7; rw [zT (show (c.toNat : Int) < 128 by omega), zC, if_pos h7, zT (show (0 : Int) <= (k : Int) + 1 by omega), zT (show (k : Int) + 1 <= s.length by omega), e4, g3, e3]; simp only [zC]; by_cases h9 : k = 0
     · subst h9; rw [zT (show ((0 : Nat) : Int) = 0 from rfl), zC]; by_cases h8 : 1099511627776 < n + c.toNat * 128 ^ 0
       · rw [if_pos (.inr (by omega)), if_pos (.inl h8)]
       · rw [if_neg (by simp; omega), if_neg (by simp; omega)]
     · rw [zF (show ¬ (k : Int) = 0 by omega), zD]; by_cases h8 : 1099511627776 < n + c.toNat * 128 ^ k
       · rw [if_pos (.inr (by omega)), if_pos (.inl h8)]
       · by_cases h10 : c.toNat = 0
         · rw [if_pos (.inl (by simp; omega)), if_pos (.inr ⟨by simpa using h9, h10⟩)]
         · rw [if_neg (by rintro (h | h); simp at h; omega; omega), if_neg (by rintro (h | ⟨_, h⟩); exact h8 h; exact h10 h)]
   · rw [zF (show ¬ (c.toNat : Int) < 128 by omega), zD, if_neg h7]; have hn2 : n + c.toNat % 128 * 128 ^ k < 128 ^ (k + 1) := by rw [Nat.pow_succ]; omega
     have := zi2 hs f N l (n + c.toNat % 128 * 128 ^ k) (k + 1) ((k : Int) + 1) cnt g3 (by omega) hcn (by omega) hn2 (by omega); rw [this, Nat.pow_succ]; rfl
theorem zl5 {s : Str} (hs : s.length < 4294967296) : za3 s = some (z7d s) := by
 refine z0k 7 fun N hN => ?_
 exact zi2 hs 6 N s 0 0 0 _ rfl rfl rfl (by omega) (by omega) (by omega)
theorem zdm {n : Int} (hn : n < 4294967296) : ∀ (m N k : Nat) (i : Int) (s : Str) (acc : List Int), (k : Int) + m = n -> i = k -> s.length < 4294967296 -> acc.length = k -> m < N -> zf z5j N (s, n, i, acc) = some (unpackL m s acc)
 | m, 0, _, _, _, _, _, _, _, _, h => by omega
 | 0, N + 1, k, i, s, acc, h1, h2, h3, h4, h5 => by
   rw [z6, z74]; unfold z32; simp only [unpackL]; rw [zF (by omega)]; rfl
 | m + 1, N + 1, k, i, s, acc, h1, h2, h3, h4, h5 => by
   rw [z6, z74]; unfold z32; simp only [unpackL, zl5 h3, z7]; rw [zT (show i < n by omega), zC]; have hl := zfp s; cases hb : (z7d s).2.2 with
   | false => rfl
   | true =>
     rw [if_neg (by simp), Bool.not_true, zD]; rw [zT (by simp; omega), zC, zT (by simp; omega), zC]; exact zdm hn m N (k + 1) _ _ _ (by omega) (by rw [ze (by omega) (by omega)]; omega) (by omega) (by simp; omega) (by omega)
theorem zap {s : Str} (hs : s.length < 4294967296) : z3r s = some (zd s) := by
 refine z0k (s.length + 1) fun N hN => ?_
 show z65 N s = _; unfold z65 zd; simp only [zl5 hs, z7]; have hl := zfp s; have hn := z02t s; cases hb : (z7d s).2.2 with
 | false => rfl
 | true =>
   rw [Bool.not_true, zD]; by_cases h1 : ((z7d s).2.1.length : Int) < (z7d s).1
   · rw [zT h1, zC, if_pos (.inr h1)]
   · rw [zF h1, zD, if_neg (by simp; omega)]; exact zdm (by omega) _ N 0 0 _ _ (by omega) rfl (by omega) rfl (by omega)
def tagOk (s : Str) : Prop := (zd s).2.2 = 0 -> (zd s).1.length = 2 -> (zd (zd s).2.1).2.2 = 0
theorem zxw {s : Str} (hs : s.length < 4294967296) (ht : tagOk s) : zgj s = some (if (zd s).2.2 ≠ 0 \/ (zd s).1.length ≠ 2 \/ (zd (zd (zd s).2.1).2.1).2.2 ≠ 0 then (zRec, 30) else (⟨(zd s).1.getD 0 0, (zd s).1.getD 1 0, (zd (zd s).2.1).1, zen (-1) (zd (zd (zd s).2.1).2.1).1⟩, 0)) := by
 have q1 := z36 s; have q2 := z36 (zd s).2.1; have q3 := z36 (zd (zd s).2.1).2.1; unfold tagOk at ht; show readF z3r (fun l => z35 (l, -1)) s = _; unfold readF; simp only [zap hs]; by_cases c1 : (zd s).2.2 = 0
 · rw [zT c1, zC]; by_cases c2 : (zd s).1.length = 2
   · rw [zT c2, zC]; simp only [zap (show (zd s).2.1.length < 4294967296 by omega)]; rw [zT (ht c1 c2), zC]; simp only [zap (show (zd (zd s).2.1).2.1.length < 4294967296 by omega)]; by_cases c3 : (zd (zd (zd s).2.1).2.1).2.2 = 0
     · rw [zT c3, zC, if_neg (by simp [c1, c2, c3])]; simp only [zkx (show (zd (zd (zd s).2.1).2.1).1.length < 4294967296 by omega)]
     · rw [zF c3, zD, if_pos (.inr (.inr c3))]; rfl
   · rw [zF c2, zD, if_pos (.inr (.inl c2))]; rfl
 · rw [zF c1, zD, if_pos (.inl c1)]; rfl
theorem z05r (l : List Int) : zen (-1) l = mvT l := by unfold zen mvT; rfl
theorem zs5 {tag data : Str} (ht : tag.length < 4294967296) (hd : data.length < 4294967296) (hk : tagOk tag) : zc2 (tag, data) = some (decT tag data) := by
 have q1 := z36 tag; have q2 := z36 (zd tag).2.1; have q3 := z36 (zd (zd tag).2.1).2.1; show z7z tag data = _; unfold z7z; rw [zxw ht hk, z7]; unfold decT; have hk' := hk; unfold tagOk at hk'; split
 · rename_i h; rw [zF (by decide), Bool.not_false, zC, if_pos (by
    rcases h with h | h | h
    · exact .inl h
    · exact .inr (.inr (.inr h))
    · exact .inr (.inr (.inl h)))]
   rfl
 · rename_i h; simp only [not_or, Decidable.not_not] at h; obtain ⟨c1, c2, c3⟩ := h; rw [zT rfl, Bool.not_true, zD, if_neg (by simp [c1, c2, c3, hk' c1 c2])]; simp only; rw [z05r, zrs ⟨by show (zd (zd tag).2.1).1.length < _; omega, by show (mvT _).length < _; unfold mvT; rw [List.length_map]; omega⟩ hd, z7]; generalize ({ kind := _, seq := _, keys := _, values := _ } : Record) = r; by_cases e1 : (encT r data).2 = 0
   · rw [zT e1, Bool.not_true, zD]; by_cases e2 : (encT r data).1 = tag
     · rw [zT e2, Bool.not_true, zD, if_neg (by simp [e1, e2])]
     · rw [zF e2, Bool.not_false, zC, if_pos (.inr e2)]; rfl
   · rw [zF e1, Bool.not_false, zC, if_pos (.inl e1)]; rfl
theorem zuf {p : Page} (h : PageOk p) (hk : tagOk p.tag) : ze7 p = some (lookT p) := by
 show za4 p = _; unfold za4 lookT; cases p.written with
 | false => rfl
 | true =>
   rw [Bool.not_true, zD, zs5 h.1 h.2 hk, z7, if_neg (by simp)]; by_cases c : (decT p.tag p.data).2 = 0
   · rw [zT c, zC, if_neg (by simp [c])]
   · rw [zF c, zD, if_pos c]; rfl
end Clk
namespace Clk
open Go
def TagsOk (c : Chip) : Prop := ∀ b ∈ c.blocks, ∀ p ∈ b.pages, tagOk p.tag
theorem z011 : ∀ (l : List Found) (f : Found), insF l f = insT l f
 | [], f => rfl
 | x :: l, f => by
   unfold insF insT; rw [z011 l f]; rfl
theorem z038 (l : List Found) : sortF l = l.foldl insT [] := by
 unfold sortF; rw [show insF = insT from funext fun l => funext fun f => z011 l f]
theorem zik {b p : Nat} {pg : Page} {f : Found} (h : f ∈ vv b p pg) : f.place = 16 * (b : Int) + p /\ p < 16 /\ b < 32 := by
 unfold vv at h; split at h
 · rename_i hc; obtain ⟨h1, h2⟩ := z02v hc.2; simp at h; subst h; refine ⟨?_, h2, h1⟩; show placeT b p = _; unfold placeT; rw [if_neg (by omega)]; omega
 · cases h
theorem zft {b : Nat} : ∀ {l : List Page} {p : Nat} {f : Found}, f ∈ vp b p l -> ∃ q : Nat, p <= q /\ q < 16 /\ b < 32 /\ f.place = 16 * (b : Int) + q
 | [], p, f, h => by simp [vp] at h
 | pg :: l, p, f, h => by
   unfold vp at h; rcases List.mem_append.1 h with h | h
   · obtain ⟨h1, h2, h3⟩ := zik h; exact ⟨p, Nat.le_refl _, h2, h3, h1⟩
   · obtain ⟨q, h1, h2⟩ := zft h; exact ⟨q, by omega, h2⟩
theorem zw1 : ∀ {l : List Block} {b : Nat} {f : Found}, f ∈ vb b l -> ∃ c q : Nat, b <= c /\ q < 16 /\ f.place = 16 * (c : Int) + q
 | [], b, f, h => by simp [vb] at h
 | x :: l, b, f, h => by
   unfold vb at h; rcases List.mem_append.1 h with h | h
   · obtain ⟨q, _, h2, _, h3⟩ := zft h; exact ⟨b, q, Nat.le_refl _, h2, h3⟩
   · obtain ⟨c, q, h1, h2⟩ := zw1 h; exact ⟨c, q, by omega, h2⟩
theorem z05s (b p : Nat) (pg : Page) : (vv b p pg).Pairwise (fun x y => x.place < y.place) := by
 unfold vv; split <;> simp
theorem z012 (b : Nat) : ∀ (l : List Page) (p : Nat), (vp b p l).Pairwise (fun x y => x.place < y.place)
 | [], p => by simp [vp]
 | pg :: l, p => by
   unfold vp; refine List.pairwise_append.2 ⟨z05s b p pg, z012 b l (p + 1), fun x hx y hy => ?_⟩; obtain ⟨h1, _, _⟩ := zik hx; obtain ⟨q, h2, _, _, h3⟩ := zft hy; omega
theorem z013 : ∀ (l : List Block) (b : Nat), (vb b l).Pairwise (fun x y => x.place < y.place)
 | [], b => by simp [vb]
 | x :: l, b => by
   unfold vb; refine List.pairwise_append.2 ⟨z012 b _ 0, z013 l (b + 1), fun x hx y hy => ?_⟩; obtain ⟨q, _, h1, _, h2⟩ := zft hx; obtain ⟨c, r, h3, _, h4⟩ := zw1 hy; omega
theorem zs6 : ∀ {l : List Found}, l.Pairwise (fun x y => x.place < y.place) -> distF l = true
 | [], _ => rfl
 | x :: l, h => by
   rw [List.pairwise_cons] at h; unfold distF; rw [Bool.and_eq_true]; refine ⟨List.all_eq_true.2 fun y hy => ?_, zs6 h.2⟩; have := h.1 y hy; simp only [Bool.not_eq_true', decide_eq_false_iff_not, Prod.mk.injEq]; omega
theorem z041 (b p : Nat) (pg : Page) : (vv b p pg).length <= 1 := by unfold vv; split <;> simp
theorem z014 {M : List Block × Int × Int × List Found -> Option (List Found)} {bs : List Block} {n : Int} {b : Nat} {pgs : List Page} (hs : pgs.length < 4294967296) (hb : b < 4294967296) (hp : ∀ p ∈ pgs, PageOk p) (ht : ∀ p ∈ pgs, tagOk p.tag) : ∀ (l : List Page) (N p : Nat) (i : Int) (out : List Found), pgs.drop p = l -> i = p -> out.length <= min (16 * b + min p 16) 512 -> l.length < N ->
 zf (za5 M) N ((b : Int), bs, n, (b : Int), pgs, (pgs.length : Int), i, out) = M (bs, n, ((b + 1 : Nat) : Int), out ++ vp b p l)
 | l, 0, _, _, _, _, _, _, h => by omega
 | [], N + 1, p, i, out, h1, h2, h3, _ => by
   have h4 := zu h1; rw [z6, zb0]; unfold z67; simp only [vp, List.append_nil]; rw [zF (by omega), zD, ze (by omega) (by omega)]; rfl
 | pg :: l, N + 1, p, i, out, h1, h2, h3, h5 => by
   obtain ⟨g1, g2, g3⟩ := zn h1; subst h2; have hmem : pg ∈ pgs := by rw [<- g2 default]; exact z07 g1
   simp at h5; have hv := z041 b p pg; have hv2 : vv b p pg ≠ [] -> b < 32 /\ p < 16 := fun h => by
    cases hvv : vv b p pg with
    | nil => exact absurd hvv h
    | cons f r => have := zik (f := f) (by rw [hvv]; simp); omega
   have hlen : (out ++ vv b p pg).length <= min (16 * b + min (p + 1) 16) 512 := by
    rw [List.length_append]; by_cases hvv : vv b p pg = []
    · rw [hvv]; simp; omega
    · have := hv2 hvv; omega
   have ih := z014 (M := M) (bs := bs) (n := n) hs hb hp ht l N (p + 1) ((p : Int) + 1) (out ++ vv b p pg) g3 (by omega) hlen (by omega); rw [z6, zb0]; unfold z67; simp only [Int.toNat_natCast, g2, vp]; rw [zT (show (p : Int) < (pgs.length : Int) by omega), zT (show (0 : Int) <= p by omega)]; simp only [zC, zrv, z7]; rw [ze (n := (p : Int) + 1) (by omega) (by omega), zuf (hp pg hmem) (ht pg hmem), z7, <- List.append_assoc, <- ih]; by_cases c1 : 0 <= placeT b p
   · rw [zT c1, zC]; by_cases c2 : (lookT pg).1 = 1
     · rw [zT c2, zC]; have e : vv b p pg = [⟨placeT b p, (lookT pg).2⟩] := by unfold vv; rw [if_pos ⟨c2, c1⟩]
       rw [e] at hlen ⊢; rw [zT (by simp at hlen ⊢; omega), zC, zT (by simp at hlen ⊢; omega), zC]
     · rw [zF c2, zD]; have e : vv b p pg = [] := by unfold vv; rw [if_neg (fun h => c2 h.1)]
       rw [e, List.append_nil]
   · rw [zF c1, zD]; have e : vv b p pg = [] := by unfold vv; rw [if_neg (fun h => c1 h.2)]
     rw [e, List.append_nil]
theorem z042 (b : Nat) : ∀ (l : List Page) (p : Nat), (vp b p l).length <= 16 - min p 16 /\ (32 <= b -> vp b p l = [])
 | [], p => by simp [vp]
 | pg :: l, p => by
   unfold vp; obtain ⟨h1, h2⟩ := z042 b l (p + 1); have hv := z041 b p pg; have hv2 : vv b p pg ≠ [] -> b < 32 /\ p < 16 := fun h => by
    cases hvv : vv b p pg with
    | nil => exact absurd hvv h
    | cons f r => have := zik (f := f) (by rw [hvv]; simp); omega
   by_cases hvv : vv b p pg = []
   · rw [hvv]; simp only [List.nil_append]; exact ⟨by omega, h2⟩
   · obtain ⟨h3, h4⟩ := hv2 hvv; rw [List.length_append]; exact ⟨by omega, fun h => by omega⟩
theorem z015 {c : Chip} (hc : z0s c) (hp : PagesOk c) (ht : TagsOk c) {M : Nat} (hM : ∀ b ∈ c.blocks, b.pages.length < M) : ∀ (l : List Block) (N b : Nat) (i : Int) (out : List Found), c.blocks.drop b = l -> i = b -> out.length <= min (16 * b) 512 -> (out ++ vb b l).Pairwise (fun x y => x.place < y.place) -> l.length < N ->
 zf (za6 M) N (c.blocks, (c.blocks.length : Int), i, out) = some (sortF (out ++ vb b l))
 | l, 0, _, _, _, _, _, _, _, h => by omega
 | [], N + 1, b, i, out, h1, h2, h3, h6, _ => by
   have h4 := zu h1; rw [z6, zb1]; unfold z68; simp only [vb, List.append_nil] at h6 ⊢; rw [zF (by omega), zD, zs6 h6, zC, zT (by omega), zC]
 | x :: l, N + 1, b, i, out, h1, h2, h3, h6, h5 => by
   obtain ⟨g1, g2, g3⟩ := zn h1; subst h2; have hmem : x ∈ c.blocks := by rw [<- g2 default]; exact z07 g1
   have hb := hc.1; simp at h5; rw [z6, zb1]; unfold z68; simp only [Int.toNat_natCast, g2, vb]; rw [zT (show (b : Int) < (c.blocks.length : Int) by omega), zT (show (0 : Int) <= b by omega)]; simp only [zC]; rw [z014 (hc.2 x hmem) (by omega) (fun p h => hp x hmem p h) (fun p h => ht x hmem p h) x.pages M 0 0 out rfl rfl (by omega) (hM x hmem), <- List.append_assoc]; obtain ⟨k1, k2⟩ := z042 b x.pages 0; have hlen : (out ++ vp b 0 x.pages).length <= min (16 * (b + 1)) 512 := by
    rw [List.length_append]; by_cases h32 : 32 <= b
    · rw [k2 h32]; simp; omega
    · omega
   exact z015 hc hp ht hM l N (b + 1) _ _ g3 rfl hlen (by rw [List.append_assoc]; exact h6) (by omega)
theorem zi3 {α : Type} (f : α -> Nat) : ∀ (l : List α), ∃ M, ∀ x ∈ l, f x < M
 | [] => ⟨0, fun _ h => by cases h⟩
 | x :: l => by
   obtain ⟨M, h⟩ := zi3 f l; exact ⟨max M (f x + 1), fun y hy => by
    rcases List.mem_cons.1 hy with rfl | hy
    · omega
    · have := h y hy; omega⟩
theorem zxx {c : Chip} (hc : z0s c) (hp : PagesOk c) (ht : TagsOk c) : zgk c = some (allT c) := by
 obtain ⟨M, hM⟩ := zi3 (fun b : Block => b.pages.length) c.blocks; refine z0k (max M (c.blocks.length + 1)) fun N hN => ?_
 show zd0 N c = _; unfold zd0; have := z015 hc hp ht (M := N) (fun b hb => by have := hM b hb; omega) c.blocks N 0 0 [] rfl rfl (by simp) (by rw [List.nil_append]; exact z013 _ 0) (by omega); rw [this, List.nil_append, z038]; unfold allT; rw [zcn]
end Clk
namespace Clk
open Go
def AllP (Q : Page -> Prop) (c : Chip) : Prop := ∀ b ∈ c.blocks, ∀ p ∈ b.pages, Q p
theorem zs7 {Q : Page -> Prop} (hz : Q z5k) (all : Bool) (n : Int) : ∀ (i : Nat) (l : List Page), (∀ p ∈ l, Q p) -> ∀ p ∈ clrT all n i l, Q p
 | _, [], _, p, hp => by cases hp
 | i, q :: l, h, p, hp => by
   unfold clrT at hp; rcases List.mem_cons.1 hp with rfl | hp
   · split
     · exact hz
     · exact h _ List.mem_cons_self
   · exact zs7 hz all n (i + 1) l (fun x hx => h x (List.mem_cons_of_mem _ hx)) p hp
theorem z039 {Q : Page -> Prop} (hz : Q z5k) {c : Chip} (h : AllP Q c) (b : Int) (f : Fate) : AllP Q (eraT c b f).1 := by
 unfold eraT; split
 · exact h
 · split
   · rename_i hc; unfold canEra at hc; simp only [Bool.and_eq_true, decide_eq_true_eq] at hc; intro x hx; rcases List.mem_or_eq_of_mem_set hx with h3 | rfl
     · exact h x h3
     · have := h _ (z07 (d := default) (show b.toNat < c.blocks.length by omega)); unfold z84; split
       · exact this
       · exact zs7 hz _ _ 0 _ this
   · exact h
theorem z016 {Q : Page -> Prop} {c : Chip} (h : AllP Q c) (b p : Int) {page : Page} {f : Fate} (hp : Q ⟨true, page.data, page.tag⟩) (hf : f.kind ≠ 0 -> Q ⟨true, f.data, f.tag⟩) : AllP Q (progT c b p page f).1 := by
 unfold progT; split
 · exact h
 · split
   · rename_i hc; obtain ⟨h1, h2, _⟩ := z4h.1 hc; intro x hx; rcases List.mem_or_eq_of_mem_set hx with h3 | rfl
     · exact h x h3
     · have h4 := h _ (z07 (d := default) (show b.toNat < c.blocks.length by omega)); unfold z4y; intro q hq; rcases List.mem_or_eq_of_mem_set hq with h5 | rfl
       · exact h4 q h5
       · split
         · exact hp
         · rename_i hk; exact hf hk
   · exact h
theorem zw2 {Q : Page -> Prop} (hz : Q z5k) (n p : Int) (bad : List Int) : AllP Q (newT n p bad).1 := by
 unfold newT; split
 · intro b hb; simp [zChip] at hb
 · rename_i h; obtain ⟨h1, h2⟩ := zub (n := n) (m := n.toNat) bad (List.replicate n.toNat ⟨List.replicate p.toNat z5k, 0, 0, false⟩) (fun b hb => by
    obtain ⟨_, rfl⟩ := List.mem_replicate.1 hb; exact ⟨by simp; omega, fun q hq => (List.mem_replicate.1 hq).2⟩) (by simp)
   intro b hb q hq; rw [(h1 b hb).2 q hq]; exact hz
theorem zl6 : tagOk [] := by
 intro h; exact absurd h (by decide)
theorem z05t {tag data : Str} {r : Record} (h : decT tag data = (r, 0)) : tagOk tag := by
 intro h1 h2; unfold decT at h; split at h
 · cases h
 · rename_i hn; exact Decidable.byContradiction fun hc => hn (.inr (.inl hc))
theorem z05u (r : Record) (data : Str) : tagOk (encT r data).1 := by
 by_cases h : z2s r = false \/ 16 < data.length
 · have : (encT r data).1 = [] := by unfold encT; rw [if_pos h]
   rw [this]; exact zl6
 · simp only [not_or] at h; exact z05t (z05n (by simpa using h.1) (by omega))
theorem z03a (w : Write) : tagOk (makeT w).1.tag := by
 unfold makeT; split
 · exact zl6
 · exact z05u _ _
theorem z017 {l : List Int} {m : Int} {a : Nat} {c : Chip} (h : AllP (fun p => tagOk p.tag) c) : AllP (fun p => tagOk p.tag) (stepC l m a c) := by
 unfold stepC; simp only; have h1 : AllP (fun p => tagOk p.tag) (if l.getD a 0 % 29 = 0 then (eraT c (l.getD a 0 % m) z2n).1 else c) := by
  split
  · exact z039 zl6 h _ _
  · exact h
 have hp : tagOk (pgT (l.getD a 0 / 7 % 30) ((l.drop a).take (z0b l a - a))).tag := z03a _; have hf : (if l.getD a 0 % 11 = 0 then (⟨1, [120], (pgT (l.getD a 0 / 7 % 30) ((l.drop a).take (z0b l a - a))).tag, 0⟩ : Fate) else z2n).kind ≠ 0 -> tagOk (if l.getD a 0 % 11 = 0 then (⟨1, [120], (pgT (l.getD a 0 / 7 % 30) ((l.drop a).take (z0b l a - a))).tag, 0⟩ : Fate) else z2n).tag := by
  split
  · intro _; exact hp
  · intro hk; exact absurd rfl hk
 generalize (if l.getD a 0 % 29 = 0 then (eraT c (l.getD a 0 % m) z2n).1 else c) = c1 at h1; generalize (if l.getD a 0 % 11 = 0 then (⟨1, [120], (pgT (l.getD a 0 / 7 % 30) ((l.drop a).take (z0b l a - a))).tag, 0⟩ : Fate) else z2n) = f at hf; split
 · exact h1
 · exact z016 h1 _ _ hp hf
theorem zn6 {l : List Int} {m : Int} : ∀ (k a : Nat) (c : Chip), AllP (fun p => tagOk p.tag) c -> AllP (fun p => tagOk p.tag) (chipL l m k a c)
 | 0, a, c, h => h
 | k + 1, a, c, h => by
   unfold chipL; split
   · exact zn6 k _ _ (z017 h)
   · exact h
theorem zxy (l : List Int) (b p : Int) : TagsOk (chipT l b p) := zn6 40 0 _ (zw2 zl6 b p [])
theorem zxz (M : Nat) : (List.range 65).map (fun m : Nat => z73 (M + 8) [-1] (m : Int)) = (List.range 65).map (fun m => some (List.replicate m (-1 : Int))) := by kernel_rfl
theorem z03b {n : Int} (h0 : 0 <= n) (h1 : n <= 64) : z3q ([-1], n) = some (List.replicate n.toNat (-1)) := by
 refine z0k 8 fun N hN => ?_
 obtain ⟨M, rfl⟩ : ∃ M, N = M + 8 := ⟨N - 8, by omega⟩; have h := congrArg (fun l => l[n.toNat]?) (zxz M); have hr : n.toNat < 65 := by omega
 simp only [List.getElem?_map, List.getElem?_range hr, Option.map_some, Option.some.injEq] at h; have e : ((n.toNat : Nat) : Int) = n := by omega
 rw [e] at h; exact h
theorem zs8 (n : Int) : zc1 n = some (tabT n) := by
 show z7y n = _; unfold z7y; rw [z03b (by omega) (by omega), z7, z7]; unfold tabT; rw [show (min (max n 0) 64).toNat = min n.toNat 64 by omega]
theorem z018 {t : Table} (h : TabOk t) (f : Found) : TabOk (applyT t f) := by
 obtain ⟨h1, h2⟩ := zn3 t f; exact ⟨by rw [h1]; exact h.1, by rw [h2]; exact h.2⟩
theorem zp8 : ∀ (l : List Found) (t u : Table) (s : Int), (repL l t s).2 = (repL l u s).2
 | [], t, u, s => rfl
 | f :: l, t, u, s => by unfold repL; exact zp8 l _ _ _
theorem zw3 : ∀ (l : List Found) (t : Table) (s r : Int), (repL l t s).1 = (repL l t r).1
 | [], t, s, r => rfl
 | f :: l, t, s, r => by unfold repL; exact zw3 l _ _ _
theorem zn7 {xs : List Found} (hs : xs.length < 4294967296) {u : Table} : ∀ (l : List Found) (N k : Nat) (i s : Int), xs.drop k = l -> i = k -> l.length < N -> zf (z3s u) N (s, xs, (xs.length : Int), i) = some (u, (repL l u s).2)
 | l, 0, _, _, _, _, _, h => by omega
 | [], N + 1, k, i, s, h1, h2, _ => by
   have := zu h1; rw [z6, z58]; unfold z1o; simp only [repL]; rw [zF (by omega), zD]
 | f :: l, N + 1, k, i, s, h1, h2, h4 => by
   obtain ⟨g1, g2, g3⟩ := zn h1; subst h2; rw [z6, z58]; unfold z1o; simp only [Int.toNat_natCast, g2, repL]; rw [zT (show (k : Int) < xs.length by omega), zT (show (0 : Int) <= k by omega)]; simp only [zC]; rw [zn7 hs l N (k + 1) _ _ g3 (by rw [ze (by omega) (by omega)]; omega) (by simp at h4; omega), zp8 l u (applyT u f)]
theorem zn8 {xs : List Found} (hs : xs.length < 4294967296) (hf : z85 xs) {M : Nat} (hM : xs.length < M) : ∀ (l : List Found) (N k : Nat) (i : Int) (t : Table), xs.drop k = l -> i = k -> TabOk t -> l.length < N -> zf (z3t M xs) N (xs, (xs.length : Int), i, t) = some ((repL l t 0).1, (repL xs t 0).2)
 | l, 0, _, _, _, _, _, _, h => by omega
 | [], N + 1, k, i, t, h1, h2, h3, _ => by
   have := zu h1; rw [z6, z59]; unfold z1p; dsimp only; rw [zF (by omega), zD]; exact zn7 hs xs M 0 0 0 rfl rfl hM
 | f :: l, N + 1, k, i, t, h1, h2, h3, h4 => by
   obtain ⟨g1, g2, g3⟩ := zn h1; subst h2; have hr : RecOk f.record := by rw [<- g2 default]; exact hf _ (z07 g1)
   rw [z6, z59]; unfold z1p; simp only [Int.toNat_natCast, g2, zm5 h3 hr, z7]; rw [zT (show (k : Int) < xs.length by omega), zT (show (0 : Int) <= k by omega)]; simp only [zC]; rw [zn8 hs hf hM l N (k + 1) _ _ g3 (by rw [ze (by omega) (by omega)]; omega) (z018 h3 f) (by simp at h4; omega)]; rw [show (repL (f :: l) t 0).1 = (repL l (applyT t f) 0).1 by rw [repL]; exact zw3 l _ _ _, zp8 xs (applyT t f) t]
theorem zl7 {c : Chip} (hc : z0s c) (hp : PagesOk c) (ht : TagsOk c) (n : Int) : z20 (c, n) = some (replayT c n) := by
 have := z02w c; refine z0k 4294967297 fun N hN => ?_
 show z3u N c n = _; unfold z3u; rw [zxx hc hp ht, z7, zs8, z7, zn8 (xs := allT c) (by omega) (z05l hp) (by omega) (allT c) N 0 0 _ rfl rfl (z00u n) (by omega)]; rfl
end Clk
namespace Clk
open Go
theorem zs9 : ∀ (l : List Found) (t : Table) (s : Int), (repL l t s).1 = l.foldl applyT t
 | [], t, s => rfl
 | f :: l, t, s => by unfold repL; exact zs9 l _ _
theorem z03c {b p : Nat} {pg : Page} {f : Found} (h : f ∈ vv b p pg) : z2s f.record = true := by
 unfold vv at h; split at h
 · rename_i hc; simp at h; subst h; exact zxu hc.1
 · cases h
theorem zw4 (b : Nat) : ∀ (l : List Page) (p : Nat) (f : Found), f ∈ vp b p l -> z2s f.record = true
 | [], p, f, h => by simp [vp] at h
 | pg :: l, p, f, h => by
   unfold vp at h; rcases List.mem_append.1 h with h | h
   · exact z03c h
   · exact zw4 b l (p + 1) f h
theorem zw5 : ∀ (l : List Block) (b : Nat) (f : Found), f ∈ vb b l -> z2s f.record = true
 | [], b, f, h => by simp [vb] at h
 | x :: l, b, f, h => by
   unfold vb at h; rcases List.mem_append.1 h with h | h
   · exact zw4 b _ 0 f h
   · exact zw5 l (b + 1) f h
theorem z03d (c : Chip) (f : Found) : f ∈ allT c ↔ f ∈ vb 0 c.blocks := by
 unfold allT; rw [zcn, zvx]; simp
end Clk
namespace Clk
open Go
end Clk
namespace Clk
open Go
end Clk
namespace Clk
open Go
def pageT (c : Chip) (place : Int) : Page × Bool :=
 if place < 0 \/ (c.blocks.length : Int) <= place / 16 \/ 32 <= place / 16 \/ ((c.blocks.getD (place / 16).toNat default).pages.length : Int) <= place % 16 then (z5k, false)
 else ((c.blocks.getD (place / 16).toNat default).pages.getD (place % 16).toNat default, true)
def I64 (n : Int) : Prop := -9223372036854775808 <= n /\ n < 9223372036854775808
theorem zug (c : Chip) {place : Int} (hp : I64 place) : ze8 (c, place) = some (pageT c place) := by
 obtain ⟨p1, p2⟩ := hp; show za7 c place = _; unfold za7 pageT; by_cases c1 : place < 0
 · rw [zT c1, zC, if_pos (.inl c1)]; rfl
 · rw [zF c1, zD, Int.tdiv_eq_ediv_of_nonneg (by omega), Int.tmod_eq_emod_of_nonneg (by omega), ze (n := place / 16) (by omega) (by omega)]; by_cases c2 : min (c.blocks.length : Int) 32 <= place / 16
   · rw [zT c2, zC, if_pos (by omega)]; rfl
   · rw [zF c2, zD, zT (show 0 <= place / 16 by omega), zT (show place / 16 < (c.blocks.length : Int) by omega)]; simp only [zC]; by_cases c3 : ((c.blocks.getD (place / 16).toNat default).pages.length : Int) <= place % 16
     · rw [zT c3, zC, if_pos (by omega)]; rfl
     · rw [zF c3, zD, zT (show 0 <= place % 16 by omega), zT (show place % 16 < ((c.blocks.getD (place / 16).toNat default).pages.length : Int) by omega), if_neg (by omega)]; rfl
end Clk
namespace Clk
open Go
theorem zp9 {x : Bool} {xs : List Bool} (hs : xs.length < 4294967296) : ∀ (l : List Bool) (N k : Nat) (i : Int), xs.drop k = l -> i = k -> l.length < N -> ∃ r, zf z0q N (xs, x, (xs.length : Int), i) = some r /\ (decide (0 <= r) = l.contains x)
 | l, 0, _, _, _, _, h => by omega
 | [], N + 1, k, i, h1, h2, _ => by
   have := zu h1; refine ⟨-1, ?_, by simp⟩; rw [z6, z08]; unfold z0p; dsimp only; rw [zF (by omega), zD]
 | y :: l, N + 1, k, i, h1, h2, h4 => by
   obtain ⟨g1, g2, g3⟩ := zn h1; subst h2; rw [z6, z08]; unfold z0p; simp only [Int.toNat_natCast, g2]; rw [zT (show (k : Int) < xs.length by omega), zT (show (0 : Int) <= k by omega)]; simp only [zC]; by_cases hy : x = y
   · subst hy; exact ⟨k, by simp, by simp⟩
   · obtain ⟨r, k1, k2⟩ := zp9 (x := x) hs l N (k + 1) _ g3 (show w64 ((k : Int) + 1) = ((k + 1 : Nat) : Int) by rw [ze (by omega) (by omega)]; omega) (by simp at h4; omega); refine ⟨r, ?_, ?_⟩
     · rw [show (x == y) = false by simpa using hy, zD]; exact k1
     · rw [k2, List.contains_cons]; simp [hy]
theorem zy0 {x : Bool} {xs : List Bool} (hs : xs.length < 4294967296) : z4c (xs, x) = some (xs.contains x) := by
 obtain ⟨r, h1, h2⟩ : ∃ r, z8m (xs, x) = some r /\ decide (0 <= r) = xs.contains x := by
  obtain ⟨r, h1, h2⟩ := zp9 (x := x) hs xs (xs.length + 1) 0 0 rfl rfl (by omega); refine ⟨r, z0k (xs.length + 1) fun N hN => ?_, h2⟩; obtain ⟨r', k1, _⟩ := zp9 (x := x) hs xs N 0 0 rfl rfl (by omega); show zf z0q N (xs, x, (xs.length : Int), 0) = _; have e : ∀ (l : List Bool) (N M k : Nat) (i : Int), xs.drop k = l -> i = k -> l.length < N -> l.length < M -> zf z0q N (xs, x, (xs.length : Int), i) = zf z0q M (xs, x, (xs.length : Int), i) := by
   intro l; induction l with
   | nil =>
     intro N M k i h1 h2 h3 h4; obtain ⟨N, rfl⟩ : ∃ n, N = n + 1 := ⟨N - 1, by omega⟩; obtain ⟨M, rfl⟩ : ∃ n, M = n + 1 := ⟨M - 1, by omega⟩; have := zu h1; rw [z6, z6, z08, z08]; unfold z0p; dsimp only; rw [zF (by omega), zD]; rfl
   | cons y l ih =>
     intro N M k i h1 h2 h3 h4; obtain ⟨N, rfl⟩ : ∃ n, N = n + 1 := ⟨N - 1, by omega⟩; obtain ⟨M, rfl⟩ : ∃ n, M = n + 1 := ⟨M - 1, by omega⟩; obtain ⟨g1, g2, g3⟩ := zn h1; subst h2; rw [z6, z6, z08, z08]; unfold z0p; dsimp only; rw [ih N M (k + 1) (w64 ((k : Int) + 1)) g3 (by rw [ze (by omega) (by omega)]; omega) (by simp at h3; omega) (by simp at h4; omega)]
  rw [e xs N (xs.length + 1) 0 0 rfl rfl (by omega) (by omega)]; exact h1
 show z2e xs x = _; unfold z2e; rw [h1, z7, h2]
theorem zil (a b c : Int) : z2f (a, b, c) = some (decide (b <= a) && decide (a <= c)) := by
 show z69 a b c = _; unfold z69; by_cases h : b <= a
 · rw [zT h, zC, Bool.true_and]
 · rw [zF h, zD, Bool.false_and]
theorem z07h (l : List Bool) (h : l.length < 4294967296) : zgl l = some (!l.contains false) := by
 show zd1 l = _; unfold zd1; rw [zy0 h, z7]
theorem zaq (g : Geometry) : z4d g = some (fitsT g) := by
 show za8 g = _; rw [<- z06n g]; show _ = z52 g; unfold za8 z52; rw [zil, z7, zil, z7, zil, z7, zil, z7, z07h _ (by simp), z7]; by_cases c1 : 1 <= g.blocks <;> by_cases c2 : g.blocks <= 32 <;> by_cases c3 : 2 <= g.pages <;> by_cases c4 : g.pages <= 16 <;> by_cases c5 : 1 <= g.sectors <;> by_cases c6 : g.sectors <= 64 <;> by_cases c7 : 0 <= g.spare <;> by_cases c8 : g.spare <= 32 <;> simp [c1, c2, c3, c4, c5, c6, c7, c8]
theorem z019 (c : Chip) : zc3 c = some (onT c) := rfl
theorem zw6 {c : Chip} (hc : z0s c) : ∀ (l : List Block) (N k : Nat) (i s : Int), c.blocks.drop k = l -> i = k -> 0 <= s -> s <= k -> l.length < N -> zf z8n N (s, c.blocks, (c.blocks.length : Int), i) = some (s + badsL l)
 | l, 0, _, _, _, _, _, _, _, h => by omega
 | [], N + 1, k, i, s, h1, h2, h3, h4, _ => by
   have := zu h1; rw [z6, z9c]; unfold z4w; simp only [badsL, Int.add_zero]; rw [zF (by omega), zD]
 | x :: l, N + 1, k, i, s, h1, h2, h3, h4, h5 => by
   obtain ⟨g1, g2, g3⟩ := zn h1; have hl := hc.1; subst h2; have e1 : w64 ((k : Int) + 1) = ((k + 1 : Nat) : Int) := by rw [ze (by omega) (by omega)]; rfl
   have ih := fun s' h h' => zw6 hc l N (k + 1) _ s' g3 rfl h h' (by simp at h5; omega)
   rw [z6, z9c]; unfold z4w; simp only [Int.toNat_natCast, g2, badsL, e1]; rw [zT (show (k : Int) < c.blocks.length by omega), zT (show (0 : Int) <= k by omega)]; simp only [zC]; cases hb : x.bad with
   | true => rw [zC, if_pos rfl, ze (n := s + 1) (by omega) (by omega), ih (s + 1) (by omega) (by omega)]; congr 1; omega
   | false => rw [zD, if_neg (by simp), ih s (by omega) (by omega)]; congr 1; omega
theorem zl8 {c : Chip} (hc : z0s c) : zab c = some (badsT c) := by
 have := hc.1; refine z0k 4294967297 fun N hN => ?_
 have := zw6 hc c.blocks N 0 0 0 rfl rfl (by omega) (by omega) (by omega); rw [Int.zero_add] at this; exact this
def oddB (g : Geometry) (b : Block) : Bool := !(decide ((b.pages.length : Int) = g.pages))
def openB (g : Geometry) (b : Block) : Bool := !b.bad && decide (0 < b.next) && decide (b.next < g.pages)
def findO (g : Geometry) : Nat -> List Block -> Int
 | _, [] => -1
 | i, b :: l => if openB g b = true then (i : Int) else findO g (i + 1) l
theorem zw7 {g : Geometry} : ∀ (l : List Block) (i : Nat) (o : Int), l.any (oddB g) = true -> mtL g i l o = none
 | [], i, o, h => by simp at h
 | b :: l, i, o, h => by
   unfold mtL; by_cases hb : (b.pages.length : Int) = g.pages
   · rw [if_neg (by simp [hb])]; refine zw7 l _ _ ?_; simpa [oddB, hb] using h
   · rw [if_pos hb]
theorem zpa {g : Geometry} : ∀ (l : List Block) (i : Nat) (o : Int), l.any (oddB g) = false -> mtL g i l o = some (if o < 0 then (if findO g i l = -1 then o else findO g i l) else o)
 | [], i, o, h => by simp [mtL, findO]
 | b :: l, i, o, h => by
   unfold mtL findO; have hb : (b.pages.length : Int) = g.pages := by
    rw [List.any_cons, Bool.or_eq_false_iff] at h; have := h.1; unfold oddB at this; simpa using this
   have h2 : l.any (oddB g) = false := by rw [List.any_cons, Bool.or_eq_false_iff] at h; exact h.2
   rw [if_neg (by simp [hb]), zpa l _ _ h2]; by_cases ho : o < 0
   · by_cases hop : openB g b = true
     · have hop' := hop; unfold openB at hop; simp at hop; have e : (if o < 0 /\ b.bad = false /\ 0 < b.next /\ b.next < g.pages then (i : Int) else o) = i := if_pos ⟨ho, hop.1.1, hop.1.2, hop.2⟩; rw [e, if_neg (show ¬ (i : Int) < 0 by omega), if_pos ho, if_pos hop', if_neg (by omega)]
     · have e : (if o < 0 /\ b.bad = false /\ 0 < b.next /\ b.next < g.pages then (i : Int) else o) = o := if_neg fun ⟨_, h1, h2, h3⟩ => hop (by unfold openB; simp [h1, h2, h3])
       rw [e, if_neg hop]
   · have e : (if o < 0 /\ b.bad = false /\ 0 < b.next /\ b.next < g.pages then (i : Int) else o) = o := if_neg fun h => ho h.1
     rw [e, if_neg ho, if_neg ho]
theorem zsa {g : Geometry} {bs : List Block} (hs : bs.length < 4294967296) {d : Device} : ∀ (l : List Block) (N k : Nat) (i : Int), bs.drop k = l -> i = k -> l.length < N -> zf z21 N (bs, (bs.length : Int), i, g, d) = some (⟨d.geometry, d.chip, d.table, d.seq, findO g k l⟩, 0)
 | l, 0, _, _, _, _, h => by omega
 | [], N + 1, k, i, h1, h2, _ => by
   have := zu h1; rw [z6, z80]; unfold z3v findO; dsimp only; rw [zF (by omega), zD]
 | b :: l, N + 1, k, i, h1, h2, h4 => by
   obtain ⟨g1, g2, g3⟩ := zn h1; subst h2; have e1 : w64 ((k : Int) + 1) = ((k + 1 : Nat) : Int) := by rw [ze (by omega) (by omega)]; omega
   have ih := zsa (g := g) hs (d := d) l N (k + 1) _ g3 rfl (by simp at h4; omega); rw [z6, z80]; unfold z3v findO openB; simp only [Int.toNat_natCast, g2]; rw [zT (show (k : Int) < bs.length by omega), zT (show (0 : Int) <= k by omega), e1, ih]; simp only [zC]; cases b.bad <;> by_cases c1 : 0 < b.next <;> by_cases c2 : b.next < g.pages <;> simp [c1, c2]
theorem zsb {g : Geometry} {c : Chip} (hc : z0s c) {N0 : Nat} {R : Device × Int} (hR : (Option.bind (zc3 c) fun r8 => Option.bind (z20 (c, g.sectors)) fun r9 => zf z21 N0 (c.blocks, (c.blocks.length : Int), 0, g, (Device.mk g r8 r9.1 r9.2 (-1)))) = some R) : ∀ (l : List Block) (N k : Nat) (i : Int), c.blocks.drop k = l -> i = k -> l.length < N -> zf (z75 N0) N (c.blocks, (c.blocks.length : Int), i, g, c) = some (if l.any (oddB g) = true then (zDev, 1) else R)
 | l, 0, _, _, _, _, h => by omega
 | [], N + 1, k, i, h1, h2, _ => by
   have := zu h1; rw [z6, z81]; unfold z3w; dsimp only; rw [zF (by omega), zD, hR]; rfl
 | b :: l, N + 1, k, i, h1, h2, h4 => by
   have hl := hc.1; obtain ⟨g1, g2, g3⟩ := zn h1; subst h2; have e1 : w64 ((k : Int) + 1) = ((k + 1 : Nat) : Int) := by rw [ze (by omega) (by omega)]; omega
   have ih := zsb (g := g) hc hR l N (k + 1) _ g3 rfl (by simp at h4; omega); rw [z6, z81]; unfold z3w; simp only [Int.toNat_natCast, g2]; rw [zT (show (k : Int) < c.blocks.length by omega), zT (show (0 : Int) <= k by omega), e1, ih]; simp only [zC]; by_cases hb : (b.pages.length : Int) = g.pages
   · rw [zT hb, Bool.not_true, zD, List.any_cons, show oddB g b = false by unfold oddB; rw [zT hb]; rfl, Bool.false_or]
   · rw [zF hb, Bool.not_false, zC, List.any_cons, show oddB g b = true by unfold oddB; rw [zF hb]; rfl, Bool.true_or]; rfl
theorem z87 {g : Geometry} {c : Chip} (hc : z0s c) (hp : PagesOk c) (ht : TagsOk c) : z23 (g, c) = some (z0m g c) := by
 have hl := hc.1; refine z0k 4294967297 fun N hN => ?_
 show z82 N g c = _; unfold z82 z0m; rw [zaq, z7]; cases fitsT g with
 | false => rfl
 | true =>
   rw [Bool.not_true, zD]; by_cases c1 : (c.blocks.length : Int) = g.blocks
   · rw [zT c1, Bool.not_true, zD, if_neg (by simp [c1])]; rw [zsb hc (by rw [z019, z7, zl7 hc hp ht, z7, zsa (by omega) c.blocks N 0 0 rfl rfl (by omega)]) c.blocks N 0 0 rfl rfl (by omega)]; cases ha : c.blocks.any (oddB g) with
     | true => rw [if_pos rfl, zw7 _ _ _ ha]
     | false =>
       rw [if_neg (by simp), zpa _ _ _ ha]; simp only [show ((-1 : Int) < 0) from by decide, if_true]; by_cases hf : findO g 0 c.blocks = -1
       · rw [if_pos hf, hf]
       · rw [if_neg hf]
   · rw [zF c1, Bool.not_false, zC, if_pos (.inr c1)]; rfl
def outB (n x : Int) : Bool := decide (x < 0) || decide (n <= x)
theorem zpb {n : Int} : ∀ (l : List Int) (bs : List Block), l.any (outB n) = true -> newL n l bs = (zChip, 1)
 | [], bs, h => by simp at h
 | x :: l, bs, h => by
   unfold newL; by_cases hx : x < 0 \/ n <= x
   · rw [if_pos hx]
   · rw [if_neg hx]; refine zpb l _ ?_; rw [List.any_cons] at h; have : outB n x = false := by unfold outB; simp; omega
     rwa [this, Bool.false_or] at h
theorem z03e (xs : List Block) (i : Nat) (v : Bool) : (z5h xs i v).length = xs.length := by unfold z5h; simp
theorem z01a {n : Int} {bad : List Int} (hb : bad.length < 4294967296) : ∀ (l : List Int) (N k : Nat) (i : Int) (bs : List Block), bad.drop k = l -> i = k -> (bs.length : Int) = n -> l.any (outB n) = false -> l.length < N -> zf za9 N (bad, (bad.length : Int), i, bs, false, false, 0) = some (newL n l bs)
 | l, 0, _, _, _, _, _, _, _, h => by omega
 | [], N + 1, k, i, bs, h1, h2, h3, _, _ => by
   have := zu h1; rw [z6, zb2]; unfold z6a newL; dsimp only; rw [zF (by omega), zD]
 | x :: l, N + 1, k, i, bs, h1, h2, h3, h4, h5 => by
   obtain ⟨g1, g2, g3⟩ := zn h1; subst h2; rw [List.any_cons, Bool.or_eq_false_iff] at h4; have hx : 0 <= x /\ x < n := by have := h4.1; unfold outB at this; simp at this; omega
   rw [z6, zb2]; unfold z6a newL; simp only [Int.toNat_natCast, g2]; rw [zT (show (k : Int) < bad.length by omega), zT (show (0 : Int) <= k by omega), zT hx.1, zT (show x < (bs.length : Int) by omega), zT (show x.toNat < bs.length by omega), if_neg (by omega)]; simp only [zC]; exact z01a hb l N (k + 1) _ _ g3 (by rw [ze (by omega) (by omega)]; omega) (by rw [z03e]; exact h3) h4.2 (by simp at h5; omega)
def bl0 (p : Int) : Block := ⟨List.replicate p.toNat z5k, 0, 0, false⟩
theorem z01b {n p : Int} {bad : List Int} (hb : bad.length < 4294967296) (hn : n <= 32) (hp : 1 <= p) (hp2 : p <= 16) (hg : bad.any (outB n) = false) {M : Nat} (hM : bad.length < M) : ∀ (m N k : Nat) (i : Int), (k : Int) + m = n -> i = k -> m < N -> zf (z3x M) N (p, bad, n, i, List.replicate k (bl0 p) ++ List.replicate m default, false, false, 0) = some (newL n bad (List.replicate n.toNat (bl0 p)))
 | m, 0, _, _, _, _, h => by omega
 | 0, N + 1, k, i, h1, h2, _ => by
   rw [z6, zb3]; unfold z6b; dsimp only; rw [zF (by omega), zD, List.replicate_zero, List.append_nil, show k = n.toNat by omega]; exact z01a hb bad M 0 0 _ rfl rfl (by simp; omega) hg (by omega)
 | m + 1, N + 1, k, i, h1, h2, h3 => by
   subst h2; rw [z6, zb3]; unfold z6b; simp only [Int.toNat_natCast, List.length_append, List.length_replicate]; rw [zT (show (k : Int) < n by omega), zT (show 0 <= p by omega), zT (Int.le_refl p), zT (show p * 40 <= 70368744177664 by omega), zT (show p <= 70368744177664 by omega), zT (show (0 : Int) <= k by omega), zT (show (k : Int) < ((k + (m + 1) : Nat) : Int) by omega), zT (show k < k + (m + 1) by omega)]; simp only [zC]; have e : z0l (List.replicate k (bl0 p) ++ List.replicate (m + 1) default) k (List.replicate p.toNat default) = List.replicate (k + 1) (bl0 p) ++ List.replicate m default := by
    unfold z0l; have e1 : (List.replicate k (bl0 p) ++ List.replicate (m + 1) (default : Block)).getD k default = default := by
     rw [zI, List.getElem?_append_right (by simp)]; simp
    rw [e1, List.set_append_right _ _ (by simp)]; simp only [List.length_replicate, Nat.sub_self, List.replicate_succ, List.set_cons_zero]; rw [<- List.replicate_succ, List.replicate_succ', List.append_assoc]; rfl
   rw [e]; exact z01b hb hn hp hp2 hg hM m N (k + 1) _ (by omega) (by rw [ze (by omega) (by omega)]; omega) (by omega)
theorem z01c {n p : Int} {bad : List Int} (hb : bad.length < 4294967296) (hn1 : 1 <= n) (hn : n <= 32) (hp : 1 <= p) (hp2 : p <= 16) {M : Nat} (hM : bad.length + 33 < M) : ∀ (l : List Int) (N k : Nat) (i : Int), bad.drop k = l -> i = k -> l.length < N -> (l.any (outB n) = false -> bad.any (outB n) = false) -> (l.any (outB n) = true -> bad.any (outB n) = true) -> zf (zaa M p bad) N (bad, (bad.length : Int), i, n) = some (newL n bad (List.replicate n.toNat (bl0 p)))
 | l, 0, _, _, _, _, h, _, _ => by omega
 | [], N + 1, k, i, h1, h2, _, hf, _ => by
   have := zu h1; rw [z6, zb4]; unfold z6c; dsimp only; rw [zF (by omega), zD, zT (show 0 <= n by omega), zT (Int.le_refl n), zT (show n * 48 <= 70368744177664 by omega), zT (show n <= 70368744177664 by omega)]; simp only [zC, List.length_replicate]; rw [show ((n.toNat : Nat) : Int) = n by omega]; exact z01b hb hn hp hp2 (hf rfl) (by omega) n.toNat M 0 0 (by omega) rfl (by omega)
 | x :: l, N + 1, k, i, h1, h2, h3, hf, ht => by
   obtain ⟨g1, g2, g3⟩ := zn h1; subst h2; rw [z6, zb4]; unfold z6c; simp only [Int.toNat_natCast, g2]; rw [zT (show (k : Int) < bad.length by omega), zT (show (0 : Int) <= k by omega)]; simp only [zC]; by_cases c1 : x < 0
   · rw [zT c1, zC, zpb _ _ (ht (by rw [List.any_cons]; unfold outB; rw [zT c1]; rfl))]; rfl
   · rw [zF c1, zD]; by_cases c2 : n <= x
     · rw [zT c2, zC, zpb _ _ (ht (by rw [List.any_cons]; unfold outB; rw [zT c2, Bool.or_true, Bool.true_or]))]; rfl
     · rw [zF c2, zD]; have ho : outB n x = false := by unfold outB; rw [zF c1, zF c2]; rfl
       rw [List.any_cons, ho, Bool.false_or] at hf ht; exact z01c hb hn1 hn hp hp2 hM l N (k + 1) _ g3 (by rw [ze (by omega) (by omega)]; omega) (by simp at h3; omega) hf ht
theorem zy1 {n p : Int} {bad : List Int} (hb : bad.length < 4294967296) : zgm (n, p, bad) = some (newT n p bad) := by
 refine z0k (bad.length + 34) fun N hN => ?_
 show zd2 N n p bad = _; unfold zd2 newT; by_cases c1 : n < 1
 · rw [zT c1, zC, if_pos (.inl c1)]; rfl
 · rw [zF c1, zD]; by_cases c2 : 32 < n
   · rw [zT c2, zC, if_pos (.inr (.inl c2))]; rfl
   · rw [zF c2, zD]; by_cases c3 : p < 1
     · rw [zT c3, zC, if_pos (.inr (.inr (.inl c3)))]; rfl
     · rw [zF c3, zD]; by_cases c4 : 16 < p
       · rw [zT c4, zC, if_pos (.inr (.inr (.inr c4)))]; rfl
       · rw [zF c4, zD, if_neg (by omega)]; exact z01c hb (by omega) (by omega) (by omega) (by omega) hN bad N 0 0 rfl rfl (by omega) (fun h => h) (fun h => h)
theorem zfu {g : Geometry} {bad : List Int} (hb : bad.length < 4294967296) : z6e (g, bad) = some (formatT g bad) := by
 obtain ⟨hc, hp⟩ := zuc g.blocks g.pages bad; show z6d g bad = _; unfold z6d formatT; rw [zaq, z7]; cases fitsT g with
 | false => rfl
 | true =>
   rw [Bool.not_true, zD, zy1 hb, z7]; by_cases c1 : (newT g.blocks g.pages bad).2 = 0
   · rw [zT c1, Bool.not_true, zD, zl8 hc, z7]; by_cases c2 : g.spare < badsT (newT g.blocks g.pages bad).1
     · rw [zT c2, zC, if_pos (.inr (.inr c2))]; rfl
     · rw [zF c2, zD, if_neg (by simp [c1]; omega), z87 hc hp (zw2 zl6 _ _ _), z7]
   · rw [zF c1, Bool.not_false, zC, if_pos (.inr (.inl c1))]; rfl
def hasT (c : Chip) (t : Table) (s : Int) : Str := if s < 0 \/ (t.map.length : Int) <= s then [] else (pageT c (t.map.getD s.toNat 0)).1.data
def MapR (t : Table) : Prop := ∀ v ∈ t.map, I64 v
theorem zy2 {c : Chip} {t : Table} (h : MapR t) (s : Int) : zgn (c, t, s) = some (hasT c t s) := by
 show zd3 c t s = _; unfold zd3 hasT; by_cases c1 : s < 0
 · rw [zT c1, zC, if_pos (.inl c1)]
 · rw [zF c1, zD]; by_cases c2 : (t.map.length : Int) <= s
   · rw [zT c2, zC, if_pos (.inr c2)]
   · rw [zF c2, zD, zT (show 0 <= s by omega), zT (show s < (t.map.length : Int) by omega), if_neg (by omega), zug _ (h _ (z07 (by omega))), z7]; rfl
def allD (d : Device) : List Str := (List.range d.table.map.length).map fun s : Nat => hasT d.chip d.table s
theorem z01d {d : Device} (h : MapR d.table) (hl : d.table.map.length < 4294967296) : ∀ (m N k : Nat) (i : Int), k + m = d.table.map.length -> i = k -> m < N -> zf zac N ((d.table.map.length : Int), i, d, ((List.range k).map fun s : Nat => hasT d.chip d.table s) ++ List.replicate m []) = some (allD d)
 | m, 0, _, _, _, _, h => by omega
 | 0, N + 1, k, i, h1, h2, _ => by
   rw [z6, zb5]; unfold z6f allD; dsimp only; rw [zF (by omega), zD, List.replicate_zero, List.append_nil, show k = d.table.map.length by omega]
 | m + 1, N + 1, k, i, h1, h2, h3 => by
   subst h2; rw [z6, zb5]; unfold z6f; simp only [Int.toNat_natCast, List.length_append, List.length_map, List.length_range, List.length_replicate]; rw [zT (show (k : Int) < (d.table.map.length : Int) by omega), zC, zy2 h, z7, zT (show (0 : Int) <= k by omega), zT (show (k : Int) < ((k + (m + 1) : Nat) : Int) by omega), zT (show k < k + (m + 1) by omega)]; simp only [zC]; have e : (((List.range k).map fun s : Nat => hasT d.chip d.table s) ++ List.replicate (m + 1) []).set k (hasT d.chip d.table k) = ((List.range (k + 1)).map fun s : Nat => hasT d.chip d.table s) ++ List.replicate m [] := by
    rw [List.set_append_right _ _ (by simp)]; simp only [List.length_map, List.length_range, Nat.sub_self, List.replicate_succ, List.set_cons_zero, List.range_succ, List.map_append, List.map_cons, List.map_nil, List.append_assoc, List.cons_append, List.nil_append]
   rw [e]; exact z01d h hl m N (k + 1) _ (by omega) (by rw [ze (by omega) (by omega)]; omega) (by omega)
theorem zy3 {d : Device} (h : MapR d.table) (hl : d.table.map.length < 4294967296) : zgo d = some (allD d) := by
 refine z0k (d.table.map.length + 1) fun N hN => ?_
 show zd4 N d = _; unfold zd4; simp only [Int.toNat_natCast, List.length_replicate]; rw [zT (by omega), zT (by omega), zT (by omega), zT (by omega)]; simp only [zC]; exact z01d h hl d.table.map.length N 0 0 (by omega) rfl (by omega)
def resT (d : Device) : Int := 2 + 2 * max (d.geometry.spare - badsT d.chip) 0
theorem zn9 {c : Chip} (hc : z0s c) : 0 <= badsT c /\ badsT c < 4294967296 := by
 have := zvs c.blocks; have := hc.1; unfold badsT; omega
theorem z8u {d : Device} (hc : z0s d.chip) (hg : 0 <= d.geometry.spare /\ d.geometry.spare < 4294967296) : z0c d = some (resT d) := by
 have := zn9 hc; show z4x d = _; unfold z4x resT; rw [zl8 hc, z7, ze (n := d.geometry.spare - badsT d.chip) (by omega) (by omega), ze (n := 2 * max (d.geometry.spare - badsT d.chip) 0) (by omega) (by omega), ze (by omega) (by omega)]
theorem z06q {f : Found} {i : Nat} {k : Int} {t : Table} (hf : I64 f.place) (hv : ∀ v ∈ f.record.values, I64 v) (h : MapR t) : MapR (app1 f i k t) := by
 unfold app1; split
 · split
   · intro v hm; rcases List.mem_or_eq_of_mem_set hm with h1 | rfl
     · exact h v h1
     · exact hf
   · split
     · rename_i hc; intro v hm; rcases List.mem_or_eq_of_mem_set hm with h1 | rfl
       · exact h v h1
       · exact hv _ (z07 hc.2)
     · exact h
 · exact h
theorem z043 {f : Found} (hf : I64 f.place) (hv : ∀ v ∈ f.record.values, I64 v) : ∀ (l : List Int) (i : Nat) (t : Table), MapR t -> MapR (appL f i l t)
 | [], i, t, h => h
 | k :: l, i, t, h => z043 hf hv l (i + 1) _ (z06q hf hv h)
theorem z01e : ∀ (l : List Found) (t : Table), (∀ f ∈ l, I64 f.place /\ ∀ v ∈ f.record.values, I64 v) -> MapR t -> MapR (l.foldl applyT t)
 | [], t, _, h => h
 | f :: l, t, hl, h => z01e l _ (fun g hg => hl g (List.mem_cons_of_mem _ hg)) (z043 (hl f List.mem_cons_self).1 (hl f List.mem_cons_self).2 _ 0 t h)
theorem zy4 {r : Record} (h : z2s r = true) : ∀ v ∈ r.values, I64 v := by
 intro v hv; unfold z2s at h; simp only [Bool.and_eq_true] at h; have h2 := h.2; split at h2
 · have : r.values = [] := by simpa using h2
   rw [this] at hv; cases hv
 · simp only [Bool.and_eq_true] at h2; have := List.all_eq_true.1 h2.1.1 v hv; unfold vr at this; simp at this; exact ⟨by omega, by omega⟩
theorem zsc : ∀ (l : List Block) (b : Nat) (f : Found), f ∈ vb b l -> 0 <= f.place /\ f.place < 512
 | [], b, f, h => by simp [vb] at h
 | x :: l, b, f, h => by
   unfold vb at h; rcases List.mem_append.1 h with h | h
   · obtain ⟨q, _, h2, h3, h4⟩ := zft h; omega
   · exact zsc l _ f h
theorem z03f (c : Chip) (n : Int) : MapR (replayT c n).1 := by
 unfold replayT; rw [zs9]; refine z01e _ _ (fun f hf => ?_) (fun v hv => ?_)
 · have hm := (z03d c f).1 hf; have := zsc _ _ _ hm; exact ⟨⟨by omega, by omega⟩, zy4 (zw5 _ _ _ hm)⟩
 · unfold tabT at hv; rw [(List.mem_replicate.1 hv).2]; exact ⟨by omega, by omega⟩
theorem z05v (g : Geometry) (c : Chip) : MapR (z0m g c).1.table := by
 unfold z0m; split
 · intro v hv; simp [zDev] at hv
 · split
   · intro v hv; simp [zDev] at hv
   · exact z03f c _
theorem z03g (g : Geometry) (bad : List Int) : MapR (formatT g bad).1.table := by
 unfold formatT; split
 · intro v hv; simp [zDev] at hv
 · exact z05v _ _
end Clk
namespace Clk
open Go
theorem zar (g : Geometry) (c : Chip) : 0 <= (z0m g c).1.geometry.spare /\ (z0m g c).1.geometry.spare < 4294967296 := by
 unfold z0m; split
 · exact ⟨by simp [zDev], by simp [zDev]⟩
 · rename_i h; have hf : fitsT g = true := by
    cases hg : fitsT g with
    | true => rfl
    | false => exact absurd (.inl hg) h
   unfold fitsT at hf; simp at hf; split
   · exact ⟨by simp [zDev], by simp [zDev]⟩
   · exact ⟨hf.1.1.2, by show g.spare < _; omega⟩
theorem zsd (g : Geometry) (bad : List Int) : 0 <= (formatT g bad).1.geometry.spare /\ (formatT g bad).1.geometry.spare < 4294967296 := by
 unfold formatT; split
 · exact ⟨by simp [zDev], by simp [zDev]⟩
 · exact zar _ _
def zw8 : Bool :=
 let d := formatT (smallT 0) [2]
 let l := allD d.1
 fitsT (smallT 0) && !(fitsT ⟨0, 0, 0, 0⟩) && decide (d.2 = 0) && decide ((formatT (smallT 0) [2, 3]).2 = 1) && decide ((z0m (smallT 0) ⟨[], false, false, 0⟩).2 = 1) && decide (l.length = 5) && decide (l.getD 0 [] = []) && decide (d.1.opn = -1) && decide (resT d.1 = 2) && decide (d.1.chip.blocks.length = 8)
theorem zy5 : zw8 = true := by kernel_rfl
theorem zpc : zad () = some true := by
 have h := zy5; unfold zw8 at h; simp only [Bool.and_eq_true, decide_eq_true_eq, Bool.not_eq_true'] at h; obtain ⟨⟨⟨⟨⟨⟨⟨⟨⟨a1, a2⟩, a3⟩, a4⟩, a5⟩, a6⟩, a7⟩, a8⟩, a9⟩, a10⟩ := h; have hd := zxt (g := smallT 0) (bad := [2]); have hm := hd.2.1; show z6g = _; unfold z6g; rw [z00v (by decide) (by decide), z7, zfu (by simp), z7, zfu (by simp), z7, z87 ⟨by simp, fun b hb => by simp at hb⟩ (fun b hb => by simp at hb) (fun b hb => by simp at hb), z7, zy3 (z03g _ _) hm, z7, zaq, z7, zaq, z7, z8u hd.1 (zsd _ _), z7]; rw [a1, a2, a3, a4, a5, a6, a7, a8, a9, a10]; rfl
end Clk
namespace Clk
open Go
theorem zna {g : Geometry} : ∀ (l : List Block) (k : Nat), findO g k l = -1 \/ ∃ (i : Nat) (b : Block), findO g k l = ((k + i : Nat) : Int) /\ l[i]? = some b /\ openB g b = true
 | [], k => .inl rfl
 | b :: l, k => by
   unfold findO; by_cases h : openB g b = true
   · rw [if_pos h]; exact .inr ⟨0, b, by simp, rfl, h⟩
   · rw [if_neg h]; rcases zna l (k + 1) with h1 | ⟨i, x, h1, h2, h3⟩
     · exact .inl h1
     · exact .inr ⟨i + 1, x, by rw [h1]; congr 1; omega, h2, h3⟩
theorem zw9 : ∀ (l : List Block) (b : Nat) (x : Block), b < l.length -> x.bad = true -> badsL (l.set b x) = badsL l + (if (l.getD b default).bad = true then 0 else 1)
 | [], b, x, h, _ => by simp at h
 | y :: l, 0, x, _, hx => by
   simp only [List.set_cons_zero, badsL, hx, if_true, List.getD_cons_zero]; cases y.bad <;> simp <;> omega
 | y :: l, b + 1, x, h, hx => by
   simp only [List.set_cons_succ, badsL, List.getD_cons_succ]; rw [zw9 l b x (by simpa using h) hx]; omega
def badT (c : Chip) (b : Nat) : Chip := ⟨z5h c.blocks b true, c.broken, c.off, c.ops⟩
theorem zim {c : Chip} {b : Nat} {Q : Block -> Prop} (hb : b < c.blocks.length) (h : ∀ x ∈ c.blocks, Q x) (hq : ∀ x, Q x -> Q ⟨x.pages, x.next, x.erases, true⟩) : ∀ x ∈ (badT c b).blocks, Q x := by
 intro x hx; unfold badT z5h at hx; rcases List.mem_or_eq_of_mem_set hx with h1 | rfl
 · exact h x h1
 · exact hq _ (h _ (z07 hb))
theorem z01f {g : Geometry} (hg : g ∈ z2t) {c : Chip} (hcg : ChipG g c) {b : Nat} (hb : b < c.blocks.length) : (z0m g (badT c b)).2 = 0 /\ (z0m g (badT c b)).1.geometry = g /\ badsT (z0m g (badT c b)).1.chip = badsT c + (if (c.blocks.getD b default).bad = true then 0 else 1) /\ (z0m g (badT c b)).1.opn ≠ (b : Int) := by
 obtain ⟨_, _, _, _, hf⟩ := z4i g hg; have hlen : (badT c b).blocks.length = c.blocks.length := by unfold badT z5h; simp
 have hodd : (badT c b).blocks.any (oddB g) = false := by
  rw [List.any_eq_false]; intro x hx; have := zim (Q := fun x => (x.pages.length : Int) = g.pages) hb (fun x hx => (hcg.each x hx).1) (fun x h => h) x hx; unfold oddB; rw [zT this]; simp
 have e : z0m g (badT c b) = (⟨g, onT (badT c b), (replayT (badT c b) g.sectors).1, (replayT (badT c b) g.sectors).2, findO g 0 (badT c b).blocks⟩, 0) := by
  unfold z0m; rw [if_neg (by rw [hf, hlen]; simp [hcg.len]), zpa _ _ _ hodd]; simp only [show ((-1 : Int) < 0) from by decide, if_true]; by_cases h : findO g 0 (badT c b).blocks = -1
  · rw [if_pos h, h]
  · rw [if_neg h]
 rw [e]; refine ⟨rfl, rfl, ?_, ?_⟩
 · show badsL (z5h c.blocks b true) = _; unfold z5h; exact zw9 c.blocks b _ hb rfl
 · show findO g 0 (badT c b).blocks ≠ (b : Int); rcases zna (g := g) (badT c b).blocks 0 with h | ⟨i, x, h1, h2, h3⟩
   · rw [h]; omega
   · rw [h1]; intro hi; have : i = b := by omega
     subst this; unfold badT z5h at h2; simp only at h2; rw [List.getElem?_set_self hb] at h2; cases h2; unfold openB at h3; simp at h3
theorem z05w {g : Geometry} (hg : g ∈ z2t) {c : Chip} (hci : CI c g.blocks) (ht : TagsOk c) (hcg : ChipG g c) {b : Nat} (hb : b < c.blocks.length) {i : Int} (hi : i = b) : (Option.bind (z23 (g, (Chip.mk (z5h c.blocks b true) c.broken c.off c.ops))) fun r10 =>
 Option.bind (z0c (z0m g c).1) fun r11 =>
 Option.bind (z0c r10.1) fun r12 =>
 cond (c.blocks.getD b default).bad
  (cond true
    (cond (decide ((z0m g c).2 = 0))
      (cond (decide (r10.2 = 0))
        (some (decide ((w64 (r11 - r12)) = 0)))
        (some false))
      (some false))
    (some false))
  (cond true
    (cond (decide ((z0m g c).2 = 0))
      (cond (decide (r10.2 = 0))
        (cond (!(decide (r10.1.opn = i)))
          (cond (decide ((w64 (r11 - r12)) = 2))
            (some true)
            (cond (decide ((w64 (r11 - r12)) = 0))
              (Option.bind (z0c (z0m g c).1) fun r13 =>
              some (decide (r13 = 2)))
              (some false)))
          (some false))
        (some false))
      (some false))
    (some false))) = some true := by
 have hc : z0s (badT c b) := ⟨by unfold badT z5h; simp; exact hci.ok.1, zim hb hci.ok.2 fun x h => h⟩; have hp : PagesOk (badT c b) := zim hb hci.pages fun x h => h
 have ht2 : TagsOk (badT c b) := zim hb ht fun x h => h
 obtain ⟨m1, m2, m3, m4⟩ := z01f hg hcg hb; obtain ⟨o, ho⟩ := z037 hg hcg; have a1 : (z0m g c).1.geometry = g := by rw [ho]
 have a2 : badsT (z0m g c).1.chip = badsT c := by rw [ho]; rfl
 have a3 : (z0m g c).2 = 0 := by rw [ho]
 have hd := zl3 (g := g) hci.ok; have hd2 := zl3 (g := g) hc; have hr1 := zn9 hci.ok; have hsp := zar g c; rw [a1] at hsp; rw [show (Chip.mk (z5h c.blocks b true) c.broken c.off c.ops) = badT c b from rfl, z87 hc hp ht2, z7, z8u hd.1 (zar _ _), z7, z8u hd2.1 (zar _ _), z7]; simp only [z7]; have e1 : resT (z0m g c).1 = 2 + 2 * max (g.spare - badsT c) 0 := by unfold resT; rw [a1, a2]
 have e2 : resT (z0m g (badT c b)).1 = 2 + 2 * max (g.spare - (badsT c + (if (c.blocks.getD b default).bad = true then 0 else 1))) 0 := by unfold resT; rw [m2, m3]
 rw [e1, e2, a3, m1, zT (rfl : (0 : Int) = 0), hi, zF m4]; cases hbad : (c.blocks.getD b default).bad with
 | true =>
   simp only [zC, if_true]; rw [ze (by omega) (by omega), zT (by omega)]
 | false =>
   simp only [zC, zD, Bool.false_eq_true, if_false, Bool.not_false]; by_cases hm : 0 < g.spare - badsT c
   · rw [ze (by omega) (by omega), zT (by omega), zC]
   · rw [ze (by omega) (by omega), zF (by omega), zD, zT (by omega), zC, zT (by omega)]
theorem zuh {l : List Int} (hl : U16 l) (hn : l.length < 9223372036854775808) {n a : Int} (h0 : 0 <= n /\ n < 256) (ha : 0 <= a /\ a < 256) : z78 (l, n, a) = some true := by
 have hg := zxr n; have hci := z032 hl hg; have ht := zxy l (smallT n).blocks (smallT n).pages; have hcg := z036 hg hl; obtain ⟨k1, k2, k3, k4, _⟩ := z4i _ hg; refine z0k 4294967297 fun N hN => ?_
 show z3y N l n a = _; unfold z3y; rw [zpc, z7, Bool.not_true, zD, z00v h0.1 h0.2, z7, zs0 hl hn hg, z7, z87 hci.ok hci.pages ht, z7]; generalize smallT n = g at *; generalize chipT l g.blocks g.pages = c at *; have e1 : Int.tmod (w64 a) g.blocks = (((a % g.blocks).toNat : Nat) : Int) := by
  have := Int.emod_nonneg a (show g.blocks ≠ 0 by omega); rw [ze (n := a) (by omega) (by omega), Int.tmod_eq_emod_of_nonneg (by omega)]; omega
 have hlt : a % g.blocks < g.blocks := Int.emod_lt_of_pos _ (by omega); have hnn := Int.emod_nonneg a (show g.blocks ≠ 0 by omega); have hlen := hcg.len; generalize hb : (a % g.blocks).toNat = b at *; have hbl : b < c.blocks.length := by omega
 rw [e1, zF (show ¬ g.blocks = 0 by omega), zT (show (0 : Int) <= b by omega), zT (show (b : Int) < (c.blocks.length : Int) by omega)]; simp only [Bool.not_false, zC]; have loop : ∀ (m N k : Nat) (i : Int), k + m = c.blocks.length -> i = k -> m < N -> zf (z1r a true g c (z0m g c)) N (i, g, (z0m g c).1, c, c.blocks.take k) = some true := by
  intro m; induction m with
  | zero =>
    intro N k i h1 h2 h3; obtain ⟨N, rfl⟩ : ∃ n, N = n + 1 := ⟨N - 1, by omega⟩; rw [z6, z5a]; unfold z1q; dsimp only; rw [zF (by omega), zD, List.take_of_length_le (by omega), e1, zT (show (0 : Int) <= b by omega), zT (show (b : Int) < (c.blocks.length : Int) by omega), Int.toNat_natCast, zT hbl]; simp only [zC]; exact z05w hg hci ht hcg hbl rfl
  | succ m ih =>
    intro N k i h1 h2 h3; obtain ⟨N, rfl⟩ : ∃ n, N = n + 1 := ⟨N - 1, by omega⟩; rw [z6, z5a]; unfold z1q; rw [z9d (ih := fun i l => zf (z1r a true g c (z0m g c)) N (i, g, (z0m g c).1, c, l)) hci.ok h2 (by omega)]; exact ih N (k + 1) _ (by omega) rfl (by omega)
 exact loop c.blocks.length N 0 0 (by omega) rfl (by omega)
end Clk
namespace Clk
open Go
theorem z05x {k : IntKind} {w : World} {a : Option Addr} {len cap : Nat} {zs : List Int} (h : IsRow k w a len cap zs) : ∀ n ∈ zs.take len, (Lit.int k n).wf = true := by
 intro n hn; rcases h with ⟨_, _, _, rfl⟩ | ⟨_, _, _, _, _, _, h⟩
 · simp at hn
 · exact h n (List.mem_of_mem_take hn)
theorem z05y {k : IntKind} {w : World} {a : Option Addr} {len cap : Nat} {zs : List Int} (h : IsRow k w a len cap zs) : (zs.take len).length < 9223372036854775808 := by
 rcases h with ⟨_, _, _, rfl⟩ | ⟨_, _, h1, h2, h3, _, _⟩
 · simp
 · have : maxLen = 9223372036854775807 := rfl; simp only [List.length_take]; omega
theorem z07i {n : Int} (h : (Lit.int .u8 n).wf = true) : 0 <= n /\ n < 256 := by
 simp [Lit.wf, IntKind.min, IntKind.max, IntKind.signed, IntKind.bits] at h; omega
theorem z06r {n : Int} (h : (Lit.int .u16 n).wf = true) : 0 <= n /\ n < 65536 := by
 simp [Lit.wf, IntKind.min, IntKind.max, IntKind.signed, IntKind.bits] at h; omega
theorem litU8 {n : Int} (h : (Lit.int .u8 n).wf = true) : 0 <= n /\ n < 256 := z07i h
theorem rowU16 {w : World} {a : Option Addr} {len cap : Nat} {zs : List Int} (h : IsRow .u16 w a len cap zs) : U16 (zs.take len) := fun n hn => z06r (z05x h n hn)
theorem rowLen {k : IntKind} {w : World} {a : Option Addr} {len cap : Nat} {zs : List Int} (h : IsRow k w a len cap zs) : (zs.take len).length < 9223372036854775808 := z05y h
end Clk
