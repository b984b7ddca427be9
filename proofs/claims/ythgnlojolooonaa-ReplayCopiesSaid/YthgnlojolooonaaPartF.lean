/- A part of the proof of ReplayCopies: an evaluator of the program's code that the kernel runs, its soundness, what the functions compute. -/
import Derived.Test.YthgnlojolooonaaPartE
import Derived.KernelRfl
import Derived.ChangeSlices
set_option linter.unusedVariables false
set_option linter.unusedSimpArgs false
set_option maxRecDepth 1000000
namespace Clk
open Go
theorem z011 (r : Record) (data : Str) : (z8w r data).1.length <= 204 := by
 unfold z8w; split
 · simp
 · rename_i h; have := zjm (r := r) (by cases hr : z1e r with
    | true => rfl
    | false => exact absurd (.inl hr) h)
   simp only [List.length_append, bytes4, List.length_cons, List.length_nil]; omega
theorem zu7 {w : Write} (h : WriteOk w) : PageOk (makeT w).1 := by
 have := z011 w.record w.data; unfold makeT; split
 · exact ⟨by simp, by simp⟩
 · exact ⟨by simp only; omega, h.2⟩
def pgT (seq : Int) (l : List Int) : Page := (makeT ⟨[100], ⟨(madeT l).kind, seq, (madeT l).keys, (madeT l).values⟩⟩).1
theorem z04r {l : List Int} (hl : U16 l) (seq : Int) : WriteOk ⟨[100], ⟨(madeT l).kind, seq, (madeT l).keys, (madeT l).values⟩⟩ := ⟨(zu6 hl).1, by simp⟩
theorem zqg {seq : Int} {l : List Int} (hl : U16 l) (hn : l.length < 9223372036854775808) : z7f (seq, l) = some (pgT seq l) := by
 show z7e seq l = _; unfold z7e; rw [zqf hl hn, z7, zgx (z04r hl seq)]; rfl
def z0e (l : List Int) (a : Nat) : Nat := min (a + 1 + (l.getD a 0).toNat / 50 % 8) l.length
def stepC (l : List Int) (m : Int) (a : Nat) (c : Chip) : Chip :=
 let n := l.getD a 0
 let page := pgT (n / 7 % 30) ((l.drop a).take (z0e l a - a))
 let f : Fate := if n % 11 = 0 then ⟨1, [120], page.tag, 0⟩ else z0k
 let c1 := if n % 29 = 0 then (zct c (n % m) z0k).1 else c
 let r := z1q c1 (n % m) (nextOf c1 (n % m)) page f
 if r.2 = 1 then c1 else r.1
def chipL (l : List Int) (m : Int) : Nat -> Nat -> Chip -> Chip
 | 0, _, c => c
 | k + 1, a, c => if a < l.length then chipL l m k (max (z0e l a) (a + 1)) (stepC l m a c) else c
def chipT (l : List Int) (blocks pages : Int) : Chip := chipL l blocks 40 0 (newT blocks pages []).1
theorem zjr {c : Chip} (h : z12 c) (b : Int) (f : Fate) : z12 (zct c b f).1 /\ (zct c b f).1.blocks.length = c.blocks.length := by
 unfold zct; split
 · exact ⟨h, rfl⟩
 · split
   · rename_i hc; unfold canEra at hc; simp only [Bool.and_eq_true, decide_eq_true_eq] at hc; refine ⟨⟨by simpa using h.1, fun x hx => ?_⟩, by simp⟩; rcases List.mem_or_eq_of_mem_set hx with h3 | rfl
     · exact h.2 x h3
     · have := h.get (show b.toNat < c.blocks.length by omega) default; unfold z5z; split
       · exact this
       · simp only [znm]; exact this
   · exact ⟨h, rfl⟩
theorem zyz (all : Bool) (n : Int) : ∀ (i : Nat) (l : List Page), (∀ p ∈ l, PageOk p) -> ∀ p ∈ clrT all n i l, PageOk p
 | _, [], _, p, hp => by cases hp
 | i, q :: l, h, p, hp => by
   unfold clrT at hp; rcases List.mem_cons.1 hp with rfl | hp
   · split
     · exact ⟨by simp [z5b], by simp [z5b]⟩
     · exact h _ List.mem_cons_self
   · exact zyz all n (i + 1) l (fun x hx => h x (List.mem_cons_of_mem _ hx)) p hp
theorem zlo {c : Chip} (h : PagesOk c) (b : Int) (f : Fate) : PagesOk (zct c b f).1 := by
 unfold zct; split
 · exact h
 · split
   · rename_i hc; unfold canEra at hc; simp only [Bool.and_eq_true, decide_eq_true_eq] at hc; intro x hx; rcases List.mem_or_eq_of_mem_set hx with h3 | rfl
     · exact h x h3
     · have := h _ (z0d (d := default) (show b.toNat < c.blocks.length by omega)); unfold z5z; split
       · exact this
       · exact zyz _ _ 0 _ this
   · exact h
theorem zjs {c : Chip} (h : PagesOk c) (b p : Int) {page : Page} {f : Fate} (hp : PageOk page) (hf : f.tag.length < 4294967296 /\ f.data.length < 4294967296) : PagesOk (z1q c b p page f).1 := by
 unfold z1q; split
 · exact h
 · split
   · rename_i hc; obtain ⟨h1, h2, _⟩ := z1f.1 hc; intro x hx; rcases List.mem_or_eq_of_mem_set hx with h3 | rfl
     · exact h x h3
     · have h4 := h _ (z0d (d := default) (show b.toNat < c.blocks.length by omega)); unfold z2f; intro q hq; rcases List.mem_or_eq_of_mem_set hq with h5 | rfl
       · exact h4 q h5
       · split
         · exact ⟨hp.1, hp.2⟩
         · exact hf
   · exact h
theorem U16.sub {l m : List Int} (h : U16 l) (hm : ∀ n ∈ m, n ∈ l) : U16 m := fun n hn => h n (hm n hn)
theorem U16.part {l : List Int} (h : U16 l) (a k : Nat) : U16 ((l.drop a).take k) := h.sub fun n hn => List.mem_of_mem_drop (List.mem_of_mem_take hn)
structure CI (c : Chip) (m : Int) : Prop where
 ok : z12 c
 pages : PagesOk c
 len : (c.blocks.length : Int) = m
theorem znp {l : List Int} (hl : U16 l) {m : Int} {a : Nat} {c : Chip} (h : CI c m) : CI (stepC l m a c) m := by
 have h1 : CI (if l.getD a 0 % 29 = 0 then (zct c (l.getD a 0 % m) z0k).1 else c) m := by
  split
  · exact ⟨(zjr h.ok _ _).1, zlo h.pages _ _, by rw [(zjr h.ok _ _).2]; exact h.len⟩
  · exact h
 have h2 : PageOk (pgT (l.getD a 0 / 7 % 30) ((l.drop a).take (z0e l a - a))) := zu7 (z04r (hl.part a _) _); have h3 : (if l.getD a 0 % 11 = 0 then (⟨1, [120], (pgT (l.getD a 0 / 7 % 30) ((l.drop a).take (z0e l a - a))).tag, 0⟩ : Fate) else z0k).tag.length < 4294967296 /\ (if l.getD a 0 % 11 = 0 then (⟨1, [120], (pgT (l.getD a 0 / 7 % 30) ((l.drop a).take (z0e l a - a))).tag, 0⟩ : Fate) else z0k).data.length < 4294967296 := by
  split
  · exact ⟨h2.1, by simp⟩
  · exact ⟨by simp [z0k], by simp [z0k]⟩
 unfold stepC; simp only; generalize (if l.getD a 0 % 29 = 0 then (zct c (l.getD a 0 % m) z0k).1 else c) = c1 at h1; generalize (if l.getD a 0 % 11 = 0 then (⟨1, [120], (pgT (l.getD a 0 / 7 % 30) ((l.drop a).take (z0e l a - a))).tag, 0⟩ : Fate) else z0k) = f at h3; split
 · exact h1
 · exact ⟨zu5 h1.ok _ _ _ _, zjs h1.pages _ _ h2 h3, by rw [zqe]; exact h1.len⟩
theorem zey {l : List Int} (hl : U16 l) (hn : l.length < 9223372036854775808) {m : Int} (hm : 0 < m) (hm2 : m < 4294967296) : ∀ (k N a : Nat) (ai i : Int) (c : Chip), ai = a -> i = 40 - (k : Int) -> k <= 40 -> a + 10 * k <= 400 -> CI c m -> k < N -> zf z1c N (l, m, ai, i, c) = some (chipL l m k a c)
 | k, 0, _, _, _, _, _, _, _, _, _, h => by omega
 | 0, N + 1, a, ai, i, c, h1, h2, _, _, _, _ => by
   rw [z6, z7g]; unfold z3q; simp only [chipL]; rw [zF (by omega), zD]
 | k + 1, N + 1, a, ai, i, c, h1, h2, h3, ha4, h4, h5 => by
   subst h1; rw [z6, z7g]; unfold z3q; simp only [Int.toNat_natCast, chipL]; rw [zT (show i < 40 by omega), zC]; by_cases ha : a < l.length
   · rw [zT (show (a : Int) < l.length by omega), zC, if_pos ha]; have hg := hl.get a; have hci := znp hl (a := a) h4; have hna : z0e l a <= a + 10 := by unfold z0e; omega
     have ih := zey hl hn hm hm2 k N (max (z0e l a) (a + 1)) ((max (z0e l a) (a + 1) : Nat) : Int) (w64 (i + 1)) _ rfl (by rw [zg (by omega) (by omega)]; omega) (by omega) (by omega) hci (by omega); rw [<- ih]; obtain ⟨q, hq⟩ : ∃ q : Nat, l.getD a 0 = q := ⟨(l.getD a 0).toNat, by omega⟩; have hnx : z0e l a = min (a + 1 + q / 50 % 8) l.length := by unfold z0e; rw [hq]; rfl
     have b0 : ∀ m : Int, 0 < m -> Int.tmod (q : Int) m = (q : Int) % m := fun m hm => Int.tmod_eq_emod_of_nonneg (by omega)
     have bm : 0 <= (q : Int) % m /\ (q : Int) % m < m := ⟨Int.emod_nonneg _ (by omega), Int.emod_lt_of_pos _ hm⟩; have d50 : Int.tdiv (q : Int) 50 = ((q / 50 : Nat) : Int) := zcb q 50; have d7 : Int.tdiv (q : Int) 7 = ((q / 7 : Nat) : Int) := zcb q 7; have m8 : Int.tmod ((q / 50 : Nat) : Int) 8 = ((q / 50 % 8 : Nat) : Int) := zcc (q / 50) 8; have m30 : Int.tmod ((q / 7 : Nat) : Int) 30 = ((q / 7 % 30 : Nat) : Int) := zcc (q / 7) 30; have m11 : Int.tmod (q : Int) 11 = (q : Int) % 11 := b0 11 (by omega); have m29 : Int.tmod (q : Int) 29 = (q : Int) % 29 := b0 29 (by omega); have emin : min (w64 (w64 ((a : Int) + 1) + ((q / 50 % 8 : Nat) : Int))) (l.length : Int) = ((z0e l a : Nat) : Int) := by
      rw [zg (n := (a : Int) + 1) (by omega) (by omega), zg (by omega) (by omega), hnx]; omega
     have eseq : ((q / 7 % 30 : Nat) : Int) = l.getD a 0 / 7 % 30 := by rw [hq]; omega
     have hpage : z7f (((q / 7 % 30 : Nat) : Int), (l.drop a).take (Int.toNat ((z0e l a : Nat) : Int) - a)) = some (pgT (l.getD a 0 / 7 % 30) ((l.drop a).take (z0e l a - a))) := by
      rw [zqg (hl.part a _) (by simp only [List.length_take, List.length_drop]; omega), eseq, Int.toNat_natCast]
     have emax : max ((z0e l a : Nat) : Int) (w64 ((a : Int) + 1)) = ((max (z0e l a) (a + 1) : Nat) : Int) := by rw [zg (n := (a : Int) + 1) (by omega) (by omega)]; omega
     have wi : w64 (i + 1) = i + 1 := zg (by omega) (by omega); simp only [hq]; rw [zg (n := (q : Int)) (by omega) (by omega), d50, d7, zg (n := ((q / 50 : Nat) : Int)) (by omega) (by omega), zg (n := ((q / 7 : Nat) : Int)) (by omega) (by omega), m8, m30, m11, m29, b0 m hm, emin, emax, hpage]; simp only [z7, znn h4.ok]; rw [zT (show (0 : Int) <= a by omega), zF (show ¬ m = 0 by omega), zT (show (a : Int) <= ((z0e l a : Nat) : Int) by rw [hnx]; omega), zT (show ((z0e l a : Nat) : Int) <= l.length by rw [hnx]; omega), zT bm.1]; simp only [zC, Bool.not_false]; have fin : ∀ (c1 : Chip) (f : Fate), CI c1 m -> c1 = (if l.getD a 0 % 29 = 0 then (zct c (l.getD a 0 % m) z0k).1 else c) -> f = (if l.getD a 0 % 11 = 0 then (⟨1, [120], (pgT (l.getD a 0 / 7 % 30) ((l.drop a).take (z0e l a - a))).tag, 0⟩ : Fate) else z0k) ->
      (cond (decide ((q : Int) % m < (c1.blocks.length : Int))) (Option.bind (zk (c1, (q : Int) % m, (c1.blocks.getD (Int.toNat ((q : Int) % m)) default).next, pgT (l.getD a 0 / 7 % 30) ((l.drop a).take (z0e l a - a)), f)) fun r8 =>
      cond (!(decide (r8.2 = 1)))
       (zf z1c N (l, m, ((max (z0e l a) (a + 1) : Nat) : Int), (w64 (i + 1)), r8.1))
       (zf z1c N (l, m, ((max (z0e l a) (a + 1) : Nat) : Int), (w64 (i + 1)), c1))) none) = zf z1c N (l, m, ((max (z0e l a) (a + 1) : Nat) : Int), (w64 (i + 1)), stepC l m a c) := by
      intro c1 f hc1 e1 e2; have est : stepC l m a c = if (z1q c1 ((q : Int) % m) (nextOf c1 ((q : Int) % m)) (pgT (l.getD a 0 / 7 % 30) ((l.drop a).take (z0e l a - a))) f).2 = 1 then c1 else (z1q c1 ((q : Int) % m) (nextOf c1 ((q : Int) % m)) (pgT (l.getD a 0 / 7 % 30) ((l.drop a).take (z0e l a - a))) f).1 := by
       rw [e1, e2, <- hq]; rfl
      rw [zT (by rw [hc1.len]; exact bm.2), zC, zbt hc1.ok, z7, est]; show cond (!decide ((z1q c1 ((q : Int) % m) (nextOf c1 ((q : Int) % m)) (pgT (l.getD a 0 / 7 % 30) ((l.drop a).take (z0e l a - a))) f).2 = 1)) _ _ = _; by_cases h : (z1q c1 ((q : Int) % m) (nextOf c1 ((q : Int) % m)) (pgT (l.getD a 0 / 7 % 30) ((l.drop a).take (z0e l a - a))) f).2 = 1
      · rw [zT h, Bool.not_true, zD, if_pos h]
      · rw [zF h, Bool.not_false, zC, if_neg h]; rfl
     have hce : CI (zct c ((q : Int) % m) z0k).1 m := ⟨(zjr h4.ok _ _).1, zlo h4.pages _ _, by rw [(zjr h4.ok _ _).2]; exact h4.len⟩; by_cases x11 : (q : Int) % 11 = 0
     · rw [zT x11, zC]; by_cases x29 : (q : Int) % 29 = 0
       · rw [zT x29, zC]; exact fin _ _ hce (by rw [hq, if_pos x29] <;> rfl) (by rw [hq, if_pos x11])
       · rw [zF x29, zD]; exact fin _ _ h4 (by rw [hq, if_neg x29]) (by rw [hq, if_pos x11])
     · rw [zF x11, zD]; by_cases x29 : (q : Int) % 29 = 0
       · rw [zT x29, zC]; exact fin _ _ hce (by rw [hq, if_pos x29] <;> rfl) (by rw [hq, if_neg x11]; rfl)
       · rw [zF x29, zD]; exact fin _ _ h4 (by rw [hq, if_neg x29]) (by rw [hq, if_neg x11]; rfl)
   · rw [zF (show ¬ (a : Int) < l.length by omega), zD, if_neg ha]
theorem znq (n : Int) (bs : List Block) : newL n [] bs = (⟨bs, false, false, 0⟩, 0) := rfl
theorem zu8 {l : List Int} (hl : U16 l) {m : Int} : ∀ (k a : Nat) (c : Chip), CI c m -> CI (chipL l m k a c) m
 | 0, a, c, h => h
 | k + 1, a, c, h => by
   unfold chipL; split
   · exact zu8 hl k _ _ (znp hl h)
   · exact h
end Clk
namespace Clk
open Go
theorem zsn {l : List Int} (hl : U16 l) {kind : Int} : ∀ (n a : Nat) (key : Int) (p : Option Int), 0 <= key -> (∀ q, p = some q -> q < key) -> chkL p (mkL l kind n a key).1 = true
 | 0, a, key, p, _, _ => rfl
 | n + 1, a, key, p, h1, h2 => by
   have p1 := z2g hl a (n := 10) (by omega); unfold mkL; by_cases hk : key < 64
   · rw [if_pos hk]; have hin : inr key = true := by unfold inr; rw [zT h1, zT hk]; rfl
     have hp : ∀ p : Option Int, (∀ q, p = some q -> q < key) -> (match p with | none => true | some q => decide (q < key)) = true := fun p h2 => by
      cases p with
      | none => rfl
      | some q => exact zT (h2 q rfl)
     by_cases hc : kind = 2
     · rw [if_pos hc]; have := zsn hl (kind := kind) n (a + 2) (key + 1 + pk l a 10) (some key) (by omega) (fun q hq => by cases hq; omega); simp only [chkL, hin, this, Bool.true_and, Bool.and_true]; exact hp p h2
     · rw [if_neg hc]; have := zsn hl (kind := kind) n (a + 1) (key + 1 + pk l a 10) (some key) (by omega) (fun q hq => by cases hq; omega); simp only [chkL, hin, this, Bool.true_and, Bool.and_true]; exact hp p h2
   · rw [if_neg hk]; rfl
theorem zvz {l : List Int} (hl : U16 l) : keysT (madeT l).keys = true := by
 have q3 := z2g hl 3 (n := 20) (by omega); have q4 := z2g hl 4 (n := 8) (by omega); have h8 := (zu6 hl).2; have h0 : 0 < (madeT l).keys.length := by
  unfold madeT; simp only; obtain ⟨n, hn⟩ : ∃ n, (pk l 4 8 + 1).toNat = n + 1 := ⟨(pk l 4 8).toNat, by omega⟩; rw [hn, mkL, if_pos (by omega)]; split <;> simp
 unfold keysT; rw [zT h0, zT h8, Bool.and_true, Bool.and_true]; exact zsn hl _ 5 _ none (by omega) (by intro q h; cases h)
def fresh (g : Geometry) : Device :=
 ⟨g, ⟨List.replicate g.blocks.toNat ⟨List.replicate g.pages.toNat z5b, 0, 0, false⟩, false, false, 0⟩, ⟨List.replicate g.sectors.toNat (-1), List.replicate g.sectors.toNat (-1)⟩, 0, -1⟩
theorem zbv {α : Type} {l : List α} {i j : Nat} {x d : α} (h : i ≠ j) : (l.set i x).getD j d = l.getD j d := by
 rw [zI, List.getElem?_set_ne h, <- zI]
theorem zz0 {r : Record} {data : Str} (h : z1e r = true) (hd : data.length <= 16) : (z8w r data).2 = 0 := by
 unfold z8w; rw [if_neg]; rintro (h1 | h1)
 · rw [h] at h1; cases h1
 · omega
end Clk
namespace Clk
open Go
theorem zdt {n : Nat} (h : n < 256) : (UInt8.ofNat n).toNat = n := by simp; omega
theorem zqh : ∀ (f n acc u : Nat) (first : Bool) (rest : Str), n < 128 ^ (f + 1) -> acc + n * u <= 1099511627776 -> (first = true \/ 0 < n) -> takeN (f + 1) first acc u (putN f n ++ rest) = (((acc + n * u : Nat) : Int), rest, true)
 | 0, n, acc, u, first, rest, h1, h2, h3 => by
   have hn : n < 128 := by simpa using h1
   simp only [putN, List.singleton_append, takeN, zdt (show n < 256 by omega)]; rw [if_pos hn, if_neg]; rintro (h | ⟨h, h'⟩)
   · omega
   · rcases h3 with h3 | h3
     · rw [h3] at h; cases h
     · omega
 | f + 1, n, acc, u, first, rest, h1, h2, h3 => by
   unfold putN; by_cases hn : 127 < n
   · rw [if_pos hn]; simp only [List.cons_append, takeN, zdt (show 128 + n % 128 < 256 by omega)]; have e1 : (128 + n % 128) % 128 = n % 128 := by omega
     have e2 : acc + n % 128 * u + n / 128 * (u * 128) = acc + n * u := by
      have : n * u = n % 128 * u + n / 128 * (u * 128) := by
       have h := Nat.div_add_mod n 128; calc n * u = (128 * (n / 128) + n % 128) * u := by rw [h]
        _ = n % 128 * u + n / 128 * (u * 128) := by rw [Nat.add_mul, Nat.add_comm]; congr 1; rw [Nat.mul_comm 128, Nat.mul_assoc, Nat.mul_comm 128]
      omega
     rw [if_neg (by omega), e1, zqh f (n / 128) _ _ false rest (by rw [Nat.pow_succ] at h1; omega) (by rw [e2]; exact h2) (.inr (by omega)), e2]
   · rw [if_neg hn]; simp only [List.singleton_append, takeN, zdt (show n < 256 by omega)]; rw [if_pos (by omega), if_neg]; rintro (h | ⟨h, h'⟩)
     · omega
     · rcases h3 with h3 | h3
       · rw [h3] at h; cases h
       · omega
def Small40 (n : Int) : Prop := 0 <= n /\ n <= 1099511627776
theorem zqi {n : Int} (h : Small40 n) (rest : Str) : z6t (putV n ++ rest) = (n, rest, true) := by
 unfold putV z6t; rw [if_neg (by have := h.1; have := h.2; omega)]; obtain ⟨h1, h2⟩ := h; rw [zqh 5 n.toNat 0 1 true rest (by have : (128 : Nat) ^ (5 + 1) = 4398046511104 := rfl; omega) (by omega) (.inl rfl)]; have : ((0 + n.toNat * 1 : Nat) : Int) = n := by omega
 rw [this]
def flatP (l : List Int) : Str := l.flatMap putV
theorem zlp : ∀ (l : List Int) (s : Str), (∀ n ∈ l, Small40 n) -> packL l s = (s ++ flatP l, 0)
 | [], s, _ => by simp [packL, flatP]
 | n :: l, s, h => by
   obtain ⟨h1, h2⟩ := h n List.mem_cons_self; unfold packL; have : putV n ≠ [] := by unfold putV; rw [if_neg (by omega)]; exact zsg 5 _
   rw [if_neg this, zlp l _ fun m hm => h m (List.mem_cons_of_mem _ hm)]; simp [flatP]
theorem zqj : ∀ (l : List Int), (∀ n ∈ l, Small40 n) -> l.length <= (flatP l).length
 | [], _ => Nat.zero_le _
 | n :: l, h => by
   obtain ⟨h1, h2⟩ := h n List.mem_cons_self; have h3 := zqj l fun m hm => h m (List.mem_cons_of_mem _ hm)
   have : putV n ≠ [] := by unfold putV; rw [if_neg (by omega)]; exact zsg 5 _
   have : 0 < (putV n).length := List.length_pos_iff.2 this; simp only [flatP, List.flatMap_cons, List.length_append, List.length_cons] at h3 ⊢; omega
theorem zgz : ∀ (l : List Int) (rest : Str) (acc : List Int), (∀ n ∈ l, Small40 n) -> unpackL l.length (flatP l ++ rest) acc = (acc ++ l, rest, 0)
 | [], rest, acc, _ => by simp [unpackL, flatP]
 | n :: l, rest, acc, h => by
   have e : flatP (n :: l) ++ rest = putV n ++ (flatP l ++ rest) := by simp [flatP]
   simp only [List.length_cons, unpackL, e, zqi (h n List.mem_cons_self)]; rw [if_neg (by simp), zgz l rest _ fun m hm => h m (List.mem_cons_of_mem _ hm)]; simp
theorem zdu {l : List Int} (hl : ∀ n ∈ l, Small40 n) (hn : l.length <= 1099511627776) (rest : Str) : zd ((packT l).1 ++ rest) = (l, rest, 0) := by
 have hf := zqj l hl; have e : (packT l).1 ++ rest = putV l.length ++ (flatP l ++ rest) := by unfold packT; rw [zlp l _ hl]; simp
 unfold zd; rw [e, zqi ⟨by omega, by omega⟩]; simp only; rw [if_neg (by simp; omega), Int.toNat_natCast, zgz l rest [] hl]; simp
theorem z04s {l : List Int} (h : l.all vr = true) : mvT (zdr 1 l) = l := by
 unfold mvT zdr; rw [List.map_map]; conv => rhs; rw [<- List.map_id l]
 refine List.map_congr_left fun n hn => ?_
 have := znl h n hn; show w64 (w64 (n + 1) - 1) = n; rw [zg (n := n + 1) (by omega) (by omega), zg (by omega) (by omega)]; omega
theorem zso {r : Record} {data : Str} (h : z1e r = true) (hd : data.length <= 16) : decT (z8w r data).1 data = (r, 0) := by
 obtain ⟨k0, k1, k2, k3, k4, k5, k6, k7⟩ := z8x h; have hk : ∀ n ∈ r.keys, Small40 n := fun n hn => by have := zjn k7 n hn; exact ⟨by omega, by omega⟩
 have hv : ∀ n ∈ zdr 1 r.values, Small40 n := fun n hn => by
  unfold zdr at hn; obtain ⟨m, hm, rfl⟩ := List.mem_map.1 hn; have := znl k6 m hm; rw [zg (by omega) (by omega)]; exact ⟨by omega, by omega⟩
 have hh : ∀ n ∈ [r.kind, r.seq], Small40 n := fun n hn => by
  simp only [List.mem_cons, List.not_mem_nil, or_false] at hn; rcases hn with rfl | rfl
  · exact ⟨by omega, by omega⟩
  · exact ⟨k3, k4⟩
 have hml : (zdr 1 r.values).length = r.values.length := by simp [zdr]
 have hE : z8w r data = (bodyT r ++ bytes4 (crcT (bodyT r ++ data)), 0) := by
  unfold z8w; rw [if_neg]; rintro (h1 | h1)
  · rw [h] at h1; cases h1
  · omega
 generalize hX : bytes4 (crcT (bodyT r ++ data)) = X at hE; have u1 : zd (z8w r data).1 = ([r.kind, r.seq], (packT r.keys).1 ++ ((packT (zdr 1 r.values)).1 ++ X), 0) := by
  rw [hE]; unfold bodyT; simp only [List.append_assoc]; exact zdu hh (by simp) _
 have u2 : zd ((packT r.keys).1 ++ ((packT (zdr 1 r.values)).1 ++ X)) = (r.keys, (packT (zdr 1 r.values)).1 ++ X, 0) := zdu hk (by omega) _; have u3 : zd ((packT (zdr 1 r.values)).1 ++ X) = (zdr 1 r.values, X, 0) := zdu hv (by omega) _; have hr : (⟨r.kind, r.seq, r.keys, mvT (zdr 1 r.values)⟩ : Record) = r := by rw [z04s k6]
 unfold decT; rw [u1]; simp only; rw [u2]; simp only; rw [u3]; simp only [List.length_cons, List.length_nil]; rw [if_neg (by simp)]; have e0 : [r.kind, r.seq].getD 0 0 = r.kind := rfl; have e1 : [r.kind, r.seq].getD 1 0 = r.seq := rfl; rw [e0, e1, hr, if_neg]; rw [hE]; simp
theorem zw0 {p : Page} (h : (z6u p).1 = 1) : z1e (z6u p).2 = true := by
 unfold z6u at h ⊢; split at h
 · simp at h
 · rename_i h1; rw [if_neg h1]; split at h
   · simp at h
   · rename_i h2; rw [if_neg h2]; simp only [ne_eq, Decidable.not_not] at h2; simp only; unfold decT at h2 ⊢; split at h2
     · simp at h2
     · rename_i h3; rw [if_neg h3]; split at h2
       · simp at h2
       · rename_i h4; rw [if_neg h4]; simp only; generalize hR : (⟨(zd p.tag).1.getD 0 0, (zd p.tag).1.getD 1 0, (zd (zd p.tag).2.1).1, mvT (zd (zd (zd p.tag).2.1).2.1).1⟩ : Record) = R at h4; cases hr : z1e R with
         | true => rfl
         | false =>
           exfalso; apply h4
           left; unfold z8w; rw [if_pos (.inl hr)]; simp
def vv (b p : Nat) (pg : Page) : List Found := if (z6u pg).1 = 1 /\ 0 <= z2n b p then [⟨z2n b p, (z6u pg).2⟩] else []
def vp (b : Nat) : Nat -> List Page -> List Found
 | _, [] => []
 | p, pg :: l => vv b p pg ++ vp b (p + 1) l
def vb : Nat -> List Block -> List Found
 | _, [] => []
 | b, x :: l => vp b 0 x.pages ++ vb (b + 1) l
theorem zjt (b : Nat) : ∀ (l : List Page) (p : Nat) (out : List Found), pagesT b p l out = (vp b p l).foldl zds out
 | [], p, out => rfl
 | pg :: l, p, out => by
   unfold pagesT vp vv; rw [zjt b l (p + 1), List.foldl_append]; split <;> rfl
theorem z7v : ∀ (l : List Block) (b : Nat) (out : List Found), blocksT b l out = (vb b l).foldl zds out
 | [], b, out => rfl
 | x :: l, b, out => by
   unfold blocksT vb; rw [z7v l (b + 1), List.foldl_append, zjt]
theorem z023 (b : Nat) : ∀ (l : List Page) (p j : Nat), j < l.length -> ∃ A B, vp b p l = A ++ vv b (p + j) (l.getD j default) ++ B /\ ∀ q, vp b p (l.set j q) = A ++ vv b (p + j) q ++ B
 | [], p, j, h => by simp at h
 | x :: l, p, 0, h => ⟨[], vp b (p + 1) l, by simp [vp], fun q => by simp [vp]⟩
 | x :: l, p, j + 1, h => by
   obtain ⟨A, B, h1, h2⟩ := z023 b l (p + 1) j (by simpa using h); have e : p + 1 + j = p + (j + 1) := by omega
   refine ⟨vv b p x ++ A, B, ?_, fun q => ?_⟩
   · simp only [vp, h1, e, List.append_assoc]; rfl
   · simp only [List.set_cons_succ, vp, h2, e, List.append_assoc]
theorem z024 : ∀ (l : List Block) (b i : Nat), i < l.length -> ∃ A B, vb b l = A ++ vp (b + i) 0 (l.getD i default).pages ++ B /\ ∀ y, vb b (l.set i y) = A ++ vp (b + i) 0 y.pages ++ B
 | [], b, i, h => by simp at h
 | x :: l, b, 0, h => ⟨[], vb (b + 1) l, by simp [vb], fun y => by simp [vb]⟩
 | x :: l, b, i + 1, h => by
   obtain ⟨A, B, h1, h2⟩ := z024 l (b + 1) i (by simpa using h); have e : b + 1 + i = b + (i + 1) := by omega
   refine ⟨vp b 0 x.pages ++ A, B, ?_, fun y => ?_⟩
   · simp only [vb, h1, e, List.append_assoc]; rfl
   · simp only [List.set_cons_succ, vb, h2, e, List.append_assoc]
theorem zu9 : ∀ (l : List Found) (x : Found), (∀ y ∈ l, y.record.seq < x.record.seq) -> zds l x = l ++ [x]
 | [], x, _ => rfl
 | y :: l, x, h => by
   have h1 := h y List.mem_cons_self; have : aheadT x y = false := by
    unfold aheadT; rw [zF (by omega), zF (show ¬ x.record.seq = y.record.seq by omega)]; rfl
   unfold zds; rw [this, if_neg (by simp), zu9 l x fun z hz => h z (List.mem_cons_of_mem _ hz)]; rfl
theorem zlq : ∀ (l : List Found) (x y : Found), y.record.seq < x.record.seq -> zds (l ++ [x]) y = zds l y ++ [x]
 | [], x, y, h => by
   have : aheadT y x = true := by unfold aheadT; rw [zT h]; rfl
   simp only [List.nil_append, zds]; rw [if_pos this]; rfl
 | z :: l, x, y, h => by
   simp only [List.cons_append, zds]; split
   · rfl
   · rw [zlq l x y h]; rfl
theorem znr : ∀ (B l : List Found) (y : Found), y ∈ B.foldl zds l ↔ y ∈ l \/ y ∈ B
 | [], l, y => by simp
 | b :: B, l, y => by
   have hi : ∀ (l : List Found) (x : Found), y ∈ zds l x ↔ y = x \/ y ∈ l := by
    intro l x; induction l with
    | nil => simp [zds]
    | cons z l ih =>
      unfold zds; split
      · simp
      · simp only [List.mem_cons, ih]; constructor
        · rintro (h | h | h)
          · exact .inr (.inl h)
          · exact .inl h
          · exact .inr (.inr h)
        · rintro (h | h | h)
          · exact .inr (.inl h)
          · exact .inl h
          · exact .inr (.inr h)
   simp only [List.foldl_cons, znr B, hi, List.mem_cons]; constructor
   · rintro ((h | h) | h)
     · exact .inr (.inl h)
     · exact .inl h
     · exact .inr (.inr h)
   · rintro (h | h | h)
     · exact .inl (.inr h)
     · exact .inl (.inl h)
     · exact .inr h
theorem zqk : ∀ (B l : List Found) (x : Found), (∀ y ∈ B, y.record.seq < x.record.seq) -> B.foldl zds (l ++ [x]) = B.foldl zds l ++ [x]
 | [], l, x, _ => rfl
 | b :: B, l, x, h => by
   simp only [List.foldl_cons]; rw [zlq l x b (h b List.mem_cons_self)]; exact zqk B _ x fun y hy => h y (List.mem_cons_of_mem _ hy)
theorem z012 {A B : List Found} {x : Found} (h : ∀ y, y ∈ A \/ y ∈ B -> y.record.seq < x.record.seq) : (A ++ [x] ++ B).foldl zds [] = (A ++ B).foldl zds [] ++ [x] := by
 rw [List.foldl_append, List.foldl_append, List.foldl_append]; have h1 : zds (A.foldl zds []) x = A.foldl zds [] ++ [x] := zu9 _ x fun y hy => h y (.inl (by simpa using (znr A [] y).1 hy))
 simp only [List.foldl_cons, List.foldl_nil, h1]; exact zqk B _ x fun y hy => h y (.inr hy)
theorem zua : ∀ (l : List Found) (t : Table) (s : Int) (f : Found), repL (l ++ [f]) t s = (applyT (repL l t s).1 f, max (repL l t s).2 (w64 (f.record.seq + 1)))
 | [], t, s, f => rfl
 | x :: l, t, s, f => by
   simp only [List.cons_append, repL]; exact zua l _ _ f
theorem zz1 : ∀ (l : List Found) (t : Table) (s : Int), s <= (repL l t s).2 /\ ∀ f ∈ l, w64 (f.record.seq + 1) <= (repL l t s).2
 | [], t, s => ⟨Int.le_refl _, fun f h => by cases h⟩
 | x :: l, t, s => by
   obtain ⟨h1, h2⟩ := zz1 l (applyT t x) (max s (w64 (x.record.seq + 1))); simp only [repL]; refine ⟨by omega, fun f hf => ?_⟩; rcases List.mem_cons.1 hf with rfl | hf
   · omega
   · exact h2 f hf
end Clk
namespace Clk
open Go
theorem z03q {c : Chip} {b p : Nat} (hb : b < c.blocks.length) (hp : p < (c.blocks.getD b default).pages.length) : ∃ A B, vb 0 c.blocks = A ++ vv b p ((c.blocks.getD b default).pages.getD p default) ++ B /\ ∀ q n e bd, vb 0 (c.blocks.set b ⟨(c.blocks.getD b default).pages.set p q, n, e, bd⟩) = A ++ vv b p q ++ B := by
 obtain ⟨A, B, h1, h2⟩ := z024 c.blocks 0 b hb; obtain ⟨C, D, h3, h4⟩ := z023 (0 + b) (c.blocks.getD b default).pages 0 p hp; have e : 0 + b = b := by omega
 have e2 : 0 + p = p := by omega
 rw [e] at h1 h2 h3 h4; rw [e2] at h3 h4; refine ⟨A ++ C, D ++ B, by rw [h1, h3]; simp, fun q n e bd => ?_⟩; rw [h2, h4]; simp
theorem zz2 (c : Chip) : allT c = (vb 0 c.blocks).foldl zds [] := z7v _ 0 []
theorem z03r {b p : Nat} {pg : Page} (h : (z6u pg).1 ≠ 1) : vv b p pg = [] := by
 unfold vv; rw [if_neg (fun x => h x.1)]
theorem zw1 {p : Page} (h : p.written = false) : z6u p = (0, zRec) := by unfold z6u; rw [if_pos h]
theorem zju {c : Chip} {b p : Int} {page : Page} {f : Fate} (h : (z1q c b p page f).2 = 0 \/ (z1q c b p page f).2 = 53) : canProg c b p f = true /\ z1q c b p page f = (⟨c.blocks.set b.toNat (z2f (c.blocks.getD b.toNat default) p page f), c.broken, decide (f.kind = 2), w64 (c.ops + 1)⟩, if f.kind = 0 then 0 else if f.kind = 1 then 53 else 52) := by
 unfold z1q at h ⊢; split at h
 · simp at h
 · rename_i ho; rw [if_neg ho]; split at h
   · rename_i hc; rw [if_pos hc]; exact ⟨hc, rfl⟩
   · unfold brkT at h; simp at h
end Clk
namespace Clk
open Go
theorem zns (n : Int) (r : Str) (ok : Bool) : z5t (n, r, ok) = some (if ok = false \/ 1099511627776 < n then (0, [], false) else (n, r, true)) := by
 show z5s n r ok = _; unfold z5s; cases ok with
 | false => simp
 | true =>
   by_cases h : 1099511627776 < n
   · rw [zT h, if_pos (.inr h)]; rfl
   · rw [zF h, if_neg (by simp; omega)]; rfl
theorem zw2 : (List.range 256).map (fun c : Nat => w64 (bAndNot .i64 (w64 (c : Int)) 128)) = (List.range 256).map (fun c : Nat => ((c % 128 : Nat) : Int)) := by kernel_rfl
theorem z03s : (List.range 6).map (fun k : Nat => (w64 (7 * (k : Int)), (2 : Int) ^ (min (Int.toNat (w64 (7 * (k : Int)))) 64))) = (List.range 6).map (fun k : Nat => (((7 * k : Nat) : Int), ((128 ^ k : Nat) : Int))) := by kernel_rfl
theorem zz3 {c : Nat} (h : c < 256) : w64 (bAndNot .i64 (w64 (c : Int)) 128) = ((c % 128 : Nat) : Int) := by
 have := congrArg (fun l => l[c]?) zw2; simpa only [List.getElem?_map, List.getElem?_range h, Option.map_some, Option.some.injEq] using this
theorem pow7 {k : Nat} (h : k < 6) : w64 (7 * (k : Int)) = ((7 * k : Nat) : Int) /\ (2 : Int) ^ (min (Int.toNat (w64 (7 * (k : Int)))) 64) = ((128 ^ k : Nat) : Int) := by
 have := congrArg (fun l => l[k]?) z03s; simp only [List.getElem?_map, List.getElem?_range h, Option.map_some, Option.some.injEq, Prod.mk.injEq] at this; exact this
theorem z04t {n m k : Nat} (h : n < 128 ^ k) : n ||| m * 128 ^ k = n + m * 128 ^ k := by
 have e : 128 ^ k = 2 ^ (7 * k) := by rw [Nat.pow_mul]
 rw [e] at h ⊢; have := Nat.two_pow_add_eq_or_of_lt h m; rw [Nat.or_comm, Nat.mul_comm m, <- this]; omega
theorem zh0 {s : Str} (hs : s.length < 4294967296) : ∀ (f N : Nat) (l : Str) (n k : Nat) (i cnt : Int), s.drop k = l -> i = k -> cnt = min (s.length : Int) 6 -> k + f = 6 -> n < 128 ^ k -> f < N -> zf z88 N (s, n, cnt, i) = some (takeN f (k == 0) n (128 ^ k) l)
 | f, 0, _, _, _, _, _, _, _, _, _, _, h => by omega
 | 0, N + 1, l, n, k, i, cnt, h1, h2, hc, h3, h4, h6 => by
   rw [z6, z4b]; unfold z2v; simp only [takeN]; rw [zF (show ¬ i < cnt by omega), zD]
 | f + 1, N + 1, [], n, k, i, cnt, h1, h2, hc, h3, h4, h6 => by
   have := z0c h1; rw [z6, z4b]; unfold z2v; simp only [takeN]; rw [zF (show ¬ i < cnt by omega), zD]
 | f + 1, N + 1, c :: l, n, k, i, cnt, h1, h2, hcn, h3, h4, h6 => by
   obtain ⟨g1, g2, g3⟩ := zu h1; subst h2; have hc := z00u c; have hu : 128 ^ k <= 34359738368 := Nat.le_trans (Nat.pow_le_pow_right (by omega) (show k <= 5 by omega)) (by decide); have hu0 : 0 < 128 ^ k := Nat.pow_pos (by omega); have hm2 : c.toNat % 128 * 128 ^ k <= 127 * 128 ^ k := Nat.mul_le_mul (by omega) (Nat.le_refl _); obtain ⟨p1, p2⟩ := pow7 (show k < 6 by omega); have hor : w64 (bOr .i64 (n : Int) (w64 ((w64 (bAndNot .i64 (w64 (c.toNat : Int)) 128)) * 2 ^ (min (Int.toNat (w64 (7 * (k : Int)))) 64)))) = ((n + c.toNat % 128 * 128 ^ k : Nat) : Int) := by
    rw [zz3 hc, p2]; have e2 : ((c.toNat % 128 : Nat) : Int) * ((128 ^ k : Nat) : Int) = ((c.toNat % 128 * 128 ^ k : Nat) : Int) := by push_cast; rfl
    rw [e2, zg (n := ((c.toNat % 128 * 128 ^ k : Nat) : Int)) (by omega) (by omega), zyj (k := .i64) (show n < 2 ^ 64 by omega) (show c.toNat % 128 * 128 ^ k < 2 ^ 64 by omega), z04t h4, zg (by omega) (by omega)]
   rw [z6, z4b]; unfold z2v; simp only [Int.toNat_natCast, g2, takeN]; rw [zT (show (k : Int) < cnt by omega), zT (show (k : Int) < s.length by omega), zT (show (0 : Int) <= k by omega), p1, zT (show (0 : Int) <= ((7 * k : Nat) : Int) by omega)]; rw [p1] at hor; simp only [Int.toNat_natCast] at hor ⊢; rw [hor, zg (n := (c.toNat : Int)) (by omega) (by omega), zg (n := (k : Int) + 1) (by omega) (by omega)]; simp only [zC, zns, z7]; have e4 : Int.toNat ((k : Int) + 1) = k + 1 := by omega
   by_cases h7 : c.toNat < 128
   · have e3 : c.toNat % 128 = c.toNat := Nat.mod_eq_of_lt h7; rw [zT (show (c.toNat : Int) < 128 by omega), zC, if_pos h7, zT (show (0 : Int) <= (k : Int) + 1 by omega), zT (show (k : Int) + 1 <= s.length by omega), e4, g3, e3]; simp only [zC]; by_cases h9 : k = 0
     · subst h9; rw [zT (show ((0 : Nat) : Int) = 0 from rfl), zC]; by_cases h8 : 1099511627776 < n + c.toNat * 128 ^ 0
       · rw [if_pos (.inr (by omega)), if_pos (.inl h8)]
       · rw [if_neg (by simp; omega), if_neg (by simp; omega)]
     · rw [zF (show ¬ (k : Int) = 0 by omega), zD]; by_cases h8 : 1099511627776 < n + c.toNat * 128 ^ k
       · rw [if_pos (.inr (by omega)), if_pos (.inl h8)]
       · by_cases h10 : c.toNat = 0
         · rw [if_pos (.inl (by simp; omega)), if_pos (.inr ⟨by simpa using h9, h10⟩)]
         · rw [if_neg (by rintro (h | h); simp at h; omega; omega), if_neg (by rintro (h | ⟨_, h⟩); exact h8 h; exact h10 h)]
   · rw [zF (show ¬ (c.toNat : Int) < 128 by omega), zD, if_neg h7]; have hn2 : n + c.toNat % 128 * 128 ^ k < 128 ^ (k + 1) := by rw [Nat.pow_succ]; omega
     have := zh0 hs f N l (n + c.toNat % 128 * 128 ^ k) (k + 1) ((k : Int) + 1) cnt g3 (by omega) hcn (by omega) hn2 (by omega); rw [this, Nat.pow_succ]; rfl
theorem zjv {s : Str} (hs : s.length < 4294967296) : z9o s = some (z6t s) := by
 refine z10 7 fun N hN => ?_
 exact zh0 hs 6 N s 0 0 0 _ rfl rfl rfl (by omega) (by omega) (by omega)
theorem zcu {n : Int} (hn : n < 4294967296) : ∀ (m N k : Nat) (i : Int) (s : Str) (acc : List Int), (k : Int) + m = n -> i = k -> s.length < 4294967296 -> acc.length = k -> m < N -> zf z5a N (s, n, i, acc) = some (unpackL m s acc)
 | m, 0, _, _, _, _, _, _, _, _, h => by omega
 | 0, N + 1, k, i, s, acc, h1, h2, h3, h4, h5 => by
   rw [z6, z6o]; unfold z34; simp only [unpackL]; rw [zF (by omega)]; rfl
 | m + 1, N + 1, k, i, s, acc, h1, h2, h3, h4, h5 => by
   rw [z6, z6o]; unfold z34; simp only [unpackL, zjv h3, z7]; rw [zT (show i < n by omega), zC]; have hl := zeu s; cases hb : (z6t s).2.2 with
   | false => rfl
   | true =>
     rw [if_neg (by simp), Bool.not_true, zD]; rw [zT (by simp; omega), zC, zT (by simp; omega), zC]; exact zcu hn m N (k + 1) _ _ _ (by omega) (by rw [zg (by omega) (by omega)]; omega) (by omega) (by simp; omega) (by omega)
theorem za0 {s : Str} (hs : s.length < 4294967296) : z3u s = some (zd s) := by
 refine z10 (s.length + 1) fun N hN => ?_
 show z5u N s = _; unfold z5u zd; simp only [zjv hs, z7]; have hl := zeu s; have hn := z00w s; cases hb : (z6t s).2.2 with
 | false => rfl
 | true =>
   rw [Bool.not_true, zD]; by_cases h1 : ((z6t s).2.1.length : Int) < (z6t s).1
   · rw [zT h1, zC, if_pos (.inr h1)]
   · rw [zF h1, zD, if_neg (by simp; omega)]; exact zcu (by omega) _ N 0 0 _ _ (by omega) rfl (by omega) rfl (by omega)
def tagOk (s : Str) : Prop := (zd s).2.2 = 0 -> (zd s).1.length = 2 -> (zd (zd s).2.1).2.2 = 0
theorem zw3 {s : Str} (hs : s.length < 4294967296) (ht : tagOk s) : zfp s = some (if (zd s).2.2 ≠ 0 \/ (zd s).1.length ≠ 2 \/ (zd (zd (zd s).2.1).2.1).2.2 ≠ 0 then (zRec, 30) else (⟨(zd s).1.getD 0 0, (zd s).1.getD 1 0, (zd (zd s).2.1).1, zdr (-1) (zd (zd (zd s).2.1).2.1).1⟩, 0)) := by
 have q1 := z37 s; have q2 := z37 (zd s).2.1; have q3 := z37 (zd (zd s).2.1).2.1; unfold tagOk at ht; show readF z3u (fun l => z36 (l, -1)) s = _; unfold readF; simp only [za0 hs]; by_cases c1 : (zd s).2.2 = 0
 · rw [zT c1, zC]; by_cases c2 : (zd s).1.length = 2
   · rw [zT c2, zC]; simp only [za0 (show (zd s).2.1.length < 4294967296 by omega)]; rw [zT (ht c1 c2), zC]; simp only [za0 (show (zd (zd s).2.1).2.1.length < 4294967296 by omega)]; by_cases c3 : (zd (zd (zd s).2.1).2.1).2.2 = 0
     · rw [zT c3, zC, if_neg (by simp [c1, c2, c3])]; simp only [zjo (show (zd (zd (zd s).2.1).2.1).1.length < 4294967296 by omega)]
     · rw [zF c3, zD, if_pos (.inr (.inr c3))]; rfl
   · rw [zF c2, zD, if_pos (.inr (.inl c2))]; rfl
 · rw [zF c1, zD, if_pos (.inl c1)]; rfl
theorem z03t (l : List Int) : zdr (-1) l = mvT l := by unfold zdr mvT; rfl
theorem zql {tag data : Str} (ht : tag.length < 4294967296) (hd : data.length < 4294967296) (hk : tagOk tag) : zb6 (tag, data) = some (decT tag data) := by
 have q1 := z37 tag; have q2 := z37 (zd tag).2.1; have q3 := z37 (zd (zd tag).2.1).2.1; show z7s tag data = _; unfold z7s; rw [zw3 ht hk, z7]; unfold decT; have hk' := hk; unfold tagOk at hk'; split
 · rename_i h; rw [zF (by decide), Bool.not_false, zC, if_pos (by
    rcases h with h | h | h
    · exact .inl h
    · exact .inr (.inr (.inr h))
    · exact .inr (.inr (.inl h)))]
   rfl
 · rename_i h; simp only [not_or, Decidable.not_not] at h; obtain ⟨c1, c2, c3⟩ := h; rw [zT rfl, Bool.not_true, zD, if_neg (by simp [c1, c2, c3, hk' c1 c2])]; simp only; rw [z03t, zq9 ⟨by show (zd (zd tag).2.1).1.length < _; omega, by show (mvT _).length < _; unfold mvT; rw [List.length_map]; omega⟩ hd, z7]; generalize ({ kind := _, seq := _, keys := _, values := _ } : Record) = r; by_cases e1 : (z8w r data).2 = 0
   · rw [zT e1, Bool.not_true, zD]; by_cases e2 : (z8w r data).1 = tag
     · rw [zT e2, Bool.not_true, zD, if_neg (by simp [e1, e2])]
     · rw [zF e2, Bool.not_false, zC, if_pos (.inr e2)]; rfl
   · rw [zF e1, Bool.not_false, zC, if_pos (.inl e1)]; rfl
theorem zsp {p : Page} (h : PageOk p) (hk : tagOk p.tag) : zdf p = some (z6u p) := by
 show z9p p = _; unfold z9p z6u; cases p.written with
 | false => rfl
 | true =>
   rw [Bool.not_true, zD, zql h.1 h.2 hk, z7, if_neg (by simp)]; by_cases c : (decT p.tag p.data).2 = 0
   · rw [zT c, zC, if_neg (by simp [c])]
   · rw [zF c, zD, if_pos c]; rfl
end Clk
namespace Clk
open Go
def TagsOk (c : Chip) : Prop := ∀ b ∈ c.blocks, ∀ p ∈ b.pages, tagOk p.tag
theorem zz4 : ∀ (l : List Found) (f : Found), insF l f = zds l f
 | [], f => rfl
 | x :: l, f => by
   unfold insF zds; rw [zz4 l f]; rfl
theorem z013 (l : List Found) : sortF l = l.foldl zds [] := by
 unfold sortF; rw [show insF = zds from funext fun l => funext fun f => zz4 l f]
theorem zhk {b p : Nat} {pg : Page} {f : Found} (h : f ∈ vv b p pg) : f.place = 16 * (b : Int) + p /\ p < 16 /\ b < 32 := by
 unfold vv at h; split at h
 · rename_i hc; obtain ⟨h1, h2⟩ := z00y hc.2; simp at h; subst h; refine ⟨?_, h2, h1⟩; show z2n b p = _; unfold z2n; rw [if_neg (by omega)]; omega
 · cases h
theorem zhl {b : Nat} : ∀ {l : List Page} {p : Nat} {f : Found}, f ∈ vp b p l -> ∃ q : Nat, p <= q /\ q < 16 /\ b < 32 /\ f.place = 16 * (b : Int) + q
 | [], p, f, h => by simp [vp] at h
 | pg :: l, p, f, h => by
   unfold vp at h; rcases List.mem_append.1 h with h | h
   · obtain ⟨h1, h2, h3⟩ := zhk h; exact ⟨p, Nat.le_refl _, h2, h3, h1⟩
   · obtain ⟨q, h1, h2⟩ := zhl h; exact ⟨q, by omega, h2⟩
theorem zub : ∀ {l : List Block} {b : Nat} {f : Found}, f ∈ vb b l -> ∃ c q : Nat, b <= c /\ q < 16 /\ f.place = 16 * (c : Int) + q
 | [], b, f, h => by simp [vb] at h
 | x :: l, b, f, h => by
   unfold vb at h; rcases List.mem_append.1 h with h | h
   · obtain ⟨q, _, h2, _, h3⟩ := zhl h; exact ⟨b, q, Nat.le_refl _, h2, h3⟩
   · obtain ⟨c, q, h1, h2⟩ := zub h; exact ⟨c, q, by omega, h2⟩
theorem z03u (b p : Nat) (pg : Page) : (vv b p pg).Pairwise (fun x y => x.place < y.place) := by
 unfold vv; split <;> simp
theorem zz5 (b : Nat) : ∀ (l : List Page) (p : Nat), (vp b p l).Pairwise (fun x y => x.place < y.place)
 | [], p => by simp [vp]
 | pg :: l, p => by
   unfold vp; refine List.pairwise_append.2 ⟨z03u b p pg, zz5 b l (p + 1), fun x hx y hy => ?_⟩; obtain ⟨h1, _, _⟩ := zhk hx; obtain ⟨q, h2, _, _, h3⟩ := zhl hy; omega
theorem zsq : ∀ (l : List Block) (b : Nat), (vb b l).Pairwise (fun x y => x.place < y.place)
 | [], b => by simp [vb]
 | x :: l, b => by
   unfold vb; refine List.pairwise_append.2 ⟨zz5 b _ 0, zsq l (b + 1), fun x hx y hy => ?_⟩; obtain ⟨q, _, h1, _, h2⟩ := zhl hx; obtain ⟨c, r, h3, _, h4⟩ := zub hy; omega
theorem zqm : ∀ {l : List Found}, l.Pairwise (fun x y => x.place < y.place) -> distF l = true
 | [], _ => rfl
 | x :: l, h => by
   rw [List.pairwise_cons] at h; unfold distF; rw [Bool.and_eq_true]; refine ⟨List.all_eq_true.2 fun y hy => ?_, zqm h.2⟩; have := h.1 y hy; simp only [Bool.not_eq_true', decide_eq_false_iff_not, Prod.mk.injEq]; omega
theorem z025 (b p : Nat) (pg : Page) : (vv b p pg).length <= 1 := by unfold vv; split <;> simp
theorem zz6 {M : List Block × Int × Int × List Found -> Option (List Found)} {bs : List Block} {n : Int} {b : Nat} {pgs : List Page} (hs : pgs.length < 4294967296) (hb : b < 4294967296) (hp : ∀ p ∈ pgs, PageOk p) (ht : ∀ p ∈ pgs, tagOk p.tag) : ∀ (l : List Page) (N p : Nat) (i : Int) (out : List Found), pgs.drop p = l -> i = p -> out.length <= min (16 * b + min p 16) 512 -> l.length < N ->
 zf (z9q M) N ((b : Int), bs, n, (b : Int), pgs, (pgs.length : Int), i, out) = M (bs, n, ((b + 1 : Nat) : Int), out ++ vp b p l)
 | l, 0, _, _, _, _, _, _, h => by omega
 | [], N + 1, p, i, out, h1, h2, h3, _ => by
   have h4 := z0c h1; rw [z6, zaa]; unfold z5v; simp only [vp, List.append_nil]; rw [zF (by omega), zD, zg (by omega) (by omega)]; rfl
 | pg :: l, N + 1, p, i, out, h1, h2, h3, h5 => by
   obtain ⟨g1, g2, g3⟩ := zu h1; subst h2; have hmem : pg ∈ pgs := by rw [<- g2 default]; exact z0d g1
   simp at h5; have hv := z025 b p pg; have hv2 : vv b p pg ≠ [] -> b < 32 /\ p < 16 := fun h => by
    cases hvv : vv b p pg with
    | nil => exact absurd hvv h
    | cons f r => have := zhk (f := f) (by rw [hvv]; simp); omega
   have hlen : (out ++ vv b p pg).length <= min (16 * b + min (p + 1) 16) 512 := by
    rw [List.length_append]; by_cases hvv : vv b p pg = []
    · rw [hvv]; simp; omega
    · have := hv2 hvv; omega
   have ih := zz6 (M := M) (bs := bs) (n := n) hs hb hp ht l N (p + 1) ((p : Int) + 1) (out ++ vv b p pg) g3 (by omega) hlen (by omega); rw [z6, zaa]; unfold z5v; simp only [Int.toNat_natCast, g2, vp]; rw [zT (show (p : Int) < (pgs.length : Int) by omega), zT (show (0 : Int) <= p by omega)]; simp only [zC, zqb, z7]; rw [zg (n := (p : Int) + 1) (by omega) (by omega), zsp (hp pg hmem) (ht pg hmem), z7, <- List.append_assoc, <- ih]; by_cases c1 : 0 <= z2n b p
   · rw [zT c1, zC]; by_cases c2 : (z6u pg).1 = 1
     · rw [zT c2, zC]; have e : vv b p pg = [⟨z2n b p, (z6u pg).2⟩] := by unfold vv; rw [if_pos ⟨c2, c1⟩]
       rw [e] at hlen ⊢; rw [zT (by simp at hlen ⊢; omega), zC, zT (by simp at hlen ⊢; omega), zC]
     · rw [zF c2, zD]; have e : vv b p pg = [] := by unfold vv; rw [if_neg (fun h => c2 h.1)]
       rw [e, List.append_nil]
   · rw [zF c1, zD]; have e : vv b p pg = [] := by unfold vv; rw [if_neg (fun h => c1 h.2)]
     rw [e, List.append_nil]
theorem z026 (b : Nat) : ∀ (l : List Page) (p : Nat), (vp b p l).length <= 16 - min p 16 /\ (32 <= b -> vp b p l = [])
 | [], p => by simp [vp]
 | pg :: l, p => by
   unfold vp; obtain ⟨h1, h2⟩ := z026 b l (p + 1); have hv := z025 b p pg; have hv2 : vv b p pg ≠ [] -> b < 32 /\ p < 16 := fun h => by
    cases hvv : vv b p pg with
    | nil => exact absurd hvv h
    | cons f r => have := zhk (f := f) (by rw [hvv]; simp); omega
   by_cases hvv : vv b p pg = []
   · rw [hvv]; simp only [List.nil_append]; exact ⟨by omega, h2⟩
   · obtain ⟨h3, h4⟩ := hv2 hvv; rw [List.length_append]; exact ⟨by omega, fun h => by omega⟩
theorem zz7 {c : Chip} (hc : z12 c) (hp : PagesOk c) (ht : TagsOk c) {M : Nat} (hM : ∀ b ∈ c.blocks, b.pages.length < M) : ∀ (l : List Block) (N b : Nat) (i : Int) (out : List Found), c.blocks.drop b = l -> i = b -> out.length <= min (16 * b) 512 -> (out ++ vb b l).Pairwise (fun x y => x.place < y.place) -> l.length < N ->
 zf (z9r M) N (c.blocks, (c.blocks.length : Int), i, out) = some (sortF (out ++ vb b l))
 | l, 0, _, _, _, _, _, _, _, h => by omega
 | [], N + 1, b, i, out, h1, h2, h3, h6, _ => by
   have h4 := z0c h1; rw [z6, zab]; unfold z5w; simp only [vb, List.append_nil] at h6 ⊢; rw [zF (by omega), zD, zqm h6, zC, zT (by omega), zC]
 | x :: l, N + 1, b, i, out, h1, h2, h3, h6, h5 => by
   obtain ⟨g1, g2, g3⟩ := zu h1; subst h2; have hmem : x ∈ c.blocks := by rw [<- g2 default]; exact z0d g1
   have hb := hc.1; simp at h5; rw [z6, zab]; unfold z5w; simp only [Int.toNat_natCast, g2, vb]; rw [zT (show (b : Int) < (c.blocks.length : Int) by omega), zT (show (0 : Int) <= b by omega)]; simp only [zC]; rw [zz6 (hc.2 x hmem) (by omega) (fun p h => hp x hmem p h) (fun p h => ht x hmem p h) x.pages M 0 0 out rfl rfl (by omega) (hM x hmem), <- List.append_assoc]; obtain ⟨k1, k2⟩ := z026 b x.pages 0; have hlen : (out ++ vp b 0 x.pages).length <= min (16 * (b + 1)) 512 := by
    rw [List.length_append]; by_cases h32 : 32 <= b
    · rw [k2 h32]; simp; omega
    · omega
   exact zz7 hc hp ht hM l N (b + 1) _ _ g3 rfl hlen (by rw [List.append_assoc]; exact h6) (by omega)
theorem zh1 {α : Type} (f : α -> Nat) : ∀ (l : List α), ∃ M, ∀ x ∈ l, f x < M
 | [] => ⟨0, fun _ h => by cases h⟩
 | x :: l => by
   obtain ⟨M, h⟩ := zh1 f l; exact ⟨max M (f x + 1), fun y hy => by
    rcases List.mem_cons.1 hy with rfl | hy
    · omega
    · have := h y hy; omega⟩
theorem zw4 {c : Chip} (hc : z12 c) (hp : PagesOk c) (ht : TagsOk c) : zfq c = some (allT c) := by
 obtain ⟨M, hM⟩ := zh1 (fun b : Block => b.pages.length) c.blocks; refine z10 (max M (c.blocks.length + 1)) fun N hN => ?_
 show zc8 N c = _; unfold zc8; have := zz7 hc hp ht (M := N) (fun b hb => by have := hM b hb; omega) c.blocks N 0 0 [] rfl rfl (by simp) (by rw [List.nil_append]; exact zsq _ 0) (by omega); rw [this, List.nil_append, z013]; unfold allT; rw [z7v]
end Clk
namespace Clk
open Go
def AllP (Q : Page -> Prop) (c : Chip) : Prop := ∀ b ∈ c.blocks, ∀ p ∈ b.pages, Q p
theorem zqn {Q : Page -> Prop} (hz : Q z5b) (all : Bool) (n : Int) : ∀ (i : Nat) (l : List Page), (∀ p ∈ l, Q p) -> ∀ p ∈ clrT all n i l, Q p
 | _, [], _, p, hp => by cases hp
 | i, q :: l, h, p, hp => by
   unfold clrT at hp; rcases List.mem_cons.1 hp with rfl | hp
   · split
     · exact hz
     · exact h _ List.mem_cons_self
   · exact zqn hz all n (i + 1) l (fun x hx => h x (List.mem_cons_of_mem _ hx)) p hp
theorem zuc {Q : Page -> Prop} (hz : Q z5b) {c : Chip} (h : AllP Q c) (b : Int) (f : Fate) : AllP Q (zct c b f).1 := by
 unfold zct; split
 · exact h
 · split
   · rename_i hc; unfold canEra at hc; simp only [Bool.and_eq_true, decide_eq_true_eq] at hc; intro x hx; rcases List.mem_or_eq_of_mem_set hx with h3 | rfl
     · exact h x h3
     · have := h _ (z0d (d := default) (show b.toNat < c.blocks.length by omega)); unfold z5z; split
       · exact this
       · exact zqn hz _ _ 0 _ this
   · exact h
theorem zjw {Q : Page -> Prop} {c : Chip} (h : AllP Q c) (b p : Int) {page : Page} {f : Fate} (hp : Q ⟨true, page.data, page.tag⟩) (hf : f.kind ≠ 0 -> Q ⟨true, f.data, f.tag⟩) : AllP Q (z1q c b p page f).1 := by
 unfold z1q; split
 · exact h
 · split
   · rename_i hc; obtain ⟨h1, h2, _⟩ := z1f.1 hc; intro x hx; rcases List.mem_or_eq_of_mem_set hx with h3 | rfl
     · exact h x h3
     · have h4 := h _ (z0d (d := default) (show b.toNat < c.blocks.length by omega)); unfold z2f; intro q hq; rcases List.mem_or_eq_of_mem_set hq with h5 | rfl
       · exact h4 q h5
       · split
         · exact hp
         · rename_i hk; exact hf hk
   · exact h
theorem zud {Q : Page -> Prop} (hz : Q z5b) (n p : Int) (bad : List Int) : AllP Q (newT n p bad).1 := by
 unfold newT; split
 · intro b hb; simp [zChip] at hb
 · rename_i h; obtain ⟨h1, h2⟩ := zsl (n := n) (m := n.toNat) bad (List.replicate n.toNat ⟨List.replicate p.toNat z5b, 0, 0, false⟩) (fun b hb => by
    obtain ⟨_, rfl⟩ := List.mem_replicate.1 hb; exact ⟨by simp; omega, fun q hq => (List.mem_replicate.1 hq).2⟩) (by simp)
   intro b hb q hq; rw [(h1 b hb).2 q hq]; exact hz
theorem znt : tagOk [] := by
 intro h; exact absurd h (by decide)
theorem z03v {tag data : Str} {r : Record} (h : decT tag data = (r, 0)) : tagOk tag := by
 intro h1 h2; unfold decT at h; split at h
 · cases h
 · rename_i hn; exact Decidable.byContradiction fun hc => hn (.inr (.inl hc))
theorem zz8 (r : Record) (data : Str) : tagOk (z8w r data).1 := by
 by_cases h : z1e r = false \/ 16 < data.length
 · have : (z8w r data).1 = [] := by unfold z8w; rw [if_pos h]
   rw [this]; exact znt
 · simp only [not_or] at h; exact z03v (zso (by simpa using h.1) (by omega))
theorem z014 (w : Write) : tagOk (makeT w).1.tag := by
 unfold makeT; split
 · exact znt
 · exact zz8 _ _
theorem zz9 {l : List Int} {m : Int} {a : Nat} {c : Chip} (h : AllP (fun p => tagOk p.tag) c) : AllP (fun p => tagOk p.tag) (stepC l m a c) := by
 unfold stepC; simp only; have h1 : AllP (fun p => tagOk p.tag) (if l.getD a 0 % 29 = 0 then (zct c (l.getD a 0 % m) z0k).1 else c) := by
  split
  · exact zuc znt h _ _
  · exact h
 have hp : tagOk (pgT (l.getD a 0 / 7 % 30) ((l.drop a).take (z0e l a - a))).tag := z014 _; have hf : (if l.getD a 0 % 11 = 0 then (⟨1, [120], (pgT (l.getD a 0 / 7 % 30) ((l.drop a).take (z0e l a - a))).tag, 0⟩ : Fate) else z0k).kind ≠ 0 -> tagOk (if l.getD a 0 % 11 = 0 then (⟨1, [120], (pgT (l.getD a 0 / 7 % 30) ((l.drop a).take (z0e l a - a))).tag, 0⟩ : Fate) else z0k).tag := by
  split
  · intro _; exact hp
  · intro hk; exact absurd rfl hk
 generalize (if l.getD a 0 % 29 = 0 then (zct c (l.getD a 0 % m) z0k).1 else c) = c1 at h1; generalize (if l.getD a 0 % 11 = 0 then (⟨1, [120], (pgT (l.getD a 0 / 7 % 30) ((l.drop a).take (z0e l a - a))).tag, 0⟩ : Fate) else z0k) = f at hf; split
 · exact h1
 · exact zjw h1 _ _ hp hf
theorem zlr {l : List Int} {m : Int} : ∀ (k a : Nat) (c : Chip), AllP (fun p => tagOk p.tag) c -> AllP (fun p => tagOk p.tag) (chipL l m k a c)
 | 0, a, c, h => h
 | k + 1, a, c, h => by
   unfold chipL; split
   · exact zlr k _ _ (zz9 h)
   · exact h
theorem zw5 (l : List Int) (b p : Int) : TagsOk (chipT l b p) := zlr 40 0 _ (zud znt b p [])
theorem znu {b p : Int} (h : 1 <= b /\ b <= 32 /\ 1 <= p /\ p <= 16) : CI (newT b p []).1 b := by
 obtain ⟨h1, h2⟩ := z03p b p []; refine ⟨h1, h2, ?_⟩; unfold newT; rw [if_neg (by omega), znq]; simp only [List.length_replicate]; omega
theorem znv {l : List Int} (hl : U16 l) (hn : l.length < 9223372036854775808) {b p : Int} (h : 1 <= b /\ b <= 32 /\ 1 <= p /\ p <= 16) : zaz (l, b, p) = some (chipT l b p) := by
 refine z10 41 fun N hN => ?_
 show z7h N l b p = _; unfold z7h chipT; rw [zsk (by simp), z7]; exact zey hl hn (by omega) (by omega) 40 N 0 0 0 _ rfl (by omega) (by omega) (by omega) (znu h) (by omega)
theorem z015 {l : List Int} (hl : U16 l) {b p : Int} (h : 1 <= b /\ b <= 32 /\ 1 <= p /\ p <= 16) : CI (chipT l b p) b := zu8 hl 40 0 _ (znu h)
theorem zw6 (M : Nat) : (List.range 65).map (fun m : Nat => z6n (M + 8) [-1] (m : Int)) = (List.range 65).map (fun m => some (List.replicate m (-1 : Int))) := by kernel_rfl
theorem z016 {n : Int} (h0 : 0 <= n) (h1 : n <= 64) : z3t ([-1], n) = some (List.replicate n.toNat (-1)) := by
 refine z10 8 fun N hN => ?_
 obtain ⟨M, rfl⟩ : ∃ M, N = M + 8 := ⟨N - 8, by omega⟩; have h := congrArg (fun l => l[n.toNat]?) (zw6 M); have hr : n.toNat < 65 := by omega
 simp only [List.getElem?_map, List.getElem?_range hr, Option.map_some, Option.some.injEq] at h; have e : ((n.toNat : Nat) : Int) = n := by omega
 rw [e] at h; exact h
theorem zh2 (n : Int) : z7r n = some (tabT n) := by
 show z7q n = _; unfold z7q; rw [z016 (by omega) (by omega), z7, z7]; unfold tabT; rw [show (min (max n 0) 64).toNat = min n.toNat 64 by omega]
theorem zjx {t : Table} (h : TabOk t) (f : Found) : TabOk (applyT t f) := by
 obtain ⟨h1, h2⟩ := zce t f; exact ⟨by rw [h1]; exact h.1, by rw [h2]; exact h.2⟩
theorem znw : ∀ (l : List Found) (t u : Table) (s : Int), (repL l t s).2 = (repL l u s).2
 | [], t, u, s => rfl
 | f :: l, t, u, s => by unfold repL; exact znw l _ _ _
theorem zue : ∀ (l : List Found) (t : Table) (s r : Int), (repL l t s).1 = (repL l t r).1
 | [], t, s, r => rfl
 | f :: l, t, s, r => by unfold repL; exact zue l _ _ _
theorem zls {xs : List Found} (hs : xs.length < 4294967296) {u : Table} : ∀ (l : List Found) (N k : Nat) (i s : Int), xs.drop k = l -> i = k -> l.length < N -> zf (z3v u) N (s, xs, (xs.length : Int), i) = some (u, (repL l u s).2)
 | l, 0, _, _, _, _, _, h => by omega
 | [], N + 1, k, i, s, h1, h2, _ => by
   have := z0c h1; rw [z6, z4w]; unfold z1w; simp only [repL]; rw [zF (by omega), zD]
 | f :: l, N + 1, k, i, s, h1, h2, h4 => by
   obtain ⟨g1, g2, g3⟩ := zu h1; subst h2; rw [z6, z4w]; unfold z1w; simp only [Int.toNat_natCast, g2, repL]; rw [zT (show (k : Int) < xs.length by omega), zT (show (0 : Int) <= k by omega)]; simp only [zC]; rw [zls hs l N (k + 1) _ _ g3 (by rw [zg (by omega) (by omega)]; omega) (by simp at h4; omega), znw l u (applyT u f)]
theorem zlt {xs : List Found} (hs : xs.length < 4294967296) (hf : z7u xs) {M : Nat} (hM : xs.length < M) : ∀ (l : List Found) (N k : Nat) (i : Int) (t : Table), xs.drop k = l -> i = k -> TabOk t -> l.length < N -> zf (z3w M xs) N (xs, (xs.length : Int), i, t) = some ((repL l t 0).1, (repL xs t 0).2)
 | l, 0, _, _, _, _, _, _, h => by omega
 | [], N + 1, k, i, t, h1, h2, h3, _ => by
   have := z0c h1; rw [z6, z4x]; unfold z1x; dsimp only; rw [zF (by omega), zD]; exact zls hs xs M 0 0 0 rfl rfl hM
 | f :: l, N + 1, k, i, t, h1, h2, h3, h4 => by
   obtain ⟨g1, g2, g3⟩ := zu h1; subst h2; have hr : RecOk f.record := by rw [<- g2 default]; exact hf _ (z0d g1)
   rw [z6, z4x]; unfold z1x; simp only [Int.toNat_natCast, g2, z8d h3 hr, z7]; rw [zT (show (k : Int) < xs.length by omega), zT (show (0 : Int) <= k by omega)]; simp only [zC]; rw [zlt hs hf hM l N (k + 1) _ _ g3 (by rw [zg (by omega) (by omega)]; omega) (zjx h3 f) (by simp at h4; omega)]; rw [show (repL (f :: l) t 0).1 = (repL l (applyT t f) 0).1 by rw [repL]; exact zue l _ _ _, znw xs (applyT t f) t]
theorem z6v {c : Chip} (hc : z12 c) (hp : PagesOk c) (ht : TagsOk c) (n : Int) : zq (c, n) = some (zo c n) := by
 have := z00z c; refine z10 4294967297 fun N hN => ?_
 show z3x N c n = _; unfold z3x; rw [zw4 hc hp ht, z7, zh2, z7, zlt (xs := allT c) (by omega) (z03o hp) (by omega) (allT c) N 0 0 _ rfl rfl (zyw n) (by omega)]; rfl
end Clk
namespace Clk
open Go
def lastK (f : Found) (s : Int) : Nat -> List Int -> Int × Int -> Int × Int
 | _, [], p => p
 | i, k :: l, p => lastK f s (i + 1) l (if k = s then (if f.record.kind = 2 then f.record.values.getD i 0 else f.place, f.place) else p)
def lastF (s : Int) (fs : List Found) (p : Int × Int) : Int × Int := fs.foldl (fun p f => lastK f s 0 f.record.keys p) p
def FitF (f : Found) : Prop := f.record.kind = 1 \/ f.record.kind = 2 /\ f.record.keys.length <= f.record.values.length
theorem zza {f : Found} (hf : f.record.kind = 1 \/ f.record.kind = 2 /\ f.record.keys.length <= f.record.values.length) : ∀ (l : List Int) (i : Nat) (t : Table) (s : Nat), t.map.length = t.by_.length -> s < t.map.length -> i + l.length <= f.record.keys.length -> (∀ k ∈ l, 0 <= k) ->
 ((appL f i l t).map.getD s 0, (appL f i l t).by_.getD s 0) = lastK f s i l (t.map.getD s 0, t.by_.getD s 0)
 | [], i, t, s, _, _, _, _ => rfl
 | k :: l, i, t, s, h1, h2, h3, h4 => by
   obtain ⟨e1, e2⟩ := zu2 f i k t; have hk0 := h4 k List.mem_cons_self; simp only [List.length_cons] at h3; unfold appL lastK; rw [zza hf l (i + 1) (app1 f i k t) s (by rw [e1, e2, h1]) (by rw [e1]; exact h2) (by omega) fun x hx => h4 x (List.mem_cons_of_mem _ hx)]; congr 1
   unfold app1; by_cases hs : k = s
   · have hkt : k.toNat = s := by omega
     rw [if_pos hs, if_pos ⟨hk0, by omega, by omega⟩, hkt]; rcases hf with hf | ⟨hf, hv⟩
     · rw [if_pos hf, if_neg (by omega)]; simp only [z07 h2, z07 (show s < t.by_.length by omega)]
     · rw [if_neg (by omega), if_pos ⟨hf, by omega⟩, if_pos hf]; simp only [z07 h2, z07 (show s < t.by_.length by omega)]
   · rw [if_neg hs]; split
     · split
       · simp only [zbv (show k.toNat ≠ s by omega)]
       · split
         · simp only [zbv (show k.toNat ≠ s by omega)]
         · rfl
     · rfl
theorem zuf {s : Nat} : ∀ (fs : List Found) (t : Table), (∀ f ∈ fs, FitF f /\ ∀ k ∈ f.record.keys, 0 <= k) -> t.map.length = t.by_.length -> s < t.map.length ->
 ((fs.foldl applyT t).map.getD s 0, (fs.foldl applyT t).by_.getD s 0) = lastF s fs (t.map.getD s 0, t.by_.getD s 0)
 | [], t, _, _, _ => rfl
 | f :: fs, t, h, h1, h2 => by
   obtain ⟨e1, e2⟩ := zce t f; obtain ⟨g1, g2⟩ := h f List.mem_cons_self; have := zuf fs (applyT t f) (fun x hx => h x (List.mem_cons_of_mem _ hx)) (by rw [e1, e2, h1]) (by rw [e1]; exact h2); simp only [List.foldl_cons, lastF] at this ⊢; rw [this]; congr 1
   exact zza g1 f.record.keys 0 t s h1 h2 (by omega) g2
theorem z017 {b p : Nat} {pg : Page} {f : Found} (h : f ∈ vv b p pg) : z1e f.record = true := by
 unfold vv at h; split at h
 · rename_i hc; simp at h; subst h; exact zw0 hc.1
 · cases h
theorem zug (b : Nat) : ∀ (l : List Page) (p : Nat) (f : Found), f ∈ vp b p l -> z1e f.record = true
 | [], p, f, h => by simp [vp] at h
 | pg :: l, p, f, h => by
   unfold vp at h; rcases List.mem_append.1 h with h | h
   · exact z017 h
   · exact zug b l (p + 1) f h
theorem zuh : ∀ (l : List Block) (b : Nat) (f : Found), f ∈ vb b l -> z1e f.record = true
 | [], b, f, h => by simp [vb] at h
 | x :: l, b, f, h => by
   unfold vb at h; rcases List.mem_append.1 h with h | h
   · exact zug b _ 0 f h
   · exact zuh l (b + 1) f h
theorem zui (c : Chip) (f : Found) : f ∈ allT c ↔ f ∈ vb 0 c.blocks := by
 unfold allT; rw [z7v, znr]; simp
theorem z018 (n : Int) : (tabT n).map.length = min n.toNat 64 /\ (tabT n).by_.length = min n.toNat 64 := by unfold tabT; simp
theorem zcf (c : Chip) (n : Int) : (zo c n).1.map.length = min n.toNat 64 /\ (zo c n).1.by_.length = min n.toNat 64 := by
 obtain ⟨h1, h2⟩ := zu4 (allT c) (tabT n) 0; obtain ⟨e1, e2⟩ := z018 n; exact ⟨h1.trans e1, h2.trans e2⟩
end Clk
namespace Clk
open Go
theorem zlu (n : Int) : ∀ (i : Nat) (l : List Page), ∀ p ∈ clrT true n i l, p = z5b
 | _, [], p, h => by cases h
 | i, q :: l, p, h => by
   unfold clrT at h; rcases List.mem_cons.1 h with rfl | h
   · rw [if_pos (.inl rfl)]
   · exact zlu n (i + 1) l p h
end Clk
namespace Clk
open Go
def FrB (b : Block) : Prop := 0 <= b.next /\ ∀ i : Nat, b.next <= i -> i < b.pages.length -> (b.pages.getD i default).written = false
def FrC (c : Chip) : Prop := ∀ b ∈ c.blocks, FrB b
theorem z019 {bl : Block} (h : FrB bl) (hl : bl.pages.length < 4294967296) {p : Int} (h0 : 0 <= p) (h1 : p < bl.pages.length) (hn : bl.next = p) (page : Page) (f : Fate) : FrB (z2f bl p page f) := by
 obtain ⟨h3, h4⟩ := h; have e : w64 (bl.next + 1) = bl.next + 1 := zg (by omega) (by omega); refine ⟨by simp only [z2f, e]; omega, fun i hi hl => ?_⟩; simp only [z2f, e] at hi; simp only [z2f, List.length_set] at hl ⊢; rw [zbv (by omega)]; exact h4 i (by omega) hl
theorem z03w {bl : Block} (h : FrB bl) : FrB (z5z bl z0k) := by
 unfold z5z; rw [if_neg (by decide)]; refine ⟨by simp only; rw [if_neg (by decide)]; omega, fun i _ hl => ?_⟩; have : (clrT (decide (z0k.kind = 0)) z0k.n 0 bl.pages).getD i default ∈ clrT true z0k.n 0 bl.pages := z0d hl; show ((clrT (decide (z0k.kind = 0)) z0k.n 0 bl.pages).getD i default).written = false; rw [zlu _ _ _ _ this]; rfl
theorem z01a {c : Chip} (hk : z12 c) (h : FrC c) (b p : Int) (page : Page) (f : Fate) : FrC (z1q c b p page f).1 := by
 unfold z1q; split
 · exact h
 · split
   · rename_i hc; obtain ⟨h1, h2, h3, h4, h5, h6, _⟩ := z1f.1 hc; intro x hx; rcases List.mem_or_eq_of_mem_set hx with h7 | rfl
     · exact h x h7
     · have hm : c.blocks.getD b.toNat default ∈ c.blocks := z0d (by omega); exact z019 (h _ hm) (hk.2 _ hm) h3 h4 h6 _ _
   · exact h
theorem z03x {c : Chip} (h : FrC c) (b : Int) : FrC (zct c b z0k).1 := by
 unfold zct; split
 · exact h
 · split
   · rename_i hc; unfold canEra at hc; simp only [Bool.and_eq_true, decide_eq_true_eq] at hc; intro x hx; rcases List.mem_or_eq_of_mem_set hx with h7 | rfl
     · exact h x h7
     · exact z03w (h _ (z0d (by omega)))
   · exact h
theorem z01b {l : List Int} {m : Int} {a : Nat} {c : Chip} (hk : z12 c) (h : FrC c) : FrC (stepC l m a c) := by
 have h1 : FrC (if l.getD a 0 % 29 = 0 then (zct c (l.getD a 0 % m) z0k).1 else c) /\ z12 (if l.getD a 0 % 29 = 0 then (zct c (l.getD a 0 % m) z0k).1 else c) := by
  split
  · exact ⟨z03x h _, (zjr hk _ _).1⟩
  · exact ⟨h, hk⟩
 unfold stepC; simp only; generalize (if l.getD a 0 % 29 = 0 then (zct c (l.getD a 0 % m) z0k).1 else c) = c1 at h1; generalize (if l.getD a 0 % 11 = 0 then (⟨1, [120], (pgT (l.getD a 0 / 7 % 30) ((l.drop a).take (z0e l a - a))).tag, 0⟩ : Fate) else z0k) = f; split
 · exact h1.1
 · exact z01a h1.2 h1.1 _ _ _ _
theorem zuj {l : List Int} (hl : U16 l) {m : Int} : ∀ (k a : Nat) (c : Chip), CI c m -> FrC c -> FrC (chipL l m k a c)
 | 0, a, c, _, h => h
 | k + 1, a, c, hc, h => by
   unfold chipL; split
   · exact zuj hl k _ _ (znp hl hc) (z01b hc.ok h)
   · exact h
theorem z03y (b p : Int) : FrC (newT b p []).1 := by
 unfold newT; split
 · intro x hx; simp [zChip] at hx
 · rw [znq]; intro x hx; obtain ⟨_, rfl⟩ := List.mem_replicate.1 hx; refine ⟨by simp only; omega, fun i _ hl => ?_⟩; have : (List.replicate p.toNat z5b).getD i default ∈ List.replicate p.toNat z5b := z0d hl; show ((List.replicate p.toNat z5b).getD i default).written = false; rw [(List.mem_replicate.1 this).2]; rfl
theorem z01c {l : List Int} (hl : U16 l) {b p : Int} (h : 1 <= b /\ b <= 32 /\ 1 <= p /\ p <= 16) : FrC (chipT l b p) := zuj hl 40 0 _ (znu h) (z03y b p)
end Clk
namespace Clk
open Go
end Clk
namespace Clk
open Go
theorem z03z {k : IntKind} {w : World} {a : Option Addr} {len cap : Nat} {zs : List Int} (h : IsRow k w a len cap zs) : ∀ n ∈ zs.take len, (Lit.int k n).wf = true := by
 intro n hn; rcases h with ⟨_, _, _, rfl⟩ | ⟨_, _, _, _, _, _, h⟩
 · simp at hn
 · exact h n (List.mem_of_mem_take hn)
theorem z040 {k : IntKind} {w : World} {a : Option Addr} {len cap : Nat} {zs : List Int} (h : IsRow k w a len cap zs) : (zs.take len).length < 9223372036854775808 := by
 rcases h with ⟨_, _, _, rfl⟩ | ⟨_, _, h1, h2, h3, _, _⟩
 · simp
 · have : maxLen = 9223372036854775807 := rfl; simp only [List.length_take]; omega
theorem z05n {n : Int} (h : (Lit.int .u8 n).wf = true) : 0 <= n /\ n < 256 := by
 simp [Lit.wf, IntKind.min, IntKind.max, IntKind.signed, IntKind.bits] at h; omega
theorem z04u {n : Int} (h : (Lit.int .u16 n).wf = true) : 0 <= n /\ n < 65536 := by
 simp [Lit.wf, IntKind.min, IntKind.max, IntKind.signed, IntKind.bits] at h; omega
theorem litU8 {n : Int} (h : (Lit.int .u8 n).wf = true) : 0 <= n /\ n < 256 := z05n h
theorem rowU16 {w : World} {a : Option Addr} {len cap : Nat} {zs : List Int} (h : IsRow .u16 w a len cap zs) : U16 (zs.take len) := fun n hn => z04u (z03z h n hn)
theorem rowLen {k : IntKind} {w : World} {a : Option Addr} {len cap : Nat} {zs : List Int} (h : IsRow k w a len cap zs) : (zs.take len).length < 9223372036854775808 := z040 h
end Clk
namespace Clk
open Go
section
variable {H : Type} {enc : TypeId × Value -> H} {P : Program} {w : World} {base : Nat} {spare : Nat -> Bool} {held : Bool}
open Go.ChangeShapes Go.WideShapes
end
end Clk
namespace Clk
open Go
inductive Sh where
 | int (k : IntKind) | bool | str | sl (l : List Sh)
inductive ShA : Sh -> AV -> Prop
 | int {k : IntKind} {n : Int} (h : (Lit.int k n).wf = true) : ShA (.int k) (.int k n)
 | bool (b : Bool) : ShA .bool (.bool b)
 | str {s : ByteArray} (h : s.size <= maxLen) : ShA .str (.str s)
 | sl {sh : List Sh} {l : List (List AV)} (h : l.length <= maxLen) (hl : ∀ row ∈ l, row.length = sh.length) (hr : ∀ row ∈ l, ∀ (j : Nat) s a, sh[j]? = some s -> row[j]? = some a -> ShA s a) : ShA (.sl sh) (.rows l)
section
variable {H : Type} {enc : TypeId × Value -> H} {P : Program} {w : World} {base : Nat} {spare : Nat -> Bool} {held : Bool} {N : Nat -> Prop}
end
end Clk
namespace Clk
open Go
section
variable {H : Type} {enc : TypeId × Value -> H} {P : Program} {w : World} {base : Nat} {spare : Nat -> Bool} {held : Bool}
end
end Clk
namespace Clk
open Go
theorem zzb {l : List Int} (hl : U16 l) : ∀ (n a : Nat) (key : Int), (mkL l 2 n a key).1.length = (mkL l 2 n a key).2.length /\ (mkL l 2 n a key).2.all vr = true
 | 0, a, key => ⟨rfl, rfl⟩
 | n + 1, a, key => by
   unfold mkL; split
   · rw [if_pos rfl]; obtain ⟨h1, h2⟩ := zzb hl n (a + 2) (key + 1 + pk l a 10); have := z2g hl (a + 1) (n := 513) (by omega); refine ⟨by simp only [List.length_cons, h1], ?_⟩; rw [List.all_cons, h2, Bool.and_true]; unfold vr; rw [zT (by omega), zT (by omega)]; rfl
   · exact ⟨rfl, rfl⟩
theorem zzc {l : List Int} : ∀ (n a : Nat) (key : Int), (mkL l 1 n a key).2 = []
 | 0, a, key => rfl
 | n + 1, a, key => by
   unfold mkL; split
   · rw [if_neg (by decide)]; exact zzc n _ _
   · rfl
def recT (s : Int) (m : List Int) : Record := ⟨(madeT m).kind, s, (madeT m).keys, (madeT m).values⟩
theorem zlv {m : List Int} (hm : U16 m) {s : Int} (hs : 0 <= s /\ s < 65536) : z1e (recT s m) = true := by
 have hk := zvz hm; have hp := z2g hm 0 (n := 2) (by omega); unfold z1e recT; simp only; rw [zT (show 0 <= s by omega), zT (show s <= 1099511627776 by omega), hk]; simp only [Bool.true_and]; have hc : pk m 0 2 = 0 \/ pk m 0 2 = 1 := by omega
 rcases hc with hc | hc
 · have e : (madeT m).values = [] := by unfold madeT; simp only [hc]; exact zzc _ _ _
   rw [if_pos (by unfold madeT; simp only [hc]; rfl), e]; rfl
 · have e := zzb hm (pk m 4 8 + 1).toNat 5 (pk m 3 20); rw [if_neg (by unfold madeT; simp only [hc]; decide)]; unfold madeT; simp only [hc, show (1 : Int) + 1 = 2 from rfl]; rw [e.2, zT e.1.symm]; simp
theorem z04v {m : List Int} (hm : U16 m) {s : Int} (hs : 0 <= s /\ s < 65536) : pgT s m = ⟨true, [100], (z8w (recT s m) [100]).1⟩ := by
 have h := zz0 (data := [100]) (zlv hm hs) (by simp); unfold pgT makeT; rw [if_neg (by simpa [recT] using h)]; rfl
def PL (n : Nat) (c : Chip) : Prop := ∀ b ∈ c.blocks, b.pages.length = n
theorem z041 {n : Nat} {c : Chip} (h : PL n c) (b : Int) (f : Fate) : PL n (zct c b f).1 := by
 unfold zct; split
 · exact h
 · split
   · rename_i hc; unfold canEra at hc; simp only [Bool.and_eq_true, decide_eq_true_eq] at hc; intro x hx; rcases List.mem_or_eq_of_mem_set hx with h3 | rfl
     · exact h x h3
     · have := h _ (z0d (d := default) (show b.toNat < c.blocks.length by omega)); unfold z5z; split
       · exact this
       · simp only [znm]; exact this
   · exact h
theorem z01d {n : Nat} {c : Chip} (h : PL n c) (b p : Int) (page : Page) (f : Fate) : PL n (z1q c b p page f).1 := by
 unfold z1q; split
 · exact h
 · split
   · rename_i hc; obtain ⟨h1, h2, _⟩ := z1f.1 hc; intro x hx; rcases List.mem_or_eq_of_mem_set hx with h3 | rfl
     · exact h x h3
     · have := h _ (z0d (d := default) (show b.toNat < c.blocks.length by omega)); unfold z2f; simp only [List.length_set]; exact this
   · exact h
theorem zuk {n : Nat} {l : List Int} {m : Int} : ∀ (k a : Nat) (c : Chip), PL n c -> PL n (chipL l m k a c)
 | 0, a, c, h => h
 | k + 1, a, c, h => by
   unfold chipL; split
   · refine zuk k _ _ ?_; unfold stepC; simp only; have h1 : PL n (if l.getD a 0 % 29 = 0 then (zct c (l.getD a 0 % m) z0k).1 else c) := by
      split
      · exact z041 h _ _
      · exact h
     generalize (if l.getD a 0 % 29 = 0 then (zct c (l.getD a 0 % m) z0k).1 else c) = c1 at h1; generalize (if l.getD a 0 % 11 = 0 then (⟨1, [120], (pgT (l.getD a 0 / 7 % 30) ((l.drop a).take (z0e l a - a))).tag, 0⟩ : Fate) else z0k) = f; split
     · exact h1
     · exact z01d h1 _ _ _ _
   · exact h
theorem z01e (l : List Int) {b p : Int} (h : 1 <= b /\ b <= 32 /\ 1 <= p /\ p <= 16) : PL p.toNat (chipT l b p) := zuk 40 0 _ (by
 unfold newT; rw [if_neg (by omega), znq]; intro x hx; obtain ⟨_, rfl⟩ := List.mem_replicate.1 hx; simp)
theorem zsr {c : Chip} (hf : FrC c) {b p : Int} {page : Page} (h : (z1q c b p page z0k).2 = 0) :
 ∃ A B, vb 0 c.blocks = A ++ B /\ vb 0 (z1q c b p page z0k).1.blocks = A ++ vv b.toNat p.toNat ⟨true, page.data, page.tag⟩ ++ B /\ (∀ q, (A ++ vv b.toNat p.toNat q ++ B).Pairwise (fun x y => x.place < y.place)) := by
 obtain ⟨hc, he⟩ := zju (.inl h); obtain ⟨h1, h2, h3, h4, h5, h6, _⟩ := z1f.1 hc; obtain ⟨A, B, g1, g2⟩ := z03q (c := c) (b := b.toNat) (p := p.toNat) (by omega) (by omega); have hw : ((c.blocks.getD b.toNat default).pages.getD p.toNat default).written = false := (hf _ (z0d (by omega))).2 _ (by omega) (by omega); refine ⟨A, B, ?_, ?_, fun q => ?_⟩
 · rw [g1, z03r (by rw [zw1 hw]; decide)]; simp
 · rw [he]; show vb 0 (c.blocks.set b.toNat (z2f (c.blocks.getD b.toNat default) p page z0k)) = _; unfold z2f; rw [g2, if_pos (show z0k.kind = 0 from rfl)]
 · rw [<- g2 q 0 0 false]; exact zsq _ 0
end Clk
namespace Clk
open Go
theorem z042 {tag d1 d2 : Str} {r1 r2 : Record} (h1 : decT tag d1 = (r1, 0)) (h2 : decT tag d2 = (r2, 0)) : r1 = r2 := by
 unfold decT at h1 h2; split at h1
 · cases h1
 · split at h1
   · cases h1
   · split at h2
     · cases h2
     · split at h2
       · cases h2
       · cases h1; cases h2; rfl
def SeqP (p : Page) : Prop := ∀ r, z6u p = (1, r) -> r.seq < 65536
theorem z01f {p : Page} {r : Record} (h : z6u p = (1, r)) : decT p.tag p.data = (r, 0) := by
 unfold z6u at h; split at h
 · cases h
 · split at h
   · cases h
   · rename_i h2; cases h; generalize hx : decT p.tag p.data = x at h2; obtain ⟨a, b⟩ := x; simp only [ne_eq, Decidable.not_not] at h2; rw [h2]
theorem z04w {m : List Int} (hm : U16 m) {s : Int} (hs : 0 <= s /\ s < 65536) (data : Str) : SeqP ⟨true, data, (pgT s m).tag⟩ := by
 intro r h; have h1 := z01f h; have h2 := zso (data := [100]) (zlv hm hs) (by simp); rw [z04v hm hs] at h1; have := z042 h1 h2; rw [this]; exact hs.2
theorem zqo : SeqP z5b := fun r h => by
 have : z6u z5b = (0, zRec) := rfl; rw [this] at h; cases h
theorem z01g {l : List Int} (hl : U16 l) {m : Int} {a : Nat} {c : Chip} (h : AllP SeqP c) : AllP SeqP (stepC l m a c) := by
 unfold stepC; simp only; have h1 : AllP SeqP (if l.getD a 0 % 29 = 0 then (zct c (l.getD a 0 % m) z0k).1 else c) := by
  split
  · exact zuc zqo h _ _
  · exact h
 have hs : 0 <= l.getD a 0 / 7 % 30 /\ l.getD a 0 / 7 % 30 < 65536 := by omega
 have hp : ∀ data, SeqP ⟨true, data, (pgT (l.getD a 0 / 7 % 30) ((l.drop a).take (z0e l a - a))).tag⟩ := z04w (hl.part _ _) hs; have hf : (if l.getD a 0 % 11 = 0 then (⟨1, [120], (pgT (l.getD a 0 / 7 % 30) ((l.drop a).take (z0e l a - a))).tag, 0⟩ : Fate) else z0k).kind ≠ 0 -> SeqP ⟨true, (if l.getD a 0 % 11 = 0 then (⟨1, [120], (pgT (l.getD a 0 / 7 % 30) ((l.drop a).take (z0e l a - a))).tag, 0⟩ : Fate) else z0k).data, (if l.getD a 0 % 11 = 0 then (⟨1, [120], (pgT (l.getD a 0 / 7 % 30) ((l.drop a).take (z0e l a - a))).tag, 0⟩ : Fate) else z0k).tag⟩ := by
  split
  · intro _; exact hp _
  · intro hk; exact absurd rfl hk
 generalize (if l.getD a 0 % 29 = 0 then (zct c (l.getD a 0 % m) z0k).1 else c) = c1 at h1; generalize (if l.getD a 0 % 11 = 0 then (⟨1, [120], (pgT (l.getD a 0 / 7 % 30) ((l.drop a).take (z0e l a - a))).tag, 0⟩ : Fate) else z0k) = f at hf; split
 · exact h1
 · exact zjw h1 _ _ (hp _) hf
theorem zqp {l : List Int} (hl : U16 l) {m : Int} : ∀ (k a : Nat) (c : Chip), AllP SeqP c -> AllP SeqP (chipL l m k a c)
 | 0, a, c, h => h
 | k + 1, a, c, h => by
   unfold chipL; split
   · exact zqp hl k _ _ (z01g hl h)
   · exact h
theorem zzd {l : List Int} (hl : U16 l) (b p : Int) : AllP SeqP (chipT l b p) := zqp hl 40 0 _ (zud zqo b p [])
theorem zze (b : Nat) : ∀ (l : List Page) (p : Nat), (∀ x ∈ l, SeqP x) -> ∀ f ∈ vp b p l, f.record.seq < 65536
 | [], p, _, f, hf => by cases hf
 | q :: l, p, h, f, hf => by
   unfold vp at hf; rcases List.mem_append.1 hf with hf | hf
   · unfold vv at hf; split at hf
     · rename_i hc; rw [List.mem_singleton.1 hf]; refine h q List.mem_cons_self _ ?_; generalize hx : z6u q = x at hc; obtain ⟨u, v⟩ := x; simp only at hc; rw [hc.1]
     · cases hf
   · exact zze b l _ (fun x hx => h x (List.mem_cons_of_mem _ hx)) f hf
theorem zzf : ∀ (l : List Block) (b : Nat), (∀ x ∈ l, ∀ p ∈ x.pages, SeqP p) -> ∀ f ∈ vb b l, f.record.seq < 65536
 | [], b, _, f, hf => by cases hf
 | x :: l, b, h, f, hf => by
   unfold vb at hf; rcases List.mem_append.1 hf with hf | hf
   · exact zze b _ _ (h x List.mem_cons_self) f hf
   · exact zzf l _ (fun y hy => h y (List.mem_cons_of_mem _ hy)) f hf
theorem zzg {M : Int} : ∀ (l : List Found) (t : Table) (s : Int), (∀ f ∈ l, w64 (f.record.seq + 1) <= M) -> s <= M -> (repL l t s).2 <= M
 | [], t, s, _, h => h
 | f :: l, t, s, h, hs => by
   simp only [repL]; have := h f List.mem_cons_self; exact zzg l _ _ (fun x hx => h x (List.mem_cons_of_mem _ hx)) (by omega)
theorem zss (c : Chip) (n : Int) : 0 <= (zo c n).2 /\ (∀ y ∈ vb 0 c.blocks, y.record.seq < (zo c n).2) /\ (AllP SeqP c -> (zo c n).2 <= 65536) := by
 obtain ⟨h1, h2⟩ := zz1 (allT c) (tabT n) 0; have hb : ∀ y ∈ vb 0 c.blocks, 0 <= y.record.seq /\ y.record.seq <= 1099511627776 := fun y hy => by
  obtain ⟨_, _, _, k1, k2, _⟩ := z8x (zuh _ _ y hy); exact ⟨k1, k2⟩
 refine ⟨h1, fun y hy => ?_, fun hq => ?_⟩
 · have := h2 y ((zui c y).2 hy); have hb := hb y hy; rw [zg (by omega) (by omega)] at this; unfold zo; omega
 · unfold zo; refine zzg _ _ _ (fun f hf => ?_) (by omega); have hm := (zui c f).1 hf; have hb := hb f hm; have := zzf c.blocks 0 hq f hm; rw [zg (by omega) (by omega)]; omega
theorem zzh {c : Chip} (hf : FrC c) (hl : c.blocks.length <= 32) (hp5 : PL 5 c) {b p : Int} {r : Record} (hr : z1e r = true) {n : Int} (hs : r.seq = (zo c n).2) (h : (z1q c b p ⟨true, [], (z8w r []).1⟩ z0k).2 = 0) :
 allT (z1q c b p ⟨true, [], (z8w r []).1⟩ z0k).1 = allT c ++ [⟨z2n b p, r⟩] := by
 obtain ⟨A, B, e1, e2, _⟩ := zsr hf h; obtain ⟨hc, _⟩ := zju (.inl h); obtain ⟨c1, c2, c3, c4, c5, c6, _⟩ := z1f.1 hc; have hlk : z6u ⟨true, [], (z8w r []).1⟩ = (1, r) := by
  have h1 := zso (data := []) hr (by simp); unfold z6u; rw [if_neg (by simp), h1, if_neg (by simp)]
 have hpl : z2n b.toNat p.toNat = z2n b p := by
  have eb : ((b.toNat : Nat) : Int) = b := by omega
  have ep : ((p.toNat : Nat) : Int) = p := by omega
  rw [eb, ep]
 have h5 : (c.blocks.getD b.toNat default).pages.length = 5 := hp5 _ (z0d (by omega)); have hp0 : 0 <= z2n b p := by unfold z2n; rw [if_neg (by omega)]; omega
 have hv : vv b.toNat p.toNat ⟨true, [], (z8w r []).1⟩ = [⟨z2n b p, r⟩] := by
  unfold vv; rw [hlk, hpl, if_pos ⟨rfl, hp0⟩]
 rw [show (⟨true, (Page.mk true [] (z8w r []).1).data, (Page.mk true [] (z8w r []).1).tag⟩ : Page) = ⟨true, [], (z8w r []).1⟩ from rfl, hv] at e2; obtain ⟨_, hq, _⟩ := zss c n; rw [zz2, zz2, e2, e1]; exact z012 fun y hy => by rw [hs]; exact hq y (by rw [e1]; exact List.mem_append.2 hy)
theorem z01h {c : Chip} (hf : FrC c) (hl : c.blocks.length <= 32) (hp5 : PL 5 c) (hq : AllP SeqP c) {b p : Int} {r : Record} (hr : z1e r = true) {n : Int} (hs : r.seq = (zo c n).2) (h : (z1q c b p ⟨true, [], (z8w r []).1⟩ z0k).2 = 0) :
 zo (z1q c b p ⟨true, [], (z8w r []).1⟩ z0k).1 n = (applyT (zo c n).1 ⟨z2n b p, r⟩, (zo c n).2 + 1) := by
 obtain ⟨h1, h2, h3⟩ := zss c n; have h3 := h3 hq; have ha := zzh hf hl hp5 hr hs h; unfold zo at hs h1 h3 ⊢; rw [ha, zua]; show (_, max _ (w64 (r.seq + 1))) = _; rw [hs, zg (n := _ + 1) (by omega) (by omega)]; congr 1
 omega
theorem zlw {f : Found} {s m b : Int} (h2 : f.record.kind = 2) : ∀ (l : List Int) (i : Nat) (p : Int × Int), p.1 = m -> (∀ j : Nat, j < l.length -> l.getD j 0 = s -> f.record.values.getD (i + j) 0 = m) -> (lastK f s i l p).1 = m
 | [], _, p, hp, _ => hp
 | k :: l, i, p, hp, h => by
   unfold lastK; refine zlw (b := b) h2 l (i + 1) _ ?_ (fun j hj e => ?_)
   · rw [if_pos h2]; split
     · rename_i hk; exact h 0 (by simp) hk
     · exact hp
   · have := h (j + 1) (by simpa using hj) (by simpa using e); rwa [show i + 1 + j = i + (j + 1) by omega]
theorem zw7 {t : Table} {f : Found} (hf : FitF f) (h2 : f.record.kind = 2) (h0 : ∀ k ∈ f.record.keys, 0 <= k) (ht : t.map.length = t.by_.length) (hv : ∀ j : Nat, j < f.record.keys.length -> f.record.values.getD j 0 = t.map.getD (f.record.keys.getD j 0).toNat 0) {s : Nat} (hs : s < t.map.length) :
 (applyT t f).map.getD s 0 = t.map.getD s 0 := by
 have := zuf (s := s) [f] t (fun x hx => by rw [List.mem_singleton.1 hx]; exact ⟨hf, h0⟩) ht hs; simp only [List.foldl_cons, List.foldl_nil] at this; have h1 := congrArg Prod.fst this; simp only at h1; rw [h1]; show (lastK f s 0 f.record.keys _).1 = _; refine zlw (b := 0) h2 _ _ _ rfl (fun j hj e => ?_); rw [Nat.zero_add, hv j hj, e]; simp
end Clk
namespace Clk
open Go
def chE : Chip := ⟨[], false, false, 0⟩
theorem z04x : z12 chE /\ PagesOk chE /\ TagsOk chE := ⟨⟨by simp [chE], fun b hb => by simp [chE] at hb⟩, fun b hb => by simp [chE] at hb, fun b hb => by simp [chE] at hb⟩
def awake7T : Bool :=
 let t := applyT (tabT 4) ⟨5, ⟨1, 0, [3], []⟩⟩
 let u := applyT t ⟨6, ⟨2, 0, [3], [-1]⟩⟩
 tSameT t ⟨[-1, -1, -1, 5], [-1, -1, -1, 5]⟩ && tSameT u ⟨[-1, -1, -1, -1], [-1, -1, -1, 6]⟩
theorem zzi : awake7T = true := by kernel_rfl
theorem znx : z9s () = some true := by
 have h := zzi; unfold awake7T at h; rw [Bool.and_eq_true] at h; have t0 := zyw 4; have t1 := zjx t0 ⟨5, ⟨1, 0, [3], []⟩⟩; have t2 := zjx t1 ⟨6, ⟨2, 0, [3], [-1]⟩⟩; obtain ⟨z1, z2, z3⟩ := z04x; show z5x = _; unfold z5x; rw [zh2, z7, z8d t0 ⟨by simp, by simp⟩, z7, z8d t1 ⟨by simp, by simp⟩, z7, show (Chip.mk [] false false 0) = chE from rfl, z6v z1 z2 z3, z7, zgy t1, z7, h.1, zC, zgy t2, z7, h.2, zC]; rw [zT (show (zo chE 4).2 = 0 from rfl)]
theorem zul {a : Int} (ha : inr a = true) : ∀ (l : List Int) (p : Option Int), chkL p l = true -> (∀ x ∈ l, x < a) -> (∀ q, p = some q -> q < a) -> chkL p (l ++ [a]) = true
 | [], p, _, _, hp => by
   simp only [List.nil_append, chkL, ha, Bool.true_and, Bool.and_true]; cases p with
   | none => rfl
   | some q => exact zT (hp q rfl)
 | x :: l, p, h, hx, _ => by
   simp only [List.cons_append, chkL, Bool.and_eq_true] at h ⊢; exact ⟨h.1, zul ha l (some x) h.2 (fun y hy => hx y (List.mem_cons_of_mem _ hy)) (fun q e => by cases e; exact hx x List.mem_cons_self)⟩
structure KV (T : List Int) (k : Nat) (ks vs : List Int) : Prop where
 len : ks.length = vs.length
 le : ks.length <= 8
 chk : chkL none ks = true
 lt : ∀ x ∈ ks, 0 <= x /\ x < k
 vr_ : vs.all vr = true
 get : ∀ j : Nat, j < ks.length -> vs.getD j 0 = T.getD (ks.getD j 0).toNat 0
theorem KV.mono {T : List Int} {k : Nat} {ks vs : List Int} (h : KV T k ks vs) : KV T (k + 1) ks vs :=
 ⟨h.len, h.le, h.chk, fun x hx => by have := h.lt x hx; omega, h.vr_, h.get⟩
theorem KV.add {T : List Int} {k : Nat} {ks vs : List Int} (h : KV T k ks vs) (h8 : ks.length < 8) (hk : k < 64) (h1 : -1 <= T.getD k 0) (h2 : T.getD k 0 < 512) : KV T (k + 1) (ks ++ [(k : Int)]) (vs ++ [T.getD k 0]) := by
 refine ⟨by simp [h.len], by simp; omega, zul ?_ ks none h.chk (fun x hx => (h.lt x hx).2) (fun q e => by cases e), fun x hx => ?_, ?_, fun j hj => ?_⟩
 · unfold inr; rw [zT (show (0 : Int) <= k by omega), zT (show (k : Int) < 64 by omega)]; rfl
 · rcases List.mem_append.1 hx with hx | hx
   · have := h.lt x hx; omega
   · rw [List.mem_singleton.1 hx]; omega
 · rw [List.all_append, h.vr_]; simp only [List.all_cons, List.all_nil, Bool.and_true, Bool.true_and]; unfold vr; rw [zT h1, zT h2]; rfl
 · simp only [List.length_append, List.length_cons, List.length_nil] at hj; simp only [zI]; by_cases e : j < ks.length
   · have := h.get j e; simp only [zI] at this; rw [List.getElem?_append_left e, List.getElem?_append_left (by rw [<- h.len]; exact e)]; exact this
   · have e2 : j = ks.length := by omega
     subst e2; rw [List.getElem?_append_right (Nat.le_refl _), List.getElem?_append_right (by rw [h.len]; exact Nat.le_refl _), h.len]; simp
theorem zqq {sec seq next : Int} {T U : Table} {n : Nat} (hn : n <= 64) (hs : sec = n) (hT : T.map.length = n) (hU : U.map.length = n) (hq : next = w64 (seq + 1)) (hg : ∀ k : Nat, k < n -> U.map.getD k 0 = T.map.getD k 0) : ∀ (m N k : Nat) (i : Int), k + m = n -> i = k -> m < N ->
 zf zi N (true, sec, seq, next, i, T, U) = some true
 | m, 0, _, _, _, _, h => by omega
 | 0, N + 1, k, i, g1, g2, _ => by
   rw [z6, z2l]; unfold z0m; dsimp only; rw [zF (by omega), zD, zC, zT hq]
 | m + 1, N + 1, k, i, g1, g2, g3 => by
   subst g2; rw [z6, z2l]; unfold z0m; dsimp only; rw [zT (show (k : Int) < sec by omega), zC, zT (show ((U.map.length : Nat) : Int) = sec by omega), Bool.not_true, zD, zT (show (0 : Int) <= k by omega), zC, zT (show (k : Int) < ((U.map.length : Nat) : Int) by omega), zC, zC,
    zT (show (k : Int) < ((T.map.length : Nat) : Int) by omega), zC, Int.toNat_natCast, zT (hg k (by omega)), Bool.not_true, zD]
   exact zqq hn hs hT hU hq hg m N (k + 1) _ (by omega) (by rw [zg (by omega) (by omega)]; omega) (by omega)
theorem z01i (r : Record) (hr : RecOk r) : PageOk ⟨true, [], (z8w r []).1⟩ := by
 by_cases h : (z8w r []).2 = 0
 · have := zu7 (w := ⟨[], r⟩) ⟨hr, by simp⟩; unfold makeT at this; rwa [if_neg (by simpa using h)] at this
 · refine ⟨?_, by simp⟩; unfold z8w at h ⊢; split
   · simp
   · rename_i h2; rw [if_neg h2] at h; exact absurd rfl h
section
variable {l : List Int} (hl : U16 l) {c : Chip} (hk : z12 c) (hp : PagesOk c) (ht : TagsOk c) (hf : FrC c) (h5 : PL 5 c) (hq : AllP SeqP c) (h4 : c.blocks.length = 4)
variable {sec : Int} (hs1 : 1 <= sec) (hs2 : sec <= 64)
theorem z3e {b : Int} {ks vs : List Int} {N : Nat} {next : Option Bool} (hk : z12 c) (hp : PagesOk c) (ht : TagsOk c) (hf : FrC c) (h5 : PL 5 c) (hq : AllP SeqP c) (h4 : c.blocks.length = 4) (hs1 : 1 <= sec) (hs2 : sec <= 64)
 (hkv : KV (zo c sec).1.map 64 ks vs) (h0 : ks.length ≠ 0) (hN : 66 <= N) (hb : b < 4) (hn : next = some true) :
 cond (decide (b < (c.blocks.length : Int))) (Option.bind (z1d ((Record.mk 2 (zo c sec).2 ks vs), [])) fun r10 =>
  Option.bind (zk (c, b, (c.blocks.getD b.toNat default).next, r10, (Fate.mk 0 [] [] 0))) fun r11 =>
  cond (!(decide (r11.2 = 0))) next
   (Option.bind (zq (r11.1, sec)) fun r21 =>
   zf zi N (true, sec, (zo c sec).2, r21.2, 0, (zo c sec).1, r21.1))) none = some true := by
 obtain ⟨q1, q2, q3⟩ := zss c sec; have q3 := q3 hq; have hr : z1e (Record.mk 2 (zo c sec).2 ks vs) = true := by
  unfold z1e; simp only; rw [zT q1, zT (show (zo c sec).2 <= 1099511627776 by omega), if_neg (by decide), hkv.vr_, zT hkv.len.symm]; unfold keysT; rw [hkv.chk, zT (show 0 < ks.length by omega), zT hkv.le]; rfl
 have hro : RecOk (Record.mk 2 (zo c sec).2 ks vs) := ⟨by have := hkv.le; show ks.length < _; omega, by have := hkv.le; have := hkv.len; show vs.length < _; omega⟩; have e1 : z1d ((Record.mk 2 (zo c sec).2 ks vs), []) = some ⟨true, [], (z8w (Record.mk 2 (zo c sec).2 ks vs) []).1⟩ := by
  show zc9 _ _ = _; unfold zc9; rw [zgx ⟨hro, by simp⟩, z7]; unfold makeT; rw [if_neg (by have := zz0 (data := []) hr (by simp); simp only [this]; simp)]
 generalize hr0 : Record.mk 2 (zo c sec).2 ks vs = r at *; have hseq : r.seq = (zo c sec).2 := by rw [<- hr0]
 rw [zT (by omega), zC, e1, z7, show Fate.mk 0 [] [] 0 = z0k from rfl, zbt hk, z7]; by_cases hz : (z1q c b (c.blocks.getD b.toNat default).next ⟨true, [], (z8w r []).1⟩ z0k).2 = 0
 · rw [zT hz, Bool.not_true, zD]; have hrep := z01h hf (by omega) h5 hq hr hseq hz; have ht2 : TagsOk (z1q c b (c.blocks.getD b.toNat default).next ⟨true, [], (z8w r []).1⟩ z0k).1 := zjw (Q := fun p => tagOk p.tag) ht _ _ (zz8 r []) (fun h => absurd rfl h); have hp2 : PagesOk (z1q c b (c.blocks.getD b.toNat default).next ⟨true, [], (z8w r []).1⟩ z0k).1 := zjs hp _ _ (z01i r hro) (by simp [z0k]); rw [z6v (zu5 hk _ _ _ _) hp2 ht2, z7, hrep]; obtain ⟨t1, t2⟩ := zcf c sec; obtain ⟨u1, u2⟩ := zce (zo c sec).1 ⟨z2n b (c.blocks.getD b.toNat default).next, r⟩; refine zqq (n := (min sec.toNat 64)) (by omega) (by omega) t1 (by rw [u1]; exact t1) ?_ (fun k hk2 => ?_) (min sec.toNat 64) N 0 0 (by omega) rfl (by omega)
   · rw [zg (n := (zo c sec).2 + 1) (by omega) (by omega)]
   · refine zw7 (.inr ⟨by rw [<- hr0], by rw [<- hr0]; exact Nat.le_of_eq hkv.len⟩) (by rw [<- hr0]) (fun x hx => ?_) (by rw [t1, t2]) (fun j hj => ?_) (by rw [t1]; exact hk2)
     · rw [<- hr0] at hx; exact (hkv.lt x hx).1
     · rw [<- hr0] at hj ⊢; exact hkv.get j hj
 · rw [zF hz, Bool.not_false, zC]; exact hn
end
theorem KV.up {T : List Int} {k : Nat} {ks vs : List Int} (h : KV T k ks vs) (hk : k <= 64) : KV T 64 ks vs :=
 ⟨h.len, h.le, h.chk, fun x hx => by have := h.lt x hx; omega, h.vr_, h.get⟩
theorem zqr {c : Chip} {sec n : Int} (hk : z12 c) (hp : PagesOk c) (ht : TagsOk c) (hf : FrC c) (h5 : PL 5 c) (hq : AllP SeqP c) (h4 : c.blocks.length = 4) (hs1 : 1 <= sec) (hs2 : sec <= 64) {M : Nat} (hM : 66 <= M) :
 ∀ (m N k : Nat) (i : Int) (ks vs : List Int), k + m = (zo c sec).1.map.length -> i = k -> KV (zo c sec).1.map k ks vs -> m < N ->
 zf (z0o M) N (n, true, sec, (zo c sec).2, i, c, (zo c sec).1, ks, vs) = some true
 | m, 0, _, _, _, _, _, _, _, h => by omega
 | 0, N + 1, k, i, ks, vs, g1, g2, g3, _ => by
   obtain ⟨t1, t2⟩ := zcf c sec; rw [z6, z2m]; unfold z0n; dsimp only; rw [zF (by omega), zD, zT (show (((zo c sec).1.map.length : Nat) : Int) = sec by omega), Bool.not_true, zD]; by_cases h0 : ks.length = 0
   · rw [zT (show (ks.length : Int) = 0 by omega), zC, zC]
   · rw [zF (show ¬ (ks.length : Int) = 0 by omega), zD]; have hkv := g3.up (by omega); exact z3e (b := 0) hk hp ht hf h5 hq h4 hs1 hs2 hkv h0 hM (by omega) (z3e (b := 1) hk hp ht hf h5 hq h4 hs1 hs2 hkv h0 hM (by omega) (z3e (b := 2) hk hp ht hf h5 hq h4 hs1 hs2 hkv h0 hM (by omega) (z3e (b := 3) hk hp ht hf h5 hq h4 hs1 hs2 hkv h0 hM (by omega) rfl)))
 | m + 1, N + 1, k, i, ks, vs, g1, g2, g3, g4 => by
   subst g2; obtain ⟨t1, t2⟩ := zcf c sec; have hn : ∀ (ks vs : List Int), KV (zo c sec).1.map (k + 1) ks vs -> zf (z0o M) N (n, true, sec, (zo c sec).2, w64 ((k : Int) + 1), c, (zo c sec).1, ks, vs) = some true := fun ks vs h =>
    zqr hk hp ht hf h5 hq h4 hs1 hs2 hM m N (k + 1) _ ks vs (by omega) (by rw [zg (by omega) (by omega)]; omega) h (by omega)
   rw [z6, z2m]; unfold z0n; dsimp only; rw [zT (show (k : Int) < (((zo c sec).1.map.length : Nat) : Int) by omega), zC]; have h8 := g3.le; by_cases hlt : ks.length < 8
   · rw [zT (show (ks.length : Int) < 8 by omega), zC]; by_cases hm : Int.tmod (k : Int) 3 = Int.tmod (w64 n) 3
     · rw [zT hm, zC, zT (show (0 : Int) <= k by omega), zC, zC, Int.toNat_natCast]; by_cases h1 : -1 <= (zo c sec).1.map.getD k 0
       · rw [zT h1, zC, zC, zC]; by_cases h2 : (zo c sec).1.map.getD k 0 < 512
         · have hl := g3.len; rw [zT h2, zC, zT (show (ks.length + [(k : Int)].length) * 8 <= 70368744177664 by simp only [List.length_cons, List.length_nil]; omega), zC, zT (show ks.length + [(k : Int)].length <= 70368744177664 by simp only [List.length_cons, List.length_nil]; omega), zC, zC, zC,
            zT (show (vs.length + [(zo c sec).1.map.getD k 0].length) * 8 <= 70368744177664 by simp only [List.length_cons, List.length_nil]; omega), zC, zT (show vs.length + [(zo c sec).1.map.getD k 0].length <= 70368744177664 by simp only [List.length_cons, List.length_nil]; omega), zC]
           exact hn _ _ (g3.add hlt (by omega) h1 h2)
         · rw [zF h2, zD]; exact hn _ _ g3.mono
       · rw [zF h1, zD]; exact hn _ _ g3.mono
     · rw [zF hm, zD]; exact hn _ _ g3.mono
   · rw [zF (show ¬ (ks.length : Int) < 8 by omega), zD, zT (show (((zo c sec).1.map.length : Nat) : Int) = sec by omega), Bool.not_true, zD, zF (show ¬ (ks.length : Int) = 0 by omega), zD]; have hkv := g3.up (by omega); exact z3e (b := 0) hk hp ht hf h5 hq h4 hs1 hs2 hkv (by omega) hM (by omega) (z3e (b := 1) hk hp ht hf h5 hq h4 hs1 hs2 hkv (by omega) hM (by omega) (z3e (b := 2) hk hp ht hf h5 hq h4 hs1 hs2 hkv (by omega) hM (by omega) (z3e (b := 3) hk hp ht hf h5 hq h4 hs1 hs2 hkv (by omega) hM (by omega) rfl)))
theorem zh9 {l : List Int} {n : Int} (hl : U16 l) (hn : l.length < 9223372036854775808) (h0 : 0 <= n /\ n < 256) : z2q (l, n) = some true := by
 have hb : (1 : Int) <= 4 /\ (4 : Int) <= 32 /\ (1 : Int) <= 5 /\ (5 : Int) <= 16 := by decide
 have hci := z015 hl hb; have ht := zw5 l 4 5; have hfr := z01c hl hb; have hpl := z01e l hb; have hsq := zzd hl 4 5; have e1 : w64 (1 + Int.tmod (w64 n) 64) = 1 + n % 64 := by
  rw [zg (n := n) (by omega) (by omega), Int.tmod_eq_emod_of_nonneg (by omega), zg (n := 1 + n % 64) (by omega) (by omega)]
 refine z10 80 fun N hN => ?_
 show z15 N l n = _; unfold z15; rw [znx, z7, Bool.not_true, zD, znv hl hn hb, z7, e1, z6v hci.ok hci.pages ht, z7]; have h4 : (chipT l 4 5).blocks.length = 4 := by have := hci.len; omega
 generalize chipT l 4 5 = c at *; obtain ⟨t1, t2⟩ := zcf c (1 + n % 64); exact zqr hci.ok hci.pages ht hfr hpl hsq h4 (by omega) (by omega) (by omega) _ N 0 0 [] [] (by rw [Nat.zero_add]) rfl ⟨rfl, by simp, rfl, (fun x hx => by cases hx), rfl, (fun j hj => by cases hj)⟩ (by omega)
end Clk
