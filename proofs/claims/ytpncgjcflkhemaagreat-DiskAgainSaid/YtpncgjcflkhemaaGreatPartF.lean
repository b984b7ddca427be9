/- A part of the proof of DiskAgain: an evaluator of the program's code that the kernel runs, its soundness, what the functions compute. -/
import Derived.Test.YtpncgjcflkhemaaGreatPartE
import Derived.KernelRfl
set_option linter.unusedVariables false
set_option linter.unusedSimpArgs false
set_option maxRecDepth 1000000
namespace Clk
open Go
def z5u : Page := ⟨false, [], []⟩
def clrT (all : Bool) (n : Int) : Nat -> List Page -> List Page
 | _, [] => []
 | i, p :: l => (if all = true \/ (i : Int) < n then z5u else p) :: clrT all n (i + 1) l
def z8s (bl : Block) (f : Fate) : Block :=
 if f.kind = 1 then ⟨bl.pages, bl.next, bl.erases, true⟩
 else ⟨clrT (decide (f.kind = 0)) f.n 0 bl.pages, if f.kind = 2 then bl.pages.length else 0, w64 (bl.erases + 1), bl.bad⟩
def canEra (c : Chip) (b : Int) (f : Fate) : Bool :=
 decide (0 <= b) && decide (b < c.blocks.length) && !(c.blocks.getD b.toNat default).bad && decide (0 <= f.kind) && decide (f.kind <= 2)
def eraT (c : Chip) (b : Int) (f : Fate) : Chip × Int :=
 if c.off then (c, 52) else if canEra c b f then
  (⟨c.blocks.set b.toNat (z8s (c.blocks.getD b.toNat default) f), c.broken, decide (f.kind = 2), w64 (c.ops + 1)⟩, if f.kind = 0 then 0 else if f.kind = 1 then 53 else 52)
 else brkT c
theorem ztk (all : Bool) (n : Int) : ∀ (i : Nat) (l : List Page), (clrT all n i l).length = l.length
 | _, [] => rfl
 | i, p :: l => by simp [clrT, ztk all n (i + 1) l]
theorem z00p {C : List Block} {b : Nat} (hb : b < C.length) {f : Fate} (hk : f.kind = 0 \/ f.kind = 2) {nx e : Int} {bd brk off : Bool} {ops : Int} : ∀ (l : List Page) (N k : Nat) (i : Int) (pre : List Page), pre.length = k -> i = k -> k + l.length < 4294967296 -> l.length < N ->
 zd z31 N ((b : Int), i, f, C.set b ⟨pre ++ l, nx, e, bd⟩, brk, off, ops) =
  some (⟨C.set b ⟨pre ++ clrT (decide (f.kind = 0)) f.n k l, if f.kind = 2 then ((k + l.length : Nat) : Int) else 0, e, bd⟩, brk, off || decide (f.kind = 2), ops⟩, if f.kind = 2 then 52 else 0)
 | l, 0, _, _, _, _, _, _, h => by omega
 | [], N + 1, k, i, pre, h1, h2, h3, _ => by
   rw [z6, z7c]; unfold z30; simp only [Int.toNat_natCast, List.length_set, z0v hb, zT hb, zC, decide_true, List.append_nil]; rw [zF (show ¬ i < (pre.length : Int) by omega), zD]; have e1 : ∀ v y, zy (C.set b y) b v = C.set b ⟨y.pages, v, y.erases, y.bad⟩ := fun v y => by unfold zy; rw [z0v hb, List.set_set]
   have e3 : ∀ v y, z0j (C.set b y) b v = C.set b ⟨v, y.next, y.erases, y.bad⟩ := fun v y => by unfold z0j; rw [z0v hb, List.set_set]
   simp only [e1, e3, List.length_set, zT hb, zC, clrT, List.append_nil, List.length_nil, Nat.add_zero]; rcases hk with hk | hk <;> simp [hk, h1]
 | p :: l, N + 1, k, i, pre, h1, h2, h3, h4 => by
   subst h2; simp only [List.length_cons] at h3 h4; have hl : (pre ++ p :: l).length = k + (l.length + 1) := by simp [h1]
   have g3 : ∀ x, (pre ++ p :: l).set k x = (pre ++ [x]) ++ l := fun x => by subst h1; simp
   have e3 : ∀ v y, z0j (C.set b y) b v = C.set b ⟨v, y.next, y.erases, y.bad⟩ := fun v y => by unfold z0j; rw [z0v hb, List.set_set]
   have ih := fun x => z00p hb hk (nx := nx) (e := e) (bd := bd) (brk := brk) (off := off) (ops := ops) l N (k + 1) (w64 (k + 1)) (pre ++ [x]) (by simp [h1]) (by rw [zf (by omega) (by omega)]; omega) (by omega) (by omega)
   rw [z6, z7c]; unfold z30; simp only [Int.toNat_natCast, List.length_set, z0v hb, zT hb, zC, decide_true, e3, g3, hl]; rw [zT (show (k : Int) < ((k + (l.length + 1) : Nat) : Int) by omega), zT (show (0 : Int) <= k by omega), zT (show k < k + (l.length + 1) by omega)]; simp only [zC]; have hp0 : pre ++ p :: l = (pre ++ [p]) ++ l := by simp
   rw [hp0, ih p]; have hz : zd z31 N ((b : Int), w64 (k + 1), f, C.set b ⟨pre ++ [Page.mk false [] []] ++ l, nx, e, bd⟩, brk, off, ops) = _ := ih z5u; rw [hz]; rcases hk with hk | hk
   · simp [hk, clrT]
   · by_cases hn : (k : Int) < f.n
     · have hkl : k + 1 + l.length = k + (l.length + 1) := by omega
       rw [hkl]; simp [hk, clrT, hn]
     · have hkl : k + 1 + l.length = k + (l.length + 1) := by omega
       rw [hkl]; simp [hk, clrT, hn]
theorem z05v {c : Chip} (h : z0f c) {b : Int} {f : Fate} (hoff : c.off = false) (hc : canEra c b f = true) {M : Nat} (hM : ∀ b ∈ c.blocks, b.pages.length < M) {ih} {i : Int} (hi : i = c.blocks.length) : z1d M b ih i f c c.blocks = some (eraT c b f) := by
 have hc' := hc; unfold canEra at hc; simp only [Bool.and_eq_true, decide_eq_true_eq, Bool.not_eq_true'] at hc; obtain ⟨⟨⟨⟨h1, h2⟩, h5⟩, h7⟩, h8⟩ := hc; have hb : b.toNat < c.blocks.length := by omega
 have hM' := hM _ (z07 (d := default) hb); have hl := h.get hb default; unfold z1d eraT; rw [zF (by omega), zD, hoff, if_neg (by simp), if_pos hc']; have hk : f.kind = 1 \/ (f.kind = 0 \/ f.kind = 2) := by omega
 generalize hbl : c.blocks.getD b.toNat default = bl at *; have e2 : ∀ v, z9u c.blocks b.toNat v = c.blocks.set b.toNat ⟨bl.pages, bl.next, bl.erases, v⟩ := fun v => by unfold z9u; rw [hbl]
 have e3 : ∀ v, bErases c.blocks b.toNat v = c.blocks.set b.toNat ⟨bl.pages, bl.next, v, bl.bad⟩ := fun v => by unfold bErases; rw [hbl]
 simp only [e2, e3, zT h1, zT h2, zT hb, zC]; rcases hk with hk | hk
 · simp [hk, z8s, hoff]
 · rw [zF (show ¬ f.kind = 1 by omega), zD]; have := z00p hb hk (nx := bl.next) (e := w64 (bl.erases + 1)) (bd := bl.bad) (brk := c.broken) (off := false) (ops := w64 (c.ops + 1)) bl.pages M 0 0 [] rfl rfl (by omega) hM'; rw [List.nil_append] at this; rw [this]; have hk1 : ¬ f.kind = 1 := by omega
   rcases hk with hk | hk <;> simp [hk, z8s]
theorem z00q {c : Chip} (h : z0f c) {b : Int} {f : Fate} (hoff : c.off = false) (hc : canEra c b f = true) {M : Nat} (hM : ∀ b ∈ c.blocks, b.pages.length < M) : ∀ (m N k : Nat) (i : Int), k + m = c.blocks.length -> i = k -> m < N -> zd (z32 M b) N (i, f, c, c.blocks.take k) = some (eraT c b f)
 | m, 0, _, _, _, _, h => by omega
 | 0, N + 1, k, i, h1, h2, _ => by
   rw [z6, z7d, List.take_of_length_le (by omega)]; exact z05v h hoff hc hM (by omega)
 | m + 1, N + 1, k, i, h1, h2, h3 => by
   rw [z6, z7d]; unfold z1d; rw [ze3 (ih := fun i l => zd (z32 M b) N (i, f, c, l)) h h2 (by omega)]; exact z00q h hoff hc hM m N (k + 1) _ (by omega) rfl (by omega)
theorem z00r {c : Chip} (h : z0f c) : ∀ (m N k : Nat) (i : Int), k + m = c.blocks.length -> i = k -> m < N -> zd z2z N (i, c, c.blocks.take k) = some (⟨c.blocks, c.broken, c.off, c.ops⟩, 52)
 | m, 0, _, _, _, _, h => by omega
 | 0, N + 1, k, i, h1, h2, _ => by
   rw [z6, z7b]; unfold z2y; simp only; rw [zF (by omega), zD, List.take_of_length_le (by omega)]
 | m + 1, N + 1, k, i, h1, h2, h3 => by
   rw [z6, z7b]; unfold z2y; rw [ze3 (ih := fun i l => zd z2z N (i, c, l)) h h2 (by omega)]; exact z00r h m N (k + 1) _ (by omega) rfl (by omega)
theorem ztl {c : Chip} (h : z0f c) (b : Int) (f : Fate) : z65 (c, b, f) = some (eraT c b f) := by
 refine z0e (c.blocks.length + 4294967297) fun N hN => ?_
 show z64 N c b f = _; unfold z64; have hN2 : 4294967297 <= N := Nat.le_trans (Nat.le_add_left _ _) hN; have hN1 : c.blocks.length < N := by omega
 clear hN; cases hoff : c.off with
 | true =>
   rw [zC]; have := z00r h c.blocks.length N 0 0 (by omega) rfl hN1; rw [List.take_zero] at this; rw [this]; unfold eraT; rw [if_pos hoff]
 | false =>
   rw [zD, z00o h]; simp only [z8]; have hbrk : canEra c b f = false -> eraT c b f = brkT c := fun hc => by unfold eraT; rw [hoff, if_neg (by simp), hc]; rfl
   by_cases h1 : b < 0
   · rw [zT h1, zC, hbrk (by unfold canEra; rw [zF (show ¬ 0 <= b by omega)]; simp)]
   · rw [zF h1, zD]; by_cases h2 : (c.blocks.length : Int) <= b
     · rw [zT h2, zC, hbrk (by unfold canEra; rw [zF (show ¬ b < c.blocks.length by omega)]; simp)]
     · rw [zF h2, zD, zT (show 0 <= b by omega), zT (show b < c.blocks.length by omega)]; simp only [zC]; cases hbd : (c.blocks.getD b.toNat default).bad with
       | true => rw [zC, hbrk (by unfold canEra; rw [hbd]; simp)]
       | false =>
         rw [zD]; by_cases hk1 : f.kind < 0
         · rw [zT hk1, zC, hbrk (by unfold canEra; rw [zF (show ¬ 0 <= f.kind by omega)]; simp)]
         · rw [zF hk1, zD]; by_cases hk2 : 2 < f.kind
           · rw [zT hk2, zC, hbrk (by unfold canEra; rw [zF (show ¬ f.kind <= 2 by omega)]; simp)]
           · rw [zF hk2, zD]; have hc : canEra c b f = true := by
              unfold canEra; rw [hbd, zT (show 0 <= b by omega), zT (show b < c.blocks.length by omega), zT (show 0 <= f.kind by omega), zT (show f.kind <= 2 by omega)]; rfl
             have := z00q h hoff hc (M := N) (fun b hb => by have := h.2 b hb; omega) c.blocks.length N 0 0 (by omega) rfl hN1; rw [List.take_zero] at this; exact this
def zChip : Chip := ⟨[], false, false, 0⟩
def newL (n : Int) : List Int -> List Block -> Chip × Int
 | [], bs => (⟨bs, false, false, 0⟩, 0)
 | x :: l, bs => if x < 0 \/ n <= x then (zChip, 1) else newL n l (z9u bs x.toNat true)
def newT (blocks pages : Int) (bad : List Int) : Chip × Int :=
 if blocks < 1 \/ 32 < blocks \/ pages < 1 \/ 16 < pages then (zChip, 1) else newL blocks bad (List.replicate blocks.toNat ⟨List.replicate pages.toNat z5u, 0, 0, false⟩)
theorem z092 {n : Int} {bad : List Int} (hb : bad.length < 4294967296) : ∀ (l : List Int) (N k : Nat) (i : Int) (bs : List Block), bad.drop k = l -> i = k -> (bs.length : Int) = n -> l.length < N -> zd z91 N (n, bad, i, false, false, 0, bs) = some (newL n l bs)
 | l, 0, _, _, _, _, _, _, h => by omega
 | [], N + 1, k, i, bs, h1, h2, h3, _ => by
   have := zp h1; rw [z6, z9w]; unfold z52; simp only [newL]; rw [zF (by omega), zD]
 | x :: l, N + 1, k, i, bs, h1, h2, h3, h4 => by
   obtain ⟨g1, g2, g3⟩ := zk h1; subst h2; rw [z6, z9w]; unfold z52; simp only [Int.toNat_natCast, g2, newL]; rw [zT (show (k : Int) < bad.length by omega), zT (show (0 : Int) <= k by omega)]; simp only [zC]; by_cases c1 : x < 0
   · rw [zT c1, zC, if_pos (.inl c1)]; rfl
   · rw [zF c1, zD]; by_cases c2 : n <= x
     · rw [zT c2, zC, if_pos (.inr c2)]; rfl
     · rw [zF c2, zD, if_neg (by omega), zT (show 0 <= x by omega), zC, zT (show x < (bs.length : Int) by omega), zC, zT (show x.toNat < bs.length by omega), zC]; exact z092 hb l N (k + 1) _ _ g3 (by rw [zf (by omega) (by omega)]; omega) (by unfold z9u; simpa using h3) (by simp at h4; omega)
theorem z093 {n p : Int} {bad : List Int} (hb : bad.length < 4294967296) (hn : n <= 32) (hp : 1 <= p) (hp2 : p <= 16) {M : Nat} (hM : bad.length < M) : ∀ (m N k : Nat) (i : Int), (k : Int) + m = n -> i = k -> m < N -> zd (z92 M) N (n, p, bad, i, false, false, 0, List.replicate k ⟨List.replicate p.toNat z5u, 0, 0, false⟩) = some (newL n bad (List.replicate n.toNat ⟨List.replicate p.toNat z5u, 0, 0, false⟩))
 | m, 0, _, _, _, _, h => by omega
 | 0, N + 1, k, i, h1, h2, _ => by
   rw [z6, z9x]; unfold z54; simp only; rw [zF (by omega), zD, show n.toNat = k by omega]; exact z092 hb bad M 0 0 _ rfl rfl (by simp; omega) hM
 | m + 1, N + 1, k, i, h1, h2, h3 => by
   subst h2; rw [z6, z9x]; unfold z54; simp only [zr2]; simp only [List.length_replicate]; rw [zT (show (k : Int) < n by omega), zT (show 0 <= p by omega), zT (show p <= p by omega), zT (show p * 40 <= 70368744177664 by omega), zT (show p <= 70368744177664 by omega), zT (show (k + 1) * 48 <= 70368744177664 by omega), zT (show k + 1 <= 70368744177664 by omega)]; simp only [zC]; have e : List.replicate k (Block.mk (List.replicate p.toNat z5u) 0 0 false) ++ [⟨List.replicate p.toNat (default : Page), 0, 0, false⟩] = List.replicate (k + 1) ⟨List.replicate p.toNat z5u, 0, 0, false⟩ := by
    rw [List.replicate_succ']; rfl
   rw [e]; exact z093 hb hn hp hp2 hM m N (k + 1) _ (by omega) (by rw [zf (by omega) (by omega)]; omega) (by omega)
theorem zzc {n p : Int} {bad : List Int} (hb : bad.length < 4294967296) : zaq (n, p, bad) = some (newT n p bad) := by
 refine z0e (bad.length + 34) fun N hN => ?_
 show zap N n p bad = _; unfold zap newT; by_cases c1 : n < 1
 · rw [zT c1, zC, if_pos (.inl c1)]; rfl
 · rw [zF c1, zD]; by_cases c2 : 32 < n
   · rw [zT c2, zC, if_pos (.inr (.inl c2))]; rfl
   · rw [zF c2, zD]; by_cases c3 : p < 1
     · rw [zT c3, zC, if_pos (.inr (.inr (.inl c3)))]; rfl
     · rw [zF c3, zD]; by_cases c4 : 16 < p
       · rw [zT c4, zC, if_pos (.inr (.inr (.inr c4)))]; rfl
       · rw [zF c4, zD, if_neg (by omega)]; exact z093 hb (by omega) (by omega) (by omega) (M := N) (by omega) n.toNat N 0 0 (by omega) rfl (by omega)
theorem z0an (p q : Page) : ((p.written == q.written) && ((decide (p.data = q.data)) && (decide (p.tag = q.tag)))) = decide (p = q) := by
 obtain ⟨a, b, c⟩ := p; obtain ⟨a', b', c'⟩ := q; rw [Bool.eq_iff_iff]; simp
theorem z05w {ih0 : Int × Chip × Chip -> Option Bool} {a b : Chip} {x y : Block} {n : Int} (hx : x.pages.length < 4294967296) (hxy : x.pages.length = y.pages.length) : ∀ (l m : List Page) (N k : Nat) (i : Int), x.pages.drop k = l -> y.pages.drop k = m -> i = k -> l.length < N -> zd (z7g ih0) N (n, i, a, b, x, y) = if l = m then ih0 (w64 (n + 1), a, b) else some false
 | l, m, 0, _, _, _, _, _, h => by omega
 | [], m, N + 1, k, i, h1, h2, h3, h4 => by
   have h5 := zp h1; have h6 : m = [] := by rw [<- h2]; exact List.drop_eq_nil_of_le (by omega)
   rw [z6, z8f]; unfold z3x; simp only; rw [zF (by omega), zD, h6, if_pos rfl]
 | p :: l, m, N + 1, k, i, h1, h2, h3, h4 => by
   obtain ⟨g1, g2, g3⟩ := zk h1; subst h3; cases m with
   | nil => have := zp h2; omega
   | cons q m =>
     obtain ⟨e1, e2, e3⟩ := zk h2; rw [z6, z8f]; unfold z3x; simp only [Int.toNat_natCast, g2, e2, z0an]; rw [zT (show (k : Int) < x.pages.length by omega), zT (show (0 : Int) <= k by omega), zT (show (k : Int) < y.pages.length by omega)]; simp only [zC]; by_cases hpq : p = q
     · rw [zT hpq, Bool.not_true, zD]; have := z05w (ih0 := ih0) (a := a) (b := b) (n := n) hx hxy l m N (k + 1) (w64 (k + 1)) g3 e3 (by rw [zf (by omega) (by omega)]; omega) (by simp at h4; omega); rw [this]; simp [hpq]
     · rw [zF hpq, Bool.not_false, zC, if_neg (by simp [hpq])]
theorem z05x {a b : Chip} (ha : z0f a) (hab : a.blocks.length = b.blocks.length) {M : Nat} (hM : 4294967296 < M) : ∀ (l m : List Block) (N k : Nat) (i : Int), a.blocks.drop k = l -> b.blocks.drop k = m -> i = k -> l.length < N -> zd (z7h M) N (i, a, b) = some (decide (l = m))
 | l, m, 0, _, _, _, _, _, h => by omega
 | [], m, N + 1, k, i, h1, h2, h3, h4 => by
   have h5 := zp h1; have h6 : m = [] := by rw [<- h2]; exact List.drop_eq_nil_of_le (by omega)
   rw [z6, z8g]; unfold z3y; simp only; rw [zF (by omega), zD, h6]; rfl
 | x :: l, m, N + 1, k, i, h1, h2, h3, h4 => by
   obtain ⟨g1, g2, g3⟩ := zk h1; subst h3; cases m with
   | nil => have := zp h2; omega
   | cons y m =>
     obtain ⟨e1, e2, e3⟩ := zk h2; have hl := ha.1; have hx : x.pages.length < 4294967296 := by have := ha.get g1 default; rw [g2] at this; exact this
     rw [z6, z8g]; unfold z3y; simp only [Int.toNat_natCast, g2, e2]; rw [zT (show (k : Int) < a.blocks.length by omega), zT (show (0 : Int) <= k by omega), zT (show (k : Int) < b.blocks.length by omega)]; simp only [zC]; have hne : ∀ {P : Prop}, (x = y -> P) -> ¬ P -> some false = some (decide (x :: l = y :: m)) := fun h1 h2 => by
      rw [zF]; intro e; injection e with e _; exact h2 (h1 e)
     by_cases c1 : x.next = y.next
     · rw [zT c1, Bool.not_true, zD]; by_cases c2 : x.erases = y.erases
       · rw [zT c2, Bool.not_true, zD]; by_cases c3 : x.bad = y.bad
         · rw [show (x.bad == y.bad) = true by simp [c3], Bool.not_true, zD]; by_cases c4 : x.pages.length = y.pages.length
           · rw [zT (show (x.pages.length : Int) = y.pages.length by omega), Bool.not_true, zD, z05w hx c4 _ _ M 0 0 rfl rfl rfl (by simp; omega)]; simp only [List.drop_zero]; have := z05x ha hab hM l m N (k + 1) (w64 (k + 1)) g3 e3 (by rw [zf (by omega) (by omega)]; omega) (by simp at h4; omega); rw [this]; by_cases c5 : x.pages = y.pages
             · rw [if_pos c5]; have : x = y := by cases x; cases y; simp_all
               simp [this]
             · rw [if_neg c5]; exact hne (congrArg Block.pages) c5
           · rw [zF (by omega), Bool.not_false, zC]; exact hne (fun e => by rw [e]) c4
         · rw [show (x.bad == y.bad) = false by simp [c3], Bool.not_false, zC]; exact hne (congrArg Block.bad) c3
       · rw [zF c2, Bool.not_false, zC]; exact hne (congrArg Block.erases) c2
     · rw [zF c1, Bool.not_false, zC]; exact hne (congrArg Block.next) c1
theorem zkv {a b : Chip} (ha : z0f a) : z8i (a, b) = some (decide (a = b)) := by
 have hl := ha.1; refine z0e 4294967297 fun N hN => ?_
 show z8h N a b = _; unfold z8h; by_cases c1 : a.blocks.length = b.blocks.length
 · rw [zT (by omega), Bool.not_true, zD]; by_cases c2 : a.broken = b.broken
   · rw [show (a.broken == b.broken) = true by simp [c2], Bool.not_true, zD]; by_cases c3 : a.off = b.off
     · rw [show (a.off == b.off) = true by simp [c3], Bool.not_true, zD]; by_cases c4 : a.ops = b.ops
       · rw [zT c4, Bool.not_true, zD, z05x ha c1 (by omega) _ _ N 0 0 rfl rfl rfl (by simp; omega)]; congr 1
         simp only [List.drop_zero]; rw [Bool.eq_iff_iff]; simp only [decide_eq_true_eq]; constructor
         · intro h; cases a; cases b; simp_all
         · intro h; rw [h]
       · rw [zF c4, Bool.not_false, zC, zF fun e => c4 (by rw [e])]
     · rw [show (a.off == b.off) = false by simp [c3], Bool.not_false, zC, zF fun e => c3 (by rw [e])]
   · rw [show (a.broken == b.broken) = false by simp [c2], Bool.not_false, zC, zF fun e => c2 (by rw [e])]
 · rw [zF (by omega), Bool.not_false, zC, zF fun e => c1 (by rw [e])]
end Clk
namespace Clk
open Go
def placeT (b p : Int) : Int := if b < 0 \/ 32 <= b \/ p < 0 \/ 16 <= p then -1 else b * 16 + p
theorem ztm (b p : Int) : zam (b, p) = some (placeT b p) := by
 show z61 b p = _; unfold z61 placeT; by_cases c1 : b < 0
 · rw [zT c1, zC, if_pos (.inl c1)]
 · rw [zF c1, zD]; by_cases c2 : 32 <= b
   · rw [zT c2, zC, if_pos (.inr (.inl c2))]
   · rw [zF c2, zD]; by_cases c3 : p < 0
     · rw [zT c3, zC, if_pos (.inr (.inr (.inl c3)))]
     · rw [zF c3, zD]; by_cases c4 : 16 <= p
       · rw [zT c4, zC, if_pos (.inr (.inr (.inr c4)))]
       · rw [zF c4, zD, if_neg (by omega), zf (n := b * 16) (by omega) (by omega), zf (by omega) (by omega)]
theorem zwq (b p : Int) : zcz (b, p) = some (placeT b p) := ztm b p
def aheadT (a b : Found) : Bool := decide (a.record.seq < b.record.seq) || (decide (a.record.seq = b.record.seq) && decide (a.place < b.place))
def insT : List Found -> Found -> List Found
 | [], f => [f]
 | x :: l, f => if aheadT f x = true then f :: x :: l else x :: insT l f
theorem z00s : ∀ (l : List Found) (f : Found), (insT l f).length = l.length + 1
 | [], f => rfl
 | x :: l, f => by
   unfold insT; split
   · rfl
   · simp [z00s l f]
def pagesT (b : Nat) : Nat -> List Page -> List Found -> List Found
 | _, [], out => out
 | p, pg :: l, out => pagesT b (p + 1) l (if (lookT pg).1 = 1 /\ 0 <= placeT b p then insT out ⟨placeT b p, (lookT pg).2⟩ else out)
def blocksT : Nat -> List Block -> List Found -> List Found
 | _, [], out => out
 | b, x :: l, out => blocksT (b + 1) l (pagesT b 0 x.pages out)
def allT (c : Chip) : List Found := blocksT 0 c.blocks []
def PagesOk (c : Chip) : Prop := ∀ b ∈ c.blocks, ∀ p ∈ b.pages, PageOk p
theorem zr5 (b : Nat) : ∀ (l : List Page) (p : Nat) (out : List Found), out.length <= min (16 * b + min p 16) 512 -> (pagesT b p l out).length <= min (16 * (b + 1)) 512
 | [], p, out, h => by
   unfold pagesT; omega
 | pg :: l, p, out, h => by
   unfold pagesT; refine zr5 b l (p + 1) _ ?_; split
   · rename_i hc; have h2 := hc.2; unfold placeT at h2; split at h2
     · omega
     · rw [z00s]; omega
   · omega
theorem z07y {b p : Nat} (h : 0 <= placeT b p) : b < 32 /\ p < 16 := by
 unfold placeT at h; split at h <;> omega
theorem zoj : ∀ (l : List Block) (b : Nat) (out : List Found), out.length <= min (16 * b) 512 -> (blocksT b l out).length <= 512
 | [], b, out, h => by unfold blocksT; omega
 | x :: l, b, out, h => by
   unfold blocksT; exact zoj l (b + 1) _ (zr5 b _ 0 out (by omega))
theorem z07z (c : Chip) : (allT c).length <= 512 := zoj _ 0 [] (by simp)
def tabT (n : Int) : Table := ⟨List.replicate (min n.toNat 64) (-1), List.replicate (min n.toNat 64) (-1)⟩
def TabOk (t : Table) : Prop := t.map.length < 4294967296 /\ t.by_.length < 4294967296
def app1 (f : Found) (i : Nat) (k : Int) (t : Table) : Table :=
 if 0 <= k /\ k < t.map.length /\ k < t.by_.length then
  if f.record.kind = 1 then ⟨t.map.set k.toNat f.place, t.by_.set k.toNat f.place⟩
  else if f.record.kind = 2 /\ i < f.record.values.length then ⟨t.map.set k.toNat (f.record.values.getD i 0), t.by_.set k.toNat f.place⟩
  else t
 else t
def appL (f : Found) : Nat -> List Int -> Table -> Table
 | _, [], t => t
 | i, k :: l, t => appL f (i + 1) l (app1 f i k t)
def applyT (t : Table) (f : Found) : Table := appL f 0 f.record.keys t
theorem z080 (f : Found) (i : Nat) (k : Int) (t : Table) : (app1 f i k t).map.length = t.map.length /\ (app1 f i k t).by_.length = t.by_.length := by
 unfold app1; split
 · split
   · simp
   · split <;> simp
 · simp
theorem z00t (f : Found) : ∀ (l : List Int) (i : Nat) (t : Table), (appL f i l t).map.length = t.map.length /\ (appL f i l t).by_.length = t.by_.length
 | [], i, t => ⟨rfl, rfl⟩
 | k :: l, i, t => by
   unfold appL; obtain ⟨h1, h2⟩ := z00t f l (i + 1) (app1 f i k t); obtain ⟨h3, h4⟩ := z080 f i k t; exact ⟨h1.trans h3, h2.trans h4⟩
theorem zr6 (t : Table) (f : Found) : (applyT t f).map.length = t.map.length /\ (applyT t f).by_.length = t.by_.length := z00t f _ 0 t
theorem zwr {f : Found} (hk : f.record.keys.length < 4294967296) (hv : f.record.values.length < 4294967296) : ∀ (l : List Int) (N i : Nat) (ii : Int) (t : Table), f.record.keys.drop i = l -> ii = i -> TabOk t -> l.length < N -> zd z0l N (f.record.keys, (f.record.keys.length : Int), ii, f, t.map, t.by_) = some (appL f i l t)
 | l, 0, _, _, _, _, _, _, h => by omega
 | [], N + 1, i, ii, t, h1, h2, h3, _ => by
   have h4 := zp h1; rw [z6, z5w]; unfold z2c; simp only [appL]; rw [zF (by omega), zD]
 | k :: l, N + 1, i, ii, t, h1, h2, h3, h4 => by
   obtain ⟨g1, g2, g3⟩ := zk h1; subst h2; have e1 : w64 ((i : Int) + 1) = ((i + 1 : Nat) : Int) := by rw [zf (by omega) (by omega)]; rfl
   have ih := fun t' h => zwr hk hv l N (i + 1) _ t' g3 rfl h (by simp at h4; omega)
   have ihs := ih t h3; have hval : z96 (f, (i : Int)) = some (if f.record.kind = 1 then (f.place, true) else if f.record.kind = 2 /\ i < f.record.values.length then (f.record.values.getD i 0, true) else (-1, false)) := by
    show z59 f i = _; unfold z59; by_cases c4 : f.record.kind = 1
    · rw [zT c4, zC, if_pos c4]
    · rw [zF c4, zD, if_neg c4]; by_cases c5 : f.record.kind = 2
      · rw [zT c5, zC]; by_cases c6 : i < f.record.values.length
        · rw [zT (show (i : Int) < f.record.values.length by omega), zC, if_pos ⟨c5, c6⟩, zT (show (0 : Int) <= i by omega), zC, zC, Int.toNat_natCast]
        · rw [zF (show ¬ (i : Int) < f.record.values.length by omega), zD, if_neg (fun h => c6 h.2)]
      · rw [zF c5, zD, if_neg (fun h => c5 h.1)]
   rw [z6, z5w]; unfold z2c; simp only [Int.toNat_natCast, g2, e1, appL, hval, z8]; rw [zT (show (i : Int) < f.record.keys.length by omega), zT (show (0 : Int) <= i by omega)]; simp only [zC]; have hin : ∀ (v : Int) (X : Table), (0 <= k /\ k < t.map.length /\ k < t.by_.length -> X = ⟨t.map.set k.toNat v, t.by_.set k.toNat f.place⟩) -> (¬ (0 <= k /\ k < t.map.length /\ k < t.by_.length) -> X = t) ->
    (cond (decide (k < 0)) (zd z0l N (f.record.keys, (f.record.keys.length : Int), ((i + 1 : Nat) : Int), f, t.map, t.by_))
    (cond (decide ((min (t.map.length : Int) (t.by_.length : Int)) <= k)) (zd z0l N (f.record.keys, (f.record.keys.length : Int), ((i + 1 : Nat) : Int), f, t.map, t.by_))
      (cond (decide (0 <= k)) (cond (decide (k < (t.map.length : Int))) (cond (decide (k.toNat < t.map.length)) (cond (decide (0 <= k)) (cond (decide (k < (t.by_.length : Int))) (cond (decide (k.toNat < t.by_.length)) (zd z0l N (f.record.keys, (f.record.keys.length : Int), ((i + 1 : Nat) : Int), f, t.map.set k.toNat v, t.by_.set k.toNat f.place)) none) none) none) none) none) none))) = some (appL f (i + 1) l X) := by
    intro v X hX1 hX2; by_cases c1 : k < 0
    · rw [zT c1, zC, hX2 (by omega)]; exact ihs
    · rw [zF c1, zD]; by_cases c2 : min (t.map.length : Int) (t.by_.length : Int) <= k
      · rw [zT c2, zC, hX2 (by omega)]; exact ihs
      · rw [zF c2, zD, zT (show 0 <= k by omega), zT (show k < t.map.length by omega), zT (show k.toNat < t.map.length by omega), zT (show k < t.by_.length by omega), zT (show k.toNat < t.by_.length by omega)]; simp only [zC]; rw [hX1 (by omega)]; exact ih ⟨t.map.set k.toNat v, t.by_.set k.toNat f.place⟩ ⟨by simpa using h3.1, by simpa using h3.2⟩
   by_cases c4 : f.record.kind = 1
   · rw [if_pos c4, Bool.not_true, zD]; exact hin f.place _ (fun h => by unfold app1; rw [if_pos h, if_pos c4]) (fun h => by unfold app1; rw [if_neg h])
   · rw [if_neg c4]; by_cases c5 : f.record.kind = 2 /\ i < f.record.values.length
     · rw [if_pos c5, Bool.not_true, zD]; exact hin (f.record.values.getD i 0) _ (fun h => by unfold app1; rw [if_pos h, if_neg c4, if_pos c5]) (fun h => by unfold app1; rw [if_neg h])
     · rw [if_neg c5, Bool.not_false, zC]; have : app1 f i k t = t := by
        unfold app1; split
        · first | rfl | rw [if_neg c4, if_neg c5]
        · rfl
       rw [this]; exact ihs
theorem zq5 {t : Table} {f : Found} (ht : TabOk t) (hr : RecOk f.record) : z97 (t, f) = some (applyT t f) := by
 have h1 := ht.1; have h2 := ht.2; have h3 := hr.1; refine z0e 4294967297 fun N hN => ?_
 show z5a N t f = _; unfold z5a; rw [zT (by omega), zC, zT (by omega), zC, zT (by omega), zC, zT (by omega), zC]; exact zwr h3 hr.2 _ N 0 0 t rfl rfl ht (by omega)
end Clk
namespace Clk
open Go
def repL : List Found -> Table -> Int -> Table × Int
 | [], t, s => (t, s)
 | f :: l, t, s => repL l (applyT t f) (max s (w64 (f.record.seq + 1)))
def replayT (c : Chip) (n : Int) : Table × Int := repL (allT c) (tabT n) 0
def z8t (l : List Found) : Prop := ∀ f ∈ l, RecOk f.record
theorem ze4 {s : Str} (h : s.length < 4294967296) : (ze s).1.length < 4294967296 /\ (ze s).2.1.length < 4294967296 := by
 have := z37 s; omega
theorem z0ao {tag data : Str} (h : tag.length < 4294967296) : RecOk (decT tag data).1 := by
 obtain ⟨h1, h2⟩ := ze4 h; obtain ⟨h3, h4⟩ := ze4 h2; obtain ⟨h5, h6⟩ := ze4 h4; unfold decT; split
 · exact ⟨by simp [zRec], by simp [zRec]⟩
 · split
   · exact ⟨by simp [zRec], by simp [zRec]⟩
   · exact ⟨h3, by simp only [mvT, List.length_map]; exact h5⟩
theorem z081 {p : Page} (h : PageOk p) : RecOk (lookT p).2 := by
 unfold lookT; split
 · exact ⟨by simp [zRec], by simp [zRec]⟩
 · split
   · exact ⟨by simp [zRec], by simp [zRec]⟩
   · exact z0ao h.1
theorem z05y : ∀ {l : List Found} {f : Found}, z8t l -> RecOk f.record -> z8t (insT l f)
 | [], f, _, h => by intro g hg; simp [insT] at hg; subst hg; exact h
 | x :: l, f, h1, h2 => by
   unfold insT; split
   · intro g hg; rcases List.mem_cons.1 hg with rfl | hg
     · exact h2
     · exact h1 g hg
   · intro g hg; rcases List.mem_cons.1 hg with rfl | hg
     · exact h1 _ List.mem_cons_self
     · exact z05y (fun g hg => h1 g (List.mem_cons_of_mem _ hg)) h2 g hg
theorem zws (b : Nat) : ∀ (l : List Page) (p : Nat) (out : List Found), (∀ pg ∈ l, PageOk pg) -> z8t out -> z8t (pagesT b p l out)
 | [], p, out, _, h => h
 | pg :: l, p, out, h1, h2 => by
   unfold pagesT; refine zws b l (p + 1) _ (fun q hq => h1 q (List.mem_cons_of_mem _ hq)) ?_; split
   · exact z05y h2 (z081 (h1 pg List.mem_cons_self))
   · exact h2
theorem zr7 : ∀ (l : List Block) (b : Nat) (out : List Found), (∀ x ∈ l, ∀ p ∈ x.pages, PageOk p) -> z8t out -> z8t (blocksT b l out)
 | [], b, out, _, h => h
 | x :: l, b, out, h1, h2 => by
   unfold blocksT; exact zr7 l (b + 1) _ (fun y hy => h1 y (List.mem_cons_of_mem _ hy)) (zws b _ 0 out (h1 x List.mem_cons_self) h2)
theorem z0ap {c : Chip} (h : PagesOk c) : z8t (allT c) := zr7 _ 0 [] h (fun _ h => by cases h)
theorem z00u : ∀ (l : List Found) (t : Table) (s : Int), (repL l t s).1.map.length = t.map.length /\ (repL l t s).1.by_.length = t.by_.length
 | [], t, s => ⟨rfl, rfl⟩
 | f :: l, t, s => by
   unfold repL; obtain ⟨h1, h2⟩ := z00u l (applyT t f) (max s (w64 (f.record.seq + 1))); obtain ⟨h3, h4⟩ := zr6 t f; exact ⟨h1.trans h3, h2.trans h4⟩
theorem z05z (n : Int) : TabOk (tabT n) := ⟨by simp [tabT]; omega, by simp [tabT]; omega⟩
def anyW : List Page -> Bool
 | [] => false
 | p :: l => p.written || anyW l
def fcT (bl : Block) (l : List Page) : Int := cond (anyW l) 2 (if bl.next = 0 then 0 else 2)
def stateT (c : Chip) (opn b : Int) : Int :=
 if b < 0 \/ (c.blocks.length : Int) <= b then 3
 else if (c.blocks.getD b.toNat default).bad = true then 3
 else if b = opn /\ 0 <= (c.blocks.getD b.toNat default).next /\ (c.blocks.getD b.toNat default).next < (c.blocks.getD b.toNat default).pages.length then 1
 else fcT (c.blocks.getD b.toNat default) (c.blocks.getD b.toNat default).pages
def pickL (c : Chip) (o : Int) : Nat -> List Block -> Int -> Int
 | _, [], best => best
 | i, x :: l, best => pickL c o (i + 1) l (if stateT c o i = 0 /\ (best < 0 \/ x.erases < (c.blocks.getD best.toNat default).erases) then (i : Int) else best)
def fitsT (g : Geometry) : Bool :=
 decide (1 <= g.blocks) && decide (g.blocks <= 32) && decide (2 <= g.pages) && decide (g.pages <= 16) && decide (1 <= g.sectors) && decide (g.sectors <= 64) && decide (0 <= g.spare) && decide (g.spare <= 32) && decide (2 * g.sectors < (g.blocks - 2 * g.spare - 3) * g.pages)
theorem z0bq (g : Geometry) : z3f g = some (fitsT g) := by
 show z3e g = _; unfold z3e fitsT; by_cases c1 : 1 <= g.blocks
 · by_cases c2 : g.blocks <= 32
   · by_cases c3 : 2 <= g.pages
     · by_cases c4 : g.pages <= 16
       · by_cases c5 : 1 <= g.sectors
         · by_cases c6 : g.sectors <= 64
           · by_cases c7 : 0 <= g.spare
             · by_cases c8 : g.spare <= 32
               · have hm : -16000 <= (g.blocks - 2 * g.spare - 3) * g.pages /\ (g.blocks - 2 * g.spare - 3) * g.pages <= 16000 := by
                  have h1 : -100 <= g.blocks - 2 * g.spare - 3 := by omega
                  have h2 : g.blocks - 2 * g.spare - 3 <= 100 := by omega
                  generalize g.blocks - 2 * g.spare - 3 = x at h1 h2; constructor
                  · have := Int.mul_le_mul_of_nonneg_right h1 (show 0 <= g.pages by omega); omega
                  · have := Int.mul_le_mul_of_nonneg_right h2 (show 0 <= g.pages by omega); omega
                 rw [zf (n := 2 * g.sectors) (by omega) (by omega), zf (n := 2 * g.spare) (by omega) (by omega), zf (n := g.blocks - 2 * g.spare) (by omega) (by omega), zf (n := g.blocks - 2 * g.spare - 3) (by omega) (by omega), zf (n := (g.blocks - 2 * g.spare - 3) * g.pages) (by omega) (by omega)]; simp only [zT c1, zT c2, zT c3, zT c4, zT c5, zT c6, zT c7, zT c8, zC, Bool.true_and]
               · simp [c1, c2, c3, c4, c5, c6, c7, c8]
             · simp [c1, c2, c3, c4, c5, c6, c7]
           · simp [c1, c2, c3, c4, c5, c6]
         · simp [c1, c2, c3, c4, c5]
       · simp [c1, c2, c3, c4]
     · simp [c1, c2, c3]
   · simp [c1, c2]
 · simp [c1]
def badsL : List Block -> Int
 | [] => 0
 | b :: l => (if b.bad = true then 1 else 0) + badsL l
def badsT (c : Chip) : Int := badsL c.blocks
theorem z00v : ∀ (l : List Block), 0 <= badsL l /\ badsL l <= l.length
 | [] => by simp [badsL]
 | b :: l => by have := z00v l; unfold badsL; simp only [List.length_cons]; split <;> omega
def zDev : Device := ⟨⟨0, 0, 0, 0⟩, ⟨[], false, false, 0⟩, ⟨[], []⟩, 0, 0⟩
def mtL (g : Geometry) : Nat -> List Block -> Int -> Option Int
 | _, [], o => some o
 | i, b :: l, o => if (b.pages.length : Int) ≠ g.pages then none else mtL g (i + 1) l (if o < 0 /\ b.bad = false /\ 0 < b.next /\ b.next < g.pages then (i : Int) else o)
def mountT (g : Geometry) (c : Chip) : Device × Int :=
 if fitsT g = false \/ (c.blocks.length : Int) ≠ g.blocks then (zDev, 1)
 else match mtL g 0 c.blocks (-1) with
  | none => (zDev, 1)
  | some o => (⟨g, onT c, (replayT c g.sectors).1, (replayT c g.sectors).2, o⟩, 0)
def z20 (g : Geometry) (bad : List Int) : Device × Int :=
 if fitsT g = false \/ (newT g.blocks g.pages bad).2 ≠ 0 \/ g.spare < badsT (newT g.blocks g.pages bad).1 then (zDev, 1) else mountT g (newT g.blocks g.pages bad).1
theorem zzd {n : Int} {m : Nat} : ∀ (l : List Int) (bs : List Block), (∀ b ∈ bs, b.pages.length <= 16 /\ ∀ p ∈ b.pages, p = z5u) -> bs.length = m -> (∀ b ∈ (newL n l bs).1.blocks, b.pages.length <= 16 /\ ∀ p ∈ b.pages, p = z5u) /\ ((newL n l bs).1.blocks.length = m \/ (newL n l bs).1.blocks.length = 0)
 | [], bs, h1, h2 => ⟨h1, .inl h2⟩
 | x :: l, bs, h1, h2 => by
   unfold newL; split
   · exact ⟨fun b hb => by simp [zChip] at hb, .inr rfl⟩
   · refine zzd l _ (fun b hb => ?_) (by unfold z9u; simpa using h2); unfold z9u at hb; by_cases hx : x.toNat < bs.length
     · rcases List.mem_or_eq_of_mem_set hb with h | rfl
       · exact h1 b h
       · exact h1 (bs.getD x.toNat default) (z07 hx)
     · rw [List.set_eq_of_length_le (by omega)] at hb; exact h1 b hb
theorem zze (n p : Int) (bad : List Int) : z0f (newT n p bad).1 /\ PagesOk (newT n p bad).1 := by
 unfold newT; split
 · exact ⟨⟨by simp [zChip], fun b hb => by simp [zChip] at hb⟩, fun b hb => by simp [zChip] at hb⟩
 · rename_i h; obtain ⟨h1, h2⟩ := zzd (n := n) (m := n.toNat) bad (List.replicate n.toNat ⟨List.replicate p.toNat z5u, 0, 0, false⟩) (fun b hb => by
    obtain ⟨_, rfl⟩ := List.mem_replicate.1 hb; exact ⟨by simp; omega, fun q hq => (List.mem_replicate.1 hq).2⟩) (by simp)
   refine ⟨⟨by omega, fun b hb => by have := (h1 b hb).1; omega⟩, fun b hb q hq => ?_⟩; rw [(h1 b hb).2 q hq]; exact ⟨by simp [z5u], by simp [z5u]⟩
def DevOk (d : Device) : Prop := z0f d.chip /\ TabOk d.table
theorem zwt {a b : Device} (ha : DevOk a) : z3g (a, b) = some (decide (a = b)) := by
 show z8j a b = _; unfold z8j; rw [zkv ha.1, zks ha.2.1, zks ha.2.2]; simp only [z8]; obtain ⟨⟨g1, g2, g3, g4⟩, c, ⟨m, by_⟩, s, o⟩ := a; obtain ⟨⟨g1', g2', g3', g4'⟩, c', ⟨m', by'⟩, s', o'⟩ := b; simp only [Device.mk.injEq, Geometry.mk.injEq, Table.mk.injEq]; by_cases c1 : g1 = g1' <;> by_cases c2 : g2 = g2' <;> by_cases c3 : g3 = g3' <;> by_cases c4 : g4 = g4' <;> simp [c1, c2, c3, c4]
 by_cases c5 : c = c'
 · by_cases c6 : m = m'
   · by_cases c7 : by_ = by'
     · by_cases c8 : s = s' <;> simp [c5, c6, c7, c8]
     · simp [c5, c6, c7]
   · simp [c5, c6]
 · simp [c5]
end Clk
namespace Clk
open Go
def z2p : Fate := ⟨0, [], [], 0⟩
def nextOf (c : Chip) (o : Int) : Int := (c.blocks.getD o.toNat default).next
theorem z082 {c : Chip} (h : z0f c) (b p : Int) (page : Page) (f : Fate) : z0f (progT c b p page f).1 := by
 unfold progT; split
 · exact h
 · split
   · rename_i hc; obtain ⟨h1, h2, _⟩ := z4s.1 hc; refine ⟨by simpa using h.1, fun x hx => ?_⟩; rcases List.mem_or_eq_of_mem_set hx with h3 | rfl
     · exact h.2 x h3
     · have := h.get (show b.toNat < c.blocks.length by omega) default; simpa [z5e] using this
   · exact h
theorem zkw (c : Chip) (b p : Int) (page : Page) (f : Fate) : (progT c b p page f).1.blocks.length = c.blocks.length := by
 unfold progT; split
 · rfl
 · split
   · simp
   · rfl
end Clk
namespace Clk
open Go
def z3h : List Geometry := [⟨8, 4, 5, 1⟩, ⟨5, 4, 3, 0⟩, ⟨12, 3, 5, 2⟩, ⟨6, 6, 8, 0⟩, ⟨16, 2, 4, 3⟩, ⟨10, 5, 12, 1⟩]
def smallT (n : Int) : Geometry := z3h.getD (n.toNat % 6) default
theorem z060 {n : Int} (h0 : 0 <= n) (h1 : n < 256) : z3r n = some (smallT n) := by
 show z62 n = _; unfold z62; obtain ⟨k, rfl⟩ : ∃ k : Nat, n = k := ⟨n.toNat, by omega⟩; have e : Int.tmod (w64 (k : Int)) (([(Geometry.mk 8 4 5 1), (Geometry.mk 5 4 3 0), (Geometry.mk 12 3 5 2), (Geometry.mk 6 6 8 0), (Geometry.mk 16 2 4 3), (Geometry.mk 10 5 12 1)].length : Nat) : Int) = ((k % 6 : Nat) : Int) := by
  rw [zf (by omega) (by omega)]; exact zbo k 6
 rw [e, zF (by decide), Bool.not_false, zC, zT (show (0 : Int) <= ((k % 6 : Nat) : Int) by omega), zC, zT (by simp only [List.length_cons, List.length_nil]; omega), zC, zT (by simp only [List.length_cons, List.length_nil]; omega), zC]; rfl
theorem zzf {P : Geometry -> Prop} (h : ∀ g ∈ z3h, P g) (n : Int) : P (smallT n) := h _ (z07 (by show n.toNat % 6 < 6; omega))
def pk (l : List Int) (i : Nat) (n : Int) : Int := l.getD i 0 % n
def mkL (l : List Int) (kind : Int) : Nat -> Nat -> Int -> List Int × List Int
 | 0, _, _ => ([], [])
 | n + 1, at_, key => if key < 64 then
    (if kind = 2 then (key :: (mkL l kind n (at_ + 2) (key + 1 + pk l at_ 10)).1, (pk l (at_ + 1) 513 - 1) :: (mkL l kind n (at_ + 2) (key + 1 + pk l at_ 10)).2)
     else (key :: (mkL l kind n (at_ + 1) (key + 1 + pk l at_ 10)).1, (mkL l kind n (at_ + 1) (key + 1 + pk l at_ 10)).2))
   else ([], [])
def madeT (l : List Int) : Record :=
 ⟨1 + pk l 0 2, pk l 1 60000 * (1 + pk l 2 1000), (mkL l (1 + pk l 0 2) (pk l 4 8 + 1).toNat 5 (pk l 3 20)).1, (mkL l (1 + pk l 0 2) (pk l 4 8 + 1).toNat 5 (pk l 3 20)).2⟩
def U16 (l : List Int) : Prop := ∀ n ∈ l, 0 <= n /\ n < 65536
theorem U16.get {l : List Int} (h : U16 l) (i : Nat) : 0 <= l.getD i 0 /\ l.getD i 0 < 65536 := by
 by_cases hi : i < l.length
 · exact h _ (z07 hi)
 · rw [zI, List.getElem?_eq_none (by omega)]; exact ⟨Int.le_refl 0, show (0 : Int) < 65536 by omega⟩
theorem z19 {l : List Int} {i : Nat} (h : l.length <= i) (n : Int) : pk l i n = 0 := by
 unfold pk; rw [zI, List.getElem?_eq_none h]; simp
theorem z8u {l : List Int} (h : U16 l) (i : Nat) {n : Int} (hn : 0 < n) : 0 <= pk l i n /\ pk l i n < n := ⟨Int.emod_nonneg _ (by omega), Int.emod_lt_of_pos _ hn⟩
theorem z061 {l : List Int} (h : U16 l) (i : Nat) (n : Int) : Int.tmod (w64 (l.getD i 0)) n = pk l i n := by
 have := h.get i; rw [zf (by omega) (by omega), Int.tmod_eq_emod_of_nonneg this.1]; rfl
theorem z062 {l : List Int} (hl : U16 l) (hn : l.length < 9223372036854775808) {kind seq : Int} : ∀ (n N at_ : Nat) (cnt key ati : Int) (ks vs : List Int), cnt = (n : Int) - 1 -> ati = at_ -> n <= 9 -> at_ + 2 * n <= 4294967296 -> 0 <= key -> key <= 100 -> ks.length + n <= 100 -> vs.length + n <= 100 -> n < N ->
 zd za N (key, cnt, l, kind, seq, ati, ks, vs) = some ⟨kind, seq, ks ++ (mkL l kind n at_ key).1, vs ++ (mkL l kind n at_ key).2⟩
 | n, 0, _, _, _, _, _, _, _, _, _, _, _, _, _, _, h => by omega
 | 0, N + 1, at_, cnt, key, ati, ks, vs, h1, h2, _, _, _, _, _, _, _ => by
   rw [z6, z82]; unfold z3t; simp only [mkL, List.append_nil]; rw [zF (by omega), zD]
 | n + 1, N + 1, at_, cnt, key, ati, ks, vs, h1, h2, h3, h4, h5, h6, h7, h8, h9 => by
   subst h2; rw [z6, z82]; unfold z3t; simp only [mkL]; rw [zT (show 0 <= cnt by omega), zC]; by_cases hk : key < 64
   · have p1 := z8u hl at_ (n := 10) (by omega); have p2 := z8u hl (at_ + 1) (n := 513) (by omega); have ih := fun (a : Nat) (ha : a + 2 * n <= 4294967296) (k' : Int) (hk' : 0 <= k' /\ k' <= 100) (ks' vs' : List Int) (hks : ks'.length + n <= 100) (hvs : vs'.length + n <= 100) => z062 hl hn (kind := kind) (seq := seq) n N a (w64 (cnt - 1)) k' (a : Int) ks' vs' (by rw [zf (by omega) (by omega)]; omega) rfl (by omega) ha hk'.1 hk'.2 hks hvs (by omega)
     rw [zT hk, zC, if_pos hk, zT (by simp only [List.length_singleton]; omega), zC, zT (by simp only [List.length_singleton]; omega), zC]; have w1 : w64 ((at_ : Int) + 1) = ((at_ + 1 : Nat) : Int) := by rw [zf (by omega) (by omega)]; rfl
     have w2 : w64 (((at_ + 1 : Nat) : Int) + 1) = ((at_ + 2 : Nat) : Int) := by rw [zf (by omega) (by omega)]; rfl
     have w3 : w64 (((at_ + 1 : Nat) : Int) - 1) = (at_ : Int) := by rw [zf (by omega) (by omega)]; omega
     have w4 : w64 (((at_ + 2 : Nat) : Int) - 1) = ((at_ + 1 : Nat) : Int) := by rw [zf (by omega) (by omega)]; omega
     have w5 : w64 (key + 1) = key + 1 := zf (by omega) (by omega); have w6 : w64 (key + 1 + pk l at_ 10) = key + 1 + pk l at_ 10 := zf (by omega) (by omega); have w7 : w64 (pk l (at_ + 1) 513 - 1) = pk l (at_ + 1) 513 - 1 := zf (by omega) (by omega); simp only [w1, w2, w3, w4, w5, Int.toNat_natCast, z061 hl, w6, w7]; have v1 : [key].length = 1 := rfl; by_cases c2 : kind = 2
     · simp only [zT c2, zC, if_pos c2]; by_cases c1 : l.length < at_ + 1
       · have z := z19 (show l.length <= at_ by omega) 10; have z2 := z19 (show l.length <= at_ + 1 by omega) 513; rw [zT (show (l.length : Int) < ((at_ + 1 : Nat) : Int) by omega), zC, zT (show (l.length : Int) < ((at_ + 2 : Nat) : Int) by omega), zC, zT (by simp only [List.length_singleton]; omega), zC, zT (by simp only [List.length_singleton]; omega), zC, z, z2, zf (n := key + 1 + 0) (by omega) (by omega)]; rw [ih (at_ + 2) (by omega) _ (by omega) _ _ (by simp only [List.length_append, List.length_singleton]; omega) (by simp only [List.length_append, List.length_singleton]; omega)]; simp
       · rw [zF (show ¬ (l.length : Int) < ((at_ + 1 : Nat) : Int) by omega), zD, zT (show (0 : Int) <= (at_ : Int) by omega), zC, zT (show (at_ : Int) < l.length by omega), zC]; by_cases c3 : l.length < at_ + 2
         · have z2 := z19 (show l.length <= at_ + 1 by omega) 513; rw [zT (show (l.length : Int) < ((at_ + 2 : Nat) : Int) by omega), zC, zT (by simp only [List.length_singleton]; omega), zC, zT (by simp only [List.length_singleton]; omega), zC, z2]; rw [ih (at_ + 2) (by omega) _ (by omega) _ _ (by simp only [List.length_append, List.length_singleton]; omega) (by simp only [List.length_append, List.length_singleton]; omega)]; simp
         · rw [zF (show ¬ (l.length : Int) < ((at_ + 2 : Nat) : Int) by omega), zD, zT (show (0 : Int) <= ((at_ + 1 : Nat) : Int) by omega), zC, zT (show ((at_ + 1 : Nat) : Int) < l.length by omega), zC, zT (by simp only [List.length_singleton]; omega), zC, zT (by simp only [List.length_singleton]; omega), zC]; rw [ih (at_ + 2) (by omega) _ (by omega) _ _ (by simp only [List.length_append, List.length_singleton]; omega) (by simp only [List.length_append, List.length_singleton]; omega)]; simp
     · simp only [zF c2, zD, if_neg c2]; by_cases c1 : l.length < at_ + 1
       · have z := z19 (show l.length <= at_ by omega) 10; rw [zT (show (l.length : Int) < ((at_ + 1 : Nat) : Int) by omega), zC, z, zf (n := key + 1 + 0) (by omega) (by omega)]; rw [ih (at_ + 1) (by omega) _ (by omega) _ _ (by simp only [List.length_append, List.length_singleton]; omega) (by omega)]; simp
       · rw [zF (show ¬ (l.length : Int) < ((at_ + 1 : Nat) : Int) by omega), zD, zT (show (0 : Int) <= (at_ : Int) by omega), zC, zT (show (at_ : Int) < l.length by omega), zC]; rw [ih (at_ + 1) (by omega) _ (by omega) _ _ (by simp only [List.length_append, List.length_singleton]; omega) (by omega)]; simp
   · rw [zF hk, zD, if_neg hk]; simp
theorem zwu {l : List Int} (hl : U16 l) (hn : l.length < 9223372036854775808) : zcu l = some (madeT l) := by
 refine z0e 10 fun N hN => ?_
 have q0 := z8u hl 0 (n := 2) (by omega); have q1 := z8u hl 1 (n := 60000) (by omega); have q2 := z8u hl 2 (n := 1000) (by omega); have q3 := z8u hl 3 (n := 20) (by omega); have q4 := z8u hl 4 (n := 8) (by omega); have key := fun kind seq => z062 hl hn (kind := kind) (seq := seq) (pk l 4 8 + 1).toNat N 5 (pk l 4 8) (pk l 3 20) 5 [] [] (by omega) rfl (by omega) (by omega) (by omega) (by omega) (by simp; omega) (by simp; omega) (by omega)
 simp only [List.nil_append] at key; have hm : 0 <= pk l 1 60000 * (1 + pk l 2 1000) /\ pk l 1 60000 * (1 + pk l 2 1000) <= 60000 * 1001 := by
  refine ⟨Int.mul_nonneg q1.1 (by omega), Int.mul_le_mul (by omega) (by omega) (by omega) (by omega)⟩
 have w0 : w64 (1 + pk l 0 2) = 1 + pk l 0 2 := zf (by omega) (by omega); have w1 : w64 (1 + pk l 2 1000) = 1 + pk l 2 1000 := zf (by omega) (by omega); have w2 : w64 (pk l 1 60000 * (1 + pk l 2 1000)) = pk l 1 60000 * (1 + pk l 2 1000) := zf (by omega) (by omega); unfold zct madeT; simp only [z061 hl, w0, w1, w2]; by_cases c1 : l.length < 1
 · simp only [z19 (show l.length <= 0 by omega), z19 (show l.length <= 1 by omega), z19 (show l.length <= 2 by omega), z19 (show l.length <= 3 by omega), z19 (show l.length <= 4 by omega)] at key ⊢; rw [zT (show (l.length : Int) < 1 by omega), zC, zT (show (l.length : Int) < 2 by omega), zC, zT (show (l.length : Int) < 3 by omega), zC, zT (show (l.length : Int) < 4 by omega), zC, zT (show (l.length : Int) < 5 by omega), zC]; exact key 1 0
 · rw [zF (show ¬ (l.length : Int) < 1 by omega), zD, zT (show (0 : Int) < l.length by omega), zC]; by_cases c2 : l.length < 2
   · simp only [z19 (show l.length <= 1 by omega), z19 (show l.length <= 2 by omega), z19 (show l.length <= 3 by omega), z19 (show l.length <= 4 by omega)] at key ⊢; rw [zT (show (l.length : Int) < 2 by omega), zC, zT (show (l.length : Int) < 3 by omega), zC, zT (show (l.length : Int) < 4 by omega), zC, zT (show (l.length : Int) < 5 by omega), zC]; exact key _ 0
   · rw [zF (show ¬ (l.length : Int) < 2 by omega), zD, zT (show (1 : Int) < l.length by omega), zC]; by_cases c3 : l.length < 3
     · simp only [z19 (show l.length <= 2 by omega), z19 (show l.length <= 3 by omega), z19 (show l.length <= 4 by omega)] at key ⊢; rw [zT (show (l.length : Int) < 3 by omega), zC, zT (show (l.length : Int) < 4 by omega), zC, zT (show (l.length : Int) < 5 by omega), zC, zf (n := pk l 1 60000 * 1) (by omega) (by omega)]; exact key _ _
     · rw [zF (show ¬ (l.length : Int) < 3 by omega), zD, zT (show (2 : Int) < l.length by omega), zC]; by_cases c4 : l.length < 4
       · simp only [z19 (show l.length <= 3 by omega), z19 (show l.length <= 4 by omega)] at key ⊢; rw [zT (show (l.length : Int) < 4 by omega), zC, zT (show (l.length : Int) < 5 by omega), zC]; exact key _ _
       · rw [zF (show ¬ (l.length : Int) < 4 by omega), zD, zT (show (3 : Int) < l.length by omega), zC]; by_cases c5 : l.length < 5
         · simp only [z19 (show l.length <= 4 by omega)] at key ⊢; rw [zT (show (l.length : Int) < 5 by omega), zC]; exact key _ _
         · rw [zF (show ¬ (l.length : Int) < 5 by omega), zD, zT (show (4 : Int) < l.length by omega), zC]; exact key _ _
theorem zzg (l : List Int) (kind : Int) : ∀ (n a : Nat) (key : Int), (mkL l kind n a key).1.length <= n /\ (mkL l kind n a key).2.length <= n
 | 0, a, key => by simp [mkL]
 | n + 1, a, key => by
   unfold mkL; split
   · split
     · have := zzg l kind n (a + 2) (key + 1 + pk l a 10); simp only [List.length_cons]; omega
     · have := zzg l kind n (a + 1) (key + 1 + pk l a 10); simp only [List.length_cons]; omega
   · simp
theorem z083 {l : List Int} (hl : U16 l) : RecOk (madeT l) /\ (madeT l).keys.length <= 8 := by
 have q4 := z8u hl 4 (n := 8) (by omega); have := zzg l (1 + pk l 0 2) (pk l 4 8 + 1).toNat 5 (pk l 3 20); unfold madeT RecOk; simp only; omega
end Clk
namespace Clk
open Go
theorem z084 (r : Record) (data : Str) : (encT r data).1.length <= 204 := by
 unfold encT; split
 · simp
 · rename_i h; have := zoe (r := r) (by cases hr : z2u r with
    | true => rfl
    | false => exact absurd (.inl hr) h)
   simp only [List.length_append, bytes4, List.length_cons, List.length_nil]; omega
theorem z00w {w : Write} (h : WriteOk w) : PageOk (makeT w).1 := by
 have := z084 w.record w.data; unfold makeT; split
 · exact ⟨by simp, by simp⟩
 · exact ⟨by simp only; omega, h.2⟩
def pgT (seq : Int) (l : List Int) : Page := (makeT ⟨[100], ⟨(madeT l).kind, seq, (madeT l).keys, (madeT l).values⟩⟩).1
theorem z0aq {l : List Int} (hl : U16 l) (seq : Int) : WriteOk ⟨[100], ⟨(madeT l).kind, seq, (madeT l).keys, (madeT l).values⟩⟩ := ⟨(z083 hl).1, by simp⟩
theorem zwv {seq : Int} {l : List Int} (hl : U16 l) (hn : l.length < 9223372036854775808) : z85 (seq, l) = some (pgT seq l) := by
 show z84 seq l = _; unfold z84; rw [zwu hl hn, z8, zwo (z0aq hl seq)]; rfl
def z0b (l : List Int) (a : Nat) : Nat := min (a + 1 + (l.getD a 0).toNat / 50 % 8) l.length
def stepC (l : List Int) (m : Int) (a : Nat) (c : Chip) : Chip :=
 let n := l.getD a 0
 let page := pgT (n / 7 % 30) ((l.drop a).take (z0b l a - a))
 let f : Fate := if n % 11 = 0 then ⟨1, [120], page.tag, 0⟩ else z2p
 let c1 := if n % 29 = 0 then (eraT c (n % m) z2p).1 else c
 let r := progT c1 (n % m) (nextOf c1 (n % m)) page f
 if r.2 = 1 then c1 else r.1
def chipL (l : List Int) (m : Int) : Nat -> Nat -> Chip -> Chip
 | 0, _, c => c
 | k + 1, a, c => if a < l.length then chipL l m k (max (z0b l a) (a + 1)) (stepC l m a c) else c
def chipT (l : List Int) (blocks pages : Int) : Chip := chipL l blocks 40 0 (newT blocks pages []).1
theorem zok {c : Chip} (h : z0f c) (b : Int) (f : Fate) : z0f (eraT c b f).1 /\ (eraT c b f).1.blocks.length = c.blocks.length := by
 unfold eraT; split
 · exact ⟨h, rfl⟩
 · split
   · rename_i hc; unfold canEra at hc; simp only [Bool.and_eq_true, decide_eq_true_eq] at hc; refine ⟨⟨by simpa using h.1, fun x hx => ?_⟩, by simp⟩; rcases List.mem_or_eq_of_mem_set hx with h3 | rfl
     · exact h.2 x h3
     · have := h.get (show b.toNat < c.blocks.length by omega) default; unfold z8s; split
       · exact this
       · simp only [ztk]; exact this
   · exact ⟨h, rfl⟩
theorem z063 (all : Bool) (n : Int) : ∀ (i : Nat) (l : List Page), (∀ p ∈ l, PageOk p) -> ∀ p ∈ clrT all n i l, PageOk p
 | _, [], _, p, hp => by cases hp
 | i, q :: l, h, p, hp => by
   unfold clrT at hp; rcases List.mem_cons.1 hp with rfl | hp
   · split
     · exact ⟨by simp [z5u], by simp [z5u]⟩
     · exact h _ List.mem_cons_self
   · exact z063 all n (i + 1) l (fun x hx => h x (List.mem_cons_of_mem _ hx)) p hp
theorem zjk {c : Chip} (h : PagesOk c) (b : Int) (f : Fate) : PagesOk (eraT c b f).1 := by
 unfold eraT; split
 · exact h
 · split
   · rename_i hc; unfold canEra at hc; simp only [Bool.and_eq_true, decide_eq_true_eq] at hc; intro x hx; rcases List.mem_or_eq_of_mem_set hx with h3 | rfl
     · exact h x h3
     · have := h _ (z07 (d := default) (show b.toNat < c.blocks.length by omega)); unfold z8s; split
       · exact this
       · exact z063 _ _ 0 _ this
   · exact h
theorem zol {c : Chip} (h : PagesOk c) (b p : Int) {page : Page} {f : Fate} (hp : PageOk page) (hf : f.tag.length < 4294967296 /\ f.data.length < 4294967296) : PagesOk (progT c b p page f).1 := by
 unfold progT; split
 · exact h
 · split
   · rename_i hc; obtain ⟨h1, h2, _⟩ := z4s.1 hc; intro x hx; rcases List.mem_or_eq_of_mem_set hx with h3 | rfl
     · exact h x h3
     · have h4 := h _ (z07 (d := default) (show b.toNat < c.blocks.length by omega)); unfold z5e; intro q hq; rcases List.mem_or_eq_of_mem_set hq with h5 | rfl
       · exact h4 q h5
       · split
         · exact ⟨hp.1, hp.2⟩
         · exact hf
   · exact h
theorem U16.sub {l m : List Int} (h : U16 l) (hm : ∀ n ∈ m, n ∈ l) : U16 m := fun n hn => h n (hm n hn)
theorem U16.part {l : List Int} (h : U16 l) (a k : Nat) : U16 ((l.drop a).take k) := h.sub fun n hn => List.mem_of_mem_drop (List.mem_of_mem_take hn)
structure CI (c : Chip) (m : Int) : Prop where
 ok : z0f c
 pages : PagesOk c
 len : (c.blocks.length : Int) = m
theorem z00x {l : List Int} (hl : U16 l) {m : Int} {a : Nat} {c : Chip} (h : CI c m) : CI (stepC l m a c) m := by
 have h1 : CI (if l.getD a 0 % 29 = 0 then (eraT c (l.getD a 0 % m) z2p).1 else c) m := by
  split
  · exact ⟨(zok h.ok _ _).1, zjk h.pages _ _, by rw [(zok h.ok _ _).2]; exact h.len⟩
  · exact h
 have h2 : PageOk (pgT (l.getD a 0 / 7 % 30) ((l.drop a).take (z0b l a - a))) := z00w (z0aq (hl.part a _) _); have h3 : (if l.getD a 0 % 11 = 0 then (⟨1, [120], (pgT (l.getD a 0 / 7 % 30) ((l.drop a).take (z0b l a - a))).tag, 0⟩ : Fate) else z2p).tag.length < 4294967296 /\ (if l.getD a 0 % 11 = 0 then (⟨1, [120], (pgT (l.getD a 0 / 7 % 30) ((l.drop a).take (z0b l a - a))).tag, 0⟩ : Fate) else z2p).data.length < 4294967296 := by
  split
  · exact ⟨h2.1, by simp⟩
  · exact ⟨by simp [z2p], by simp [z2p]⟩
 unfold stepC; simp only; generalize (if l.getD a 0 % 29 = 0 then (eraT c (l.getD a 0 % m) z2p).1 else c) = c1 at h1; generalize (if l.getD a 0 % 11 = 0 then (⟨1, [120], (pgT (l.getD a 0 / 7 % 30) ((l.drop a).take (z0b l a - a))).tag, 0⟩ : Fate) else z2p) = f at h3; split
 · exact h1
 · exact ⟨z082 h1.ok _ _ _ _, zol h1.pages _ _ h2 h3, by rw [zkw]; exact h1.len⟩
theorem zhy {l : List Int} (hl : U16 l) (hn : l.length < 9223372036854775808) {m : Int} (hm : 0 < m) (hm2 : m < 4294967296) : ∀ (k N a : Nat) (ai i : Int) (c : Chip), ai = a -> i = 40 - (k : Int) -> k <= 40 -> a + 10 * k <= 400 -> CI c m -> k < N -> zd z15 N (l, m, ai, i, c) = some (chipL l m k a c)
 | k, 0, _, _, _, _, _, _, _, _, _, h => by omega
 | 0, N + 1, a, ai, i, c, h1, h2, _, _, _, _ => by
   rw [z6, z86]; unfold z3u; simp only [chipL]; rw [zF (by omega), zD]
 | k + 1, N + 1, a, ai, i, c, h1, h2, h3, ha4, h4, h5 => by
   subst h1; rw [z6, z86]; unfold z3u; simp only [Int.toNat_natCast, chipL]; rw [zT (show i < 40 by omega), zC]; by_cases ha : a < l.length
   · rw [zT (show (a : Int) < l.length by omega), zC, if_pos ha]; have hg := hl.get a; have hci := z00x hl (a := a) h4; have hna : z0b l a <= a + 10 := by unfold z0b; omega
     have ih := zhy hl hn hm hm2 k N (max (z0b l a) (a + 1)) ((max (z0b l a) (a + 1) : Nat) : Int) (w64 (i + 1)) _ rfl (by rw [zf (by omega) (by omega)]; omega) (by omega) (by omega) hci (by omega); rw [<- ih]; obtain ⟨q, hq⟩ : ∃ q : Nat, l.getD a 0 = q := ⟨(l.getD a 0).toNat, by omega⟩; have hnx : z0b l a = min (a + 1 + q / 50 % 8) l.length := by unfold z0b; rw [hq]; rfl
     have b0 : ∀ m : Int, 0 < m -> Int.tmod (q : Int) m = (q : Int) % m := fun m hm => Int.tmod_eq_emod_of_nonneg (by omega)
     have bm : 0 <= (q : Int) % m /\ (q : Int) % m < m := ⟨Int.emod_nonneg _ (by omega), Int.emod_lt_of_pos _ hm⟩; have d50 : Int.tdiv (q : Int) 50 = ((q / 50 : Nat) : Int) := zen q 50; have d7 : Int.tdiv (q : Int) 7 = ((q / 7 : Nat) : Int) := zen q 7; have m8 : Int.tmod ((q / 50 : Nat) : Int) 8 = ((q / 50 % 8 : Nat) : Int) := zbo (q / 50) 8; have m30 : Int.tmod ((q / 7 : Nat) : Int) 30 = ((q / 7 % 30 : Nat) : Int) := zbo (q / 7) 30; have m11 : Int.tmod (q : Int) 11 = (q : Int) % 11 := b0 11 (by omega); have m29 : Int.tmod (q : Int) 29 = (q : Int) % 29 := b0 29 (by omega); have emin : min (w64 (w64 ((a : Int) + 1) + ((q / 50 % 8 : Nat) : Int))) (l.length : Int) = ((z0b l a : Nat) : Int) := by
      rw [zf (n := (a : Int) + 1) (by omega) (by omega), zf (by omega) (by omega), hnx]; omega
     have eseq : ((q / 7 % 30 : Nat) : Int) = l.getD a 0 / 7 % 30 := by rw [hq]; omega
     have hpage : z85 (((q / 7 % 30 : Nat) : Int), (l.drop a).take (Int.toNat ((z0b l a : Nat) : Int) - a)) = some (pgT (l.getD a 0 / 7 % 30) ((l.drop a).take (z0b l a - a))) := by
      rw [zwv (hl.part a _) (by simp only [List.length_take, List.length_drop]; omega), eseq, Int.toNat_natCast]
     have emax : max ((z0b l a : Nat) : Int) (w64 ((a : Int) + 1)) = ((max (z0b l a) (a + 1) : Nat) : Int) := by rw [zf (n := (a : Int) + 1) (by omega) (by omega)]; omega
     have wi : w64 (i + 1) = i + 1 := zf (by omega) (by omega); simp only [hq]; rw [zf (n := (q : Int)) (by omega) (by omega), d50, d7, zf (n := ((q / 50 : Nat) : Int)) (by omega) (by omega), zf (n := ((q / 7 : Nat) : Int)) (by omega) (by omega), m8, m30, m11, m29, b0 m hm, emin, emax, hpage]; simp only [z8, ztl h4.ok]; rw [zT (show (0 : Int) <= a by omega), zF (show ¬ m = 0 by omega), zT (show (a : Int) <= ((z0b l a : Nat) : Int) by rw [hnx]; omega), zT (show ((z0b l a : Nat) : Int) <= l.length by rw [hnx]; omega), zT bm.1]; simp only [zC, Bool.not_false]; have fin : ∀ (c1 : Chip) (f : Fate), CI c1 m -> c1 = (if l.getD a 0 % 29 = 0 then (eraT c (l.getD a 0 % m) z2p).1 else c) -> f = (if l.getD a 0 % 11 = 0 then (⟨1, [120], (pgT (l.getD a 0 / 7 % 30) ((l.drop a).take (z0b l a - a))).tag, 0⟩ : Fate) else z2p) ->
      (cond (decide ((q : Int) % m < (c1.blocks.length : Int))) (Option.bind (z0o (c1, (q : Int) % m, (c1.blocks.getD (Int.toNat ((q : Int) % m)) default).next, pgT (l.getD a 0 / 7 % 30) ((l.drop a).take (z0b l a - a)), f)) fun r8 =>
      cond (!(decide (r8.2 = 1)))
       (zd z15 N (l, m, ((max (z0b l a) (a + 1) : Nat) : Int), (w64 (i + 1)), r8.1))
       (zd z15 N (l, m, ((max (z0b l a) (a + 1) : Nat) : Int), (w64 (i + 1)), c1))) none) = zd z15 N (l, m, ((max (z0b l a) (a + 1) : Nat) : Int), (w64 (i + 1)), stepC l m a c) := by
      intro c1 f hc1 e1 e2; have est : stepC l m a c = if (progT c1 ((q : Int) % m) (nextOf c1 ((q : Int) % m)) (pgT (l.getD a 0 / 7 % 30) ((l.drop a).take (z0b l a - a))) f).2 = 1 then c1 else (progT c1 ((q : Int) % m) (nextOf c1 ((q : Int) % m)) (pgT (l.getD a 0 / 7 % 30) ((l.drop a).take (z0b l a - a))) f).1 := by
       rw [e1, e2, <- hq]; rfl
      rw [zT (by rw [hc1.len]; exact bm.2), zC, zoi hc1.ok, z8, est]; show cond (!decide ((progT c1 ((q : Int) % m) (nextOf c1 ((q : Int) % m)) (pgT (l.getD a 0 / 7 % 30) ((l.drop a).take (z0b l a - a))) f).2 = 1)) _ _ = _; by_cases h : (progT c1 ((q : Int) % m) (nextOf c1 ((q : Int) % m)) (pgT (l.getD a 0 / 7 % 30) ((l.drop a).take (z0b l a - a))) f).2 = 1
      · rw [zT h, Bool.not_true, zD, if_pos h]
      · rw [zF h, Bool.not_false, zC, if_neg h]; rfl
     have hce : CI (eraT c ((q : Int) % m) z2p).1 m := ⟨(zok h4.ok _ _).1, zjk h4.pages _ _, by rw [(zok h4.ok _ _).2]; exact h4.len⟩; by_cases x11 : (q : Int) % 11 = 0
     · rw [zT x11, zC]; by_cases x29 : (q : Int) % 29 = 0
       · rw [zT x29, zC]; exact fin _ _ hce (by rw [hq, if_pos x29] <;> rfl) (by rw [hq, if_pos x11])
       · rw [zF x29, zD]; exact fin _ _ h4 (by rw [hq, if_neg x29]) (by rw [hq, if_pos x11])
     · rw [zF x11, zD]; by_cases x29 : (q : Int) % 29 = 0
       · rw [zT x29, zC]; exact fin _ _ hce (by rw [hq, if_pos x29] <;> rfl) (by rw [hq, if_neg x11]; rfl)
       · rw [zF x29, zD]; exact fin _ _ h4 (by rw [hq, if_neg x29]) (by rw [hq, if_neg x11]; rfl)
   · rw [zF (show ¬ (a : Int) < l.length by omega), zD, if_neg ha]
theorem z00y (n : Int) (bs : List Block) : newL n [] bs = (⟨bs, false, false, 0⟩, 0) := rfl
theorem ztn {g : Geometry} (hg : g ∈ z3h) : CI (newT g.blocks g.pages []).1 g.blocks /\ 0 < g.blocks /\ g.blocks < 4294967296 := by
 have : 1 <= g.blocks /\ g.blocks <= 32 /\ 1 <= g.pages /\ g.pages <= 16 := by
  simp only [z3h, List.mem_cons, List.not_mem_nil, or_false] at hg; rcases hg with rfl | rfl | rfl | rfl | rfl | rfl <;> decide
 obtain ⟨h1, h2⟩ := zze g.blocks g.pages []; refine ⟨⟨h1, h2, ?_⟩, by omega, by omega⟩; unfold newT; rw [if_neg (by omega), z00y]; simp only [List.length_replicate]; omega
theorem zww {l : List Int} (hl : U16 l) (hn : l.length < 9223372036854775808) {g : Geometry} (hg : g ∈ z3h) : z88 (l, g.blocks, g.pages) = some (chipT l g.blocks g.pages) := by
 obtain ⟨h1, h2, h3⟩ := ztn hg; refine z0e 41 fun N hN => ?_
 show z87 N l g.blocks g.pages = _; unfold z87 chipT; rw [zzc (by simp), z8]; exact zhy hl hn h2 h3 40 N 0 0 0 _ rfl (by omega) (by omega) (by omega) h1 (by omega)
theorem z00z {l : List Int} (hl : U16 l) {m : Int} : ∀ (k a : Nat) (c : Chip), CI c m -> CI (chipL l m k a c) m
 | 0, a, c, h => h
 | k + 1, a, c, h => by
   unfold chipL; split
   · exact z00z hl k _ _ (z00x hl h)
   · exact h
theorem z085 {l : List Int} (hl : U16 l) {g : Geometry} (hg : g ∈ z3h) : CI (chipT l g.blocks g.pages) g.blocks := z00z hl 40 0 _ (ztn hg).1
theorem za7 (n : Int) : smallT n ∈ z3h := zzf (P := (· ∈ z3h)) (fun g h => h) n
theorem z02x (c : Chip) (n : Int) : TabOk (replayT c n).1 := by
 obtain ⟨h1, h2⟩ := z00u (allT c) (tabT n) 0; have := z05z n; unfold replayT; exact ⟨by rw [h1]; exact this.1, by rw [h2]; exact this.2⟩
theorem zwx {g : Geometry} {c : Chip} (h : z0f c) : DevOk (mountT g c).1 := by
 unfold mountT; split
 · exact ⟨⟨by simp [zDev], fun b hb => by simp [zDev] at hb⟩, ⟨by simp [zDev], by simp [zDev]⟩⟩
 · split
   · exact ⟨⟨by simp [zDev], fun b hb => by simp [zDev] at hb⟩, ⟨by simp [zDev], by simp [zDev]⟩⟩
   · exact ⟨⟨h.1, h.2⟩, z02x c _⟩
theorem zr8 {g : Geometry} {bad : List Int} : DevOk (z20 g bad).1 := by
 unfold z20; split
 · exact ⟨⟨by simp [zDev], fun b hb => by simp [zDev] at hb⟩, ⟨by simp [zDev], by simp [zDev]⟩⟩
 · exact zwx (zze _ _ _).1
end Clk
namespace Clk
open Go
def fresh (g : Geometry) : Device :=
 ⟨g, ⟨List.replicate g.blocks.toNat ⟨List.replicate g.pages.toNat z5u, 0, 0, false⟩, false, false, 0⟩, ⟨List.replicate g.sectors.toNat (-1), List.replicate g.sectors.toNat (-1)⟩, 0, -1⟩
theorem zwy {α : Type} {l : List α} {i j : Nat} {x d : α} (h : i ≠ j) : (l.set i x).getD j d = l.getD j d := by
 rw [zI, List.getElem?_set_ne h, <- zI]
end Clk
namespace Clk
open Go
theorem zgh {n : Nat} (h : n < 256) : (UInt8.ofNat n).toNat = n := by simp; omega
theorem zwz : ∀ (f n acc u : Nat) (first : Bool) (rest : Str), n < 128 ^ (f + 1) -> acc + n * u <= 1099511627776 -> (first = true \/ 0 < n) -> takeN (f + 1) first acc u (putN f n ++ rest) = (((acc + n * u : Nat) : Int), rest, true)
 | 0, n, acc, u, first, rest, h1, h2, h3 => by
   have hn : n < 128 := by simpa using h1
   simp only [putN, List.singleton_append, takeN, zgh (show n < 256 by omega)]; rw [if_pos hn, if_neg]; rintro (h | ⟨h, h'⟩)
   · omega
   · rcases h3 with h3 | h3
     · rw [h3] at h; cases h
     · omega
 | f + 1, n, acc, u, first, rest, h1, h2, h3 => by
   unfold putN; by_cases hn : 127 < n
   · rw [if_pos hn]; simp only [List.cons_append, takeN, zgh (show 128 + n % 128 < 256 by omega)]; have e1 : (128 + n % 128) % 128 = n % 128 := by omega
     have e2 : acc + n % 128 * u + n / 128 * (u * 128) = acc + n * u := by
      have : n * u = n % 128 * u + n / 128 * (u * 128) := by
       have h := Nat.div_add_mod n 128; calc n * u = (128 * (n / 128) + n % 128) * u := by rw [h]
        _ = n % 128 * u + n / 128 * (u * 128) := by rw [Nat.add_mul, Nat.add_comm]; congr 1; rw [Nat.mul_comm 128, Nat.mul_assoc, Nat.mul_comm 128]
      omega
     rw [if_neg (by omega), e1, zwz f (n / 128) _ _ false rest (by rw [Nat.pow_succ] at h1; omega) (by rw [e2]; exact h2) (.inr (by omega)), e2]
   · rw [if_neg hn]; simp only [List.singleton_append, takeN, zgh (show n < 256 by omega)]; rw [if_pos (by omega), if_neg]; rintro (h | ⟨h, h'⟩)
     · omega
     · rcases h3 with h3 | h3
       · rw [h3] at h; cases h
       · omega
def Small40 (n : Int) : Prop := 0 <= n /\ n <= 1099511627776
theorem zx0 {n : Int} (h : Small40 n) (rest : Str) : z7q (putV n ++ rest) = (n, rest, true) := by
 unfold putV z7q; rw [if_neg (by have := h.1; have := h.2; omega)]; obtain ⟨h1, h2⟩ := h; rw [zwz 5 n.toNat 0 1 true rest (by have : (128 : Nat) ^ (5 + 1) = 4398046511104 := rfl; omega) (by omega) (.inl rfl)]; have : ((0 + n.toNat * 1 : Nat) : Int) = n := by omega
 rw [this]
def flatP (l : List Int) : Str := l.flatMap putV
theorem zr9 : ∀ (l : List Int) (s : Str), (∀ n ∈ l, Small40 n) -> packL l s = (s ++ flatP l, 0)
 | [], s, _ => by simp [packL, flatP]
 | n :: l, s, h => by
   obtain ⟨h1, h2⟩ := h n List.mem_cons_self; unfold packL; have : putV n ≠ [] := by unfold putV; rw [if_neg (by omega)]; exact zz8 5 _
   rw [if_neg this, zr9 l _ fun m hm => h m (List.mem_cons_of_mem _ hm)]; simp [flatP]
theorem zx1 : ∀ (l : List Int), (∀ n ∈ l, Small40 n) -> l.length <= (flatP l).length
 | [], _ => Nat.zero_le _
 | n :: l, h => by
   obtain ⟨h1, h2⟩ := h n List.mem_cons_self; have h3 := zx1 l fun m hm => h m (List.mem_cons_of_mem _ hm)
   have : putV n ≠ [] := by unfold putV; rw [if_neg (by omega)]; exact zz8 5 _
   have : 0 < (putV n).length := List.length_pos_iff.2 this; simp only [flatP, List.flatMap_cons, List.length_append, List.length_cons] at h3 ⊢; omega
theorem zkx : ∀ (l : List Int) (rest : Str) (acc : List Int), (∀ n ∈ l, Small40 n) -> unpackL l.length (flatP l ++ rest) acc = (acc ++ l, rest, 0)
 | [], rest, acc, _ => by simp [unpackL, flatP]
 | n :: l, rest, acc, h => by
   have e : flatP (n :: l) ++ rest = putV n ++ (flatP l ++ rest) := by simp [flatP]
   simp only [List.length_cons, unpackL, e, zx0 (h n List.mem_cons_self)]; rw [if_neg (by simp), zkx l rest _ fun m hm => h m (List.mem_cons_of_mem _ hm)]; simp
theorem zgi {l : List Int} (hl : ∀ n ∈ l, Small40 n) (hn : l.length <= 1099511627776) (rest : Str) : ze ((packT l).1 ++ rest) = (l, rest, 0) := by
 have hf := zx1 l hl; have e : (packT l).1 ++ rest = putV l.length ++ (flatP l ++ rest) := by unfold packT; rw [zr9 l _ hl]; simp
 unfold ze; rw [e, zx0 ⟨by omega, by omega⟩]; simp only; rw [if_neg (by simp; omega), Int.toNat_natCast, zkx l rest [] hl]; simp
theorem z0br {l : List Int} (h : l.all vr = true) : mvT (zgg 1 l) = l := by
 unfold mvT zgg; rw [List.map_map]; conv => rhs; rw [<- List.map_id l]
 refine List.map_congr_left fun n hn => ?_
 have := ztj h n hn; show w64 (w64 (n + 1) - 1) = n; rw [zf (n := n + 1) (by omega) (by omega), zf (by omega) (by omega)]; omega
theorem z0ar {r : Record} {data : Str} (h : z2u r = true) (hd : data.length <= 16) : decT (encT r data).1 data = (r, 0) := by
 obtain ⟨k0, k1, k2, k3, k4, k5, k6, k7⟩ := zep h; have hk : ∀ n ∈ r.keys, Small40 n := fun n hn => by have := zof k7 n hn; exact ⟨by omega, by omega⟩
 have hv : ∀ n ∈ zgg 1 r.values, Small40 n := fun n hn => by
  unfold zgg at hn; obtain ⟨m, hm, rfl⟩ := List.mem_map.1 hn; have := ztj k6 m hm; rw [zf (by omega) (by omega)]; exact ⟨by omega, by omega⟩
 have hh : ∀ n ∈ [r.kind, r.seq], Small40 n := fun n hn => by
  simp only [List.mem_cons, List.not_mem_nil, or_false] at hn; rcases hn with rfl | rfl
  · exact ⟨by omega, by omega⟩
  · exact ⟨k3, k4⟩
 have hml : (zgg 1 r.values).length = r.values.length := by simp [zgg]
 have hE : encT r data = (bodyT r ++ bytes4 (crcT (bodyT r ++ data)), 0) := by
  unfold encT; rw [if_neg]; rintro (h1 | h1)
  · rw [h] at h1; cases h1
  · omega
 generalize hX : bytes4 (crcT (bodyT r ++ data)) = X at hE; have u1 : ze (encT r data).1 = ([r.kind, r.seq], (packT r.keys).1 ++ ((packT (zgg 1 r.values)).1 ++ X), 0) := by
  rw [hE]; unfold bodyT; simp only [List.append_assoc]; exact zgi hh (by simp) _
 have u2 : ze ((packT r.keys).1 ++ ((packT (zgg 1 r.values)).1 ++ X)) = (r.keys, (packT (zgg 1 r.values)).1 ++ X, 0) := zgi hk (by omega) _; have u3 : ze ((packT (zgg 1 r.values)).1 ++ X) = (zgg 1 r.values, X, 0) := zgi hv (by omega) _; have hr : (⟨r.kind, r.seq, r.keys, mvT (zgg 1 r.values)⟩ : Record) = r := by rw [z0br k6]
 unfold decT; rw [u1]; simp only; rw [u2]; simp only; rw [u3]; simp only [List.length_cons, List.length_nil]; rw [if_neg (by simp)]; have e0 : [r.kind, r.seq].getD 0 0 = r.kind := rfl; have e1 : [r.kind, r.seq].getD 1 0 = r.seq := rfl; rw [e0, e1, hr, if_neg]; rw [hE]; simp
theorem z02y {p : Page} (h : (lookT p).1 = 1) : z2u (lookT p).2 = true := by
 unfold lookT at h ⊢; split at h
 · simp at h
 · rename_i h1; rw [if_neg h1]; split at h
   · simp at h
   · rename_i h2; rw [if_neg h2]; simp only [ne_eq, Decidable.not_not] at h2; simp only; unfold decT at h2 ⊢; split at h2
     · simp at h2
     · rename_i h3; rw [if_neg h3]; split at h2
       · simp at h2
       · rename_i h4; rw [if_neg h4]; simp only; generalize hR : (⟨(ze p.tag).1.getD 0 0, (ze p.tag).1.getD 1 0, (ze (ze p.tag).2.1).1, mvT (ze (ze (ze p.tag).2.1).2.1).1⟩ : Record) = R at h4; cases hr : z2u R with
         | true => rfl
         | false =>
           exfalso; apply h4
           left; unfold encT; rw [if_pos (.inl hr)]; simp
def vv (b p : Nat) (pg : Page) : List Found := if (lookT pg).1 = 1 /\ 0 <= placeT b p then [⟨placeT b p, (lookT pg).2⟩] else []
def vp (b : Nat) : Nat -> List Page -> List Found
 | _, [] => []
 | p, pg :: l => vv b p pg ++ vp b (p + 1) l
def vb : Nat -> List Block -> List Found
 | _, [] => []
 | b, x :: l => vp b 0 x.pages ++ vb (b + 1) l
theorem zom (b : Nat) : ∀ (l : List Page) (p : Nat) (out : List Found), pagesT b p l out = (vp b p l).foldl insT out
 | [], p, out => rfl
 | pg :: l, p, out => by
   unfold pagesT vp vv; rw [zom b l (p + 1), List.foldl_append]; split <;> rfl
theorem ze5 : ∀ (l : List Block) (b : Nat) (out : List Found), blocksT b l out = (vb b l).foldl insT out
 | [], b, out => rfl
 | x :: l, b, out => by
   unfold blocksT vb; rw [ze5 l (b + 1), List.foldl_append, zom]
theorem z010 : ∀ (B l : List Found) (y : Found), y ∈ B.foldl insT l ↔ y ∈ l \/ y ∈ B
 | [], l, y => by simp
 | b :: B, l, y => by
   have hi : ∀ (l : List Found) (x : Found), y ∈ insT l x ↔ y = x \/ y ∈ l := by
    intro l x; induction l with
    | nil => simp [insT]
    | cons z l ih =>
      unfold insT; split
      · simp
      · simp only [List.mem_cons, ih]; constructor
        · rintro (h | h | h)
          · exact .inr (.inl h)
          · exact .inl h
          · exact .inr (.inr h)
        · rintro (h | h | h)
          · exact .inr (.inl h)
          · exact .inl h
          · exact .inr (.inr h)
   simp only [List.foldl_cons, z010 B, hi, List.mem_cons]; constructor
   · rintro ((h | h) | h)
     · exact .inr (.inl h)
     · exact .inl h
     · exact .inr (.inr h)
   · rintro (h | h | h)
     · exact .inl (.inr h)
     · exact .inl (.inl h)
     · exact .inr h
end Clk
namespace Clk
open Go
def BlkG (g : Geometry) (b : Block) : Prop := (b.pages.length : Int) = g.pages /\ 0 <= b.next /\ ∀ i : Nat, b.next <= i -> i < b.pages.length -> (b.pages.getD i default).written = false
structure ChipG (g : Geometry) (c : Chip) : Prop where
 len : (c.blocks.length : Int) = g.blocks
 each : ∀ b ∈ c.blocks, BlkG g b
 pages : PagesOk c
theorem zbp : ∀ g ∈ z3h, 1 <= g.blocks /\ g.blocks <= 32 /\ 1 <= g.pages /\ g.pages <= 16 /\ fitsT g = true := by
 intro g hg; simp only [z3h, List.mem_cons, List.not_mem_nil, or_false] at hg; rcases hg with rfl | rfl | rfl | rfl | rfl | rfl <;> decide
theorem ChipG.ok {g : Geometry} (hg : g ∈ z3h) {c : Chip} (h : ChipG g c) : z0f c := by
 obtain ⟨h1, h2, h3, h4, _⟩ := zbp g hg; refine ⟨by have := h.len; omega, fun b hb => ?_⟩; have := (h.each b hb).1; omega
theorem z064 {g : Geometry} (hg : g ∈ z3h) {bl : Block} (h : BlkG g bl) {p : Int} (h0 : 0 <= p) (h1 : p < bl.pages.length) (hn : bl.next = p) (page : Page) (f : Fate) : BlkG g (z5e bl p page f) := by
 obtain ⟨k1, k2, k3, k4, _⟩ := zbp g hg; obtain ⟨h2, h3, h4⟩ := h; have e : w64 (bl.next + 1) = bl.next + 1 := zf (by omega) (by omega); refine ⟨by simpa [z5e] using h2, by simp only [z5e, e]; omega, fun i hi hl => ?_⟩; simp only [z5e, e] at hi; simp only [z5e, List.length_set] at hl ⊢; rw [zwy (by omega)]; exact h4 i (by omega) hl
theorem z011 (n : Int) : ∀ (i : Nat) (l : List Page), ∀ p ∈ clrT true n i l, p = z5u
 | _, [], p, hp => by cases hp
 | i, q :: l, p, hp => by
   unfold clrT at hp; rcases List.mem_cons.1 hp with rfl | hp
   · rw [if_pos (.inl rfl)]
   · exact z011 n (i + 1) l p hp
theorem z086 {g : Geometry} {bl : Block} (h : BlkG g bl) : BlkG g (z8s bl z2p) := by
 unfold z8s; rw [if_neg (by decide)]; refine ⟨by simp only [ztk]; exact h.1, by simp only; rw [if_neg (by decide)]; omega, fun i _ hl => ?_⟩; have : (clrT (decide (z2p.kind = 0)) z2p.n 0 bl.pages).getD i default ∈ clrT true z2p.n 0 bl.pages := z07 hl; show ((clrT (decide (z2p.kind = 0)) z2p.n 0 bl.pages).getD i default).written = false; rw [z011 _ _ _ _ this]; rfl
theorem z087 {g : Geometry} (hg : g ∈ z3h) {c : Chip} (h : ChipG g c) (b p : Int) {page : Page} {f : Fate} (hp : PageOk page) (hf : f.tag.length < 4294967296 /\ f.data.length < 4294967296) : ChipG g (progT c b p page f).1 := by
 refine ⟨by rw [zkw]; exact h.len, ?_, zol h.pages b p hp hf⟩; unfold progT; split
 · exact h.each
 · split
   · rename_i hc; obtain ⟨h1, h2, h3, h4, h5, h6, _⟩ := z4s.1 hc; intro x hx; rcases List.mem_or_eq_of_mem_set hx with h7 | rfl
     · exact h.each x h7
     · exact z064 hg (h.each _ (z07 (by omega))) h3 h4 h6 _ _
   · exact h.each
theorem z0as {g : Geometry} (hg : g ∈ z3h) {c : Chip} (h : ChipG g c) (b : Int) : ChipG g (eraT c b z2p).1 := by
 refine ⟨by rw [(zok (h.ok hg) b z2p).2]; exact h.len, ?_, zjk h.pages b z2p⟩; unfold eraT; split
 · exact h.each
 · split
   · rename_i hc; unfold canEra at hc; simp only [Bool.and_eq_true, decide_eq_true_eq] at hc; intro x hx; rcases List.mem_or_eq_of_mem_set hx with h7 | rfl
     · exact h.each x h7
     · exact z086 (h.each _ (z07 (by omega)))
   · exact h.each
theorem z088 {g : Geometry} (hg : g ∈ z3h) {l : List Int} (hl : U16 l) {m : Int} {a : Nat} {c : Chip} (h : ChipG g c) : ChipG g (stepC l m a c) := by
 have h1 : ChipG g (if l.getD a 0 % 29 = 0 then (eraT c (l.getD a 0 % m) z2p).1 else c) := by
  split
  · exact z0as hg h _
  · exact h
 have h2 : PageOk (pgT (l.getD a 0 / 7 % 30) ((l.drop a).take (z0b l a - a))) := z00w (z0aq (hl.part a _) _); have h3 : (if l.getD a 0 % 11 = 0 then (⟨1, [120], (pgT (l.getD a 0 / 7 % 30) ((l.drop a).take (z0b l a - a))).tag, 0⟩ : Fate) else z2p).tag.length < 4294967296 /\ (if l.getD a 0 % 11 = 0 then (⟨1, [120], (pgT (l.getD a 0 / 7 % 30) ((l.drop a).take (z0b l a - a))).tag, 0⟩ : Fate) else z2p).data.length < 4294967296 := by
  split
  · exact ⟨h2.1, by simp⟩
  · exact ⟨by simp [z2p], by simp [z2p]⟩
 unfold stepC; simp only; generalize (if l.getD a 0 % 29 = 0 then (eraT c (l.getD a 0 % m) z2p).1 else c) = c1 at h1; generalize (if l.getD a 0 % 11 = 0 then (⟨1, [120], (pgT (l.getD a 0 / 7 % 30) ((l.drop a).take (z0b l a - a))).tag, 0⟩ : Fate) else z2p) = f at h3; split
 · exact h1
 · exact z087 hg h1 _ _ h2 h3
theorem z012 {g : Geometry} (hg : g ∈ z3h) {l : List Int} (hl : U16 l) {m : Int} : ∀ (k a : Nat) (c : Chip), ChipG g c -> ChipG g (chipL l m k a c)
 | 0, a, c, h => h
 | k + 1, a, c, h => by
   unfold chipL; split
   · exact z012 hg hl k _ _ (z088 hg hl h)
   · exact h
theorem z0at {g : Geometry} (hg : g ∈ z3h) : ChipG g (newT g.blocks g.pages []).1 := by
 obtain ⟨k1, k2, k3, k4, _⟩ := zbp g hg; refine ⟨(ztn hg).1.len, ?_, (ztn hg).1.pages⟩; unfold newT; rw [if_neg (by omega), z00y]; intro b hb; obtain ⟨_, rfl⟩ := List.mem_replicate.1 hb; refine ⟨by simp only [List.length_replicate]; omega, by simp only; omega, fun i _ hl => ?_⟩; have : (List.replicate g.pages.toNat z5u).getD i default ∈ List.replicate g.pages.toNat z5u := z07 hl; show ((List.replicate g.pages.toNat z5u).getD i default).written = false; rw [(List.mem_replicate.1 this).2]; rfl
theorem z089 {g : Geometry} (hg : g ∈ z3h) {l : List Int} (hl : U16 l) : ChipG g (chipT l g.blocks g.pages) := z012 hg hl 40 0 _ (z0at hg)
theorem z013 {g : Geometry} : ∀ (l : List Block) (i : Nat) (o : Int), (∀ b ∈ l, BlkG g b) -> ∃ o', mtL g i l o = some o'
 | [], i, o, _ => ⟨o, rfl⟩
 | b :: l, i, o, h => by
   unfold mtL; rw [if_neg (by have := (h b List.mem_cons_self).1; simp [this])]; exact z013 l _ _ fun x hx => h x (List.mem_cons_of_mem _ hx)
theorem z08a {g : Geometry} (hg : g ∈ z3h) {c : Chip} (h : ChipG g c) : ∃ o, mountT g c = (⟨g, onT c, (replayT c g.sectors).1, (replayT c g.sectors).2, o⟩, 0) := by
 obtain ⟨_, _, _, _, hf⟩ := zbp g hg; obtain ⟨o, ho⟩ := z013 (g := g) c.blocks 0 (-1) h.each; refine ⟨o, ?_⟩; unfold mountT; rw [if_neg (by rw [hf]; simp [h.len]), ho]
end Clk
namespace Clk
open Go
theorem zto (n : Int) (r : Str) (ok : Bool) : z6f (n, r, ok) = some (if ok = false \/ 1099511627776 < n then (0, [], false) else (n, r, true)) := by
 show z6e n r ok = _; unfold z6e; cases ok with
 | false => simp
 | true =>
   by_cases h : 1099511627776 < n
   · rw [zT h, if_pos (.inr h)]; rfl
   · rw [zF h, if_neg (by simp; omega)]; rfl
theorem z02z : (List.range 256).map (fun c : Nat => w64 (bAndNot .i64 (w64 (c : Int)) 128)) = (List.range 256).map (fun c : Nat => ((c % 128 : Nat) : Int)) := by kernel_rfl
theorem z0au : (List.range 6).map (fun k : Nat => (w64 (7 * (k : Int)), (2 : Int) ^ (min (Int.toNat (w64 (7 * (k : Int)))) 64))) = (List.range 6).map (fun k : Nat => (((7 * k : Nat) : Int), ((128 ^ k : Nat) : Int))) := by kernel_rfl
theorem z065 {c : Nat} (h : c < 256) : w64 (bAndNot .i64 (w64 (c : Int)) 128) = ((c % 128 : Nat) : Int) := by
 have := congrArg (fun l => l[c]?) z02z; simpa only [List.getElem?_map, List.getElem?_range h, Option.map_some, Option.some.injEq] using this
theorem pow7 {k : Nat} (h : k < 6) : w64 (7 * (k : Int)) = ((7 * k : Nat) : Int) /\ (2 : Int) ^ (min (Int.toNat (w64 (7 * (k : Int)))) 64) = ((128 ^ k : Nat) : Int) := by
 have := congrArg (fun l => l[k]?) z0au; simp only [List.getElem?_map, List.getElem?_range h, Option.map_some, Option.some.injEq, Prod.mk.injEq] at this; exact this
theorem z0bs {n m k : Nat} (h : n < 128 ^ k) : n ||| m * 128 ^ k = n + m * 128 ^ k := by
 have e : 128 ^ k = 2 ^ (7 * k) := by rw [Nat.pow_mul]
 rw [e] at h ⊢; have := Nat.two_pow_add_eq_or_of_lt h m; rw [Nat.or_comm, Nat.mul_comm m, <- this]; omega
theorem zky {s : Str} (hs : s.length < 4294967296) : ∀ (f N : Nat) (l : Str) (n k : Nat) (i cnt : Int), s.drop k = l -> i = k -> cnt = min (s.length : Int) 6 -> k + f = 6 -> n < 128 ^ k -> f < N -> zd z99 N (s, n, cnt, i) = some (takeN f (k == 0) n (128 ^ k) l)
 | f, 0, _, _, _, _, _, _, _, _, _, _, h => by omega
 | 0, N + 1, l, n, k, i, cnt, h1, h2, hc, h3, h4, h6 => by
   rw [z6, z4l]; unfold z2t; simp only [takeN]; rw [zF (show ¬ i < cnt by omega), zD]
 | f + 1, N + 1, [], n, k, i, cnt, h1, h2, hc, h3, h4, h6 => by
   have := zp h1; rw [z6, z4l]; unfold z2t; simp only [takeN]; rw [zF (show ¬ i < cnt by omega), zD]
 | f + 1, N + 1, c :: l, n, k, i, cnt, h1, h2, hcn, h3, h4, h6 => by
   obtain ⟨g1, g2, g3⟩ := zk h1; subst h2; have hc := z07u c; have hu : 128 ^ k <= 34359738368 := Nat.le_trans (Nat.pow_le_pow_right (by omega) (show k <= 5 by omega)) (by decide); have hu0 : 0 < 128 ^ k := Nat.pow_pos (by omega); have hm2 : c.toNat % 128 * 128 ^ k <= 127 * 128 ^ k := Nat.mul_le_mul (by omega) (Nat.le_refl _); obtain ⟨p1, p2⟩ := pow7 (show k < 6 by omega); have hor : w64 (bOr .i64 (n : Int) (w64 ((w64 (bAndNot .i64 (w64 (c.toNat : Int)) 128)) * 2 ^ (min (Int.toNat (w64 (7 * (k : Int)))) 64)))) = ((n + c.toNat % 128 * 128 ^ k : Nat) : Int) := by
    rw [z065 hc, p2]; have e2 : ((c.toNat % 128 : Nat) : Int) * ((128 ^ k : Nat) : Int) = ((c.toNat % 128 * 128 ^ k : Nat) : Int) := by push_cast; rfl
    rw [e2, zf (n := ((c.toNat % 128 * 128 ^ k : Nat) : Int)) (by omega) (by omega), z05k (k := .i64) (show n < 2 ^ 64 by omega) (show c.toNat % 128 * 128 ^ k < 2 ^ 64 by omega), z0bs h4, zf (by omega) (by omega)]
   rw [z6, z4l]; unfold z2t; simp only [Int.toNat_natCast, g2, takeN]; rw [zT (show (k : Int) < cnt by omega), zT (show (k : Int) < s.length by omega), zT (show (0 : Int) <= k by omega), p1, zT (show (0 : Int) <= ((7 * k : Nat) : Int) by omega)]; rw [p1] at hor; simp only [Int.toNat_natCast] at hor ⊢; rw [hor, zf (n := (c.toNat : Int)) (by omega) (by omega), zf (n := (k : Int) + 1) (by omega) (by omega)]; simp only [zC, zto, z8]; have e4 : Int.toNat ((k : Int) + 1) = k + 1 := by omega
   by_cases h7 : c.toNat < 128
   · have e3 : c.toNat % 128 = c.toNat := Nat.mod_eq_of_lt h7; rw [zT (show (c.toNat : Int) < 128 by omega), zC, if_pos h7, zT (show (0 : Int) <= (k : Int) + 1 by omega), zT (show (k : Int) + 1 <= s.length by omega), e4, g3, e3]; simp only [zC]; by_cases h9 : k = 0
     · subst h9; rw [zT (show ((0 : Nat) : Int) = 0 from rfl), zC]; by_cases h8 : 1099511627776 < n + c.toNat * 128 ^ 0
       · rw [if_pos (.inr (by omega)), if_pos (.inl h8)]
       · rw [if_neg (by simp; omega), if_neg (by simp; omega)]
     · rw [zF (show ¬ (k : Int) = 0 by omega), zD]; by_cases h8 : 1099511627776 < n + c.toNat * 128 ^ k
       · rw [if_pos (.inr (by omega)), if_pos (.inl h8)]
       · by_cases h10 : c.toNat = 0
         · rw [if_pos (.inl (by simp; omega)), if_pos (.inr ⟨by simpa using h9, h10⟩)]
         · rw [if_neg (by rintro (h | h); simp at h; omega; omega), if_neg (by rintro (h | ⟨_, h⟩); exact h8 h; exact h10 h)]
   · rw [zF (show ¬ (c.toNat : Int) < 128 by omega), zD, if_neg h7]; have hn2 : n + c.toNat % 128 * 128 ^ k < 128 ^ (k + 1) := by rw [Nat.pow_succ]; omega
     have := zky hs f N l (n + c.toNat % 128 * 128 ^ k) (k + 1) ((k : Int) + 1) cnt g3 (by omega) hcn (by omega) hn2 (by omega); rw [this, Nat.pow_succ]; rfl
theorem zon {s : Str} (hs : s.length < 4294967296) : zb0 s = some (z7q s) := by
 refine z0e 7 fun N hN => ?_
 exact zky hs 6 N s 0 0 0 _ rfl rfl rfl (by omega) (by omega) (by omega)
theorem zf9 {n : Int} (hn : n < 4294967296) : ∀ (m N k : Nat) (i : Int) (s : Str) (acc : List Int), (k : Int) + m = n -> i = k -> s.length < 4294967296 -> acc.length = k -> m < N -> zd z5s N (s, n, i, acc) = some (unpackL m s acc)
 | m, 0, _, _, _, _, _, _, _, _, h => by omega
 | 0, N + 1, k, i, s, acc, h1, h2, h3, h4, h5 => by
   rw [z6, z7j]; unfold z33; simp only [unpackL]; rw [zF (by omega)]; rfl
 | m + 1, N + 1, k, i, s, acc, h1, h2, h3, h4, h5 => by
   rw [z6, z7j]; unfold z33; simp only [unpackL, zon h3, z8]; rw [zT (show i < n by omega), zC]; have hl := zhu s; cases hb : (z7q s).2.2 with
   | false => rfl
   | true =>
     rw [if_neg (by simp), Bool.not_true, zD]; rw [zT (by simp; omega), zC, zT (by simp; omega), zC]; exact zf9 hn m N (k + 1) _ _ _ (by omega) (by rw [zf (by omega) (by omega)]; omega) (by omega) (by simp; omega) (by omega)
theorem zbq {s : Str} (hs : s.length < 4294967296) : z40 s = some (ze s) := by
 refine z0e (s.length + 1) fun N hN => ?_
 show z6g N s = _; unfold z6g ze; simp only [zon hs, z8]; have hl := zhu s; have hn := z07w s; cases hb : (z7q s).2.2 with
 | false => rfl
 | true =>
   rw [Bool.not_true, zD]; by_cases h1 : ((z7q s).2.1.length : Int) < (z7q s).1
   · rw [zT h1, zC, if_pos (.inr h1)]
   · rw [zF h1, zD, if_neg (by simp; omega)]; exact zf9 (by omega) _ N 0 0 _ _ (by omega) rfl (by omega) rfl (by omega)
def tagOk (s : Str) : Prop := (ze s).2.2 = 0 -> (ze s).1.length = 2 -> (ze (ze s).2.1).2.2 = 0
theorem z030 {s : Str} (hs : s.length < 4294967296) (ht : tagOk s) : ziw s = some (if (ze s).2.2 ≠ 0 \/ (ze s).1.length ≠ 2 \/ (ze (ze (ze s).2.1).2.1).2.2 ≠ 0 then (zRec, 30) else (⟨(ze s).1.getD 0 0, (ze s).1.getD 1 0, (ze (ze s).2.1).1, zgg (-1) (ze (ze (ze s).2.1).2.1).1⟩, 0)) := by
 have q1 := z37 s; have q2 := z37 (ze s).2.1; have q3 := z37 (ze (ze s).2.1).2.1; unfold tagOk at ht; show readF z40 (fun l => z36 (l, -1)) s = _; unfold readF; simp only [zbq hs]; by_cases c1 : (ze s).2.2 = 0
 · rw [zT c1, zC]; by_cases c2 : (ze s).1.length = 2
   · rw [zT c2, zC]; simp only [zbq (show (ze s).2.1.length < 4294967296 by omega)]; rw [zT (ht c1 c2), zC]; simp only [zbq (show (ze (ze s).2.1).2.1.length < 4294967296 by omega)]; by_cases c3 : (ze (ze (ze s).2.1).2.1).2.2 = 0
     · rw [zT c3, zC, if_neg (by simp [c1, c2, c3])]; simp only [zog (show (ze (ze (ze s).2.1).2.1).1.length < 4294967296 by omega)]
     · rw [zF c3, zD, if_pos (.inr (.inr c3))]; rfl
   · rw [zF c2, zD, if_pos (.inr (.inl c2))]; rfl
 · rw [zF c1, zD, if_pos (.inl c1)]; rfl
theorem z0av (l : List Int) : zgg (-1) l = mvT l := by unfold zgg mvT; rfl
theorem zx2 {tag data : Str} (ht : tag.length < 4294967296) (hd : data.length < 4294967296) (hk : tagOk tag) : zd4 (tag, data) = some (decT tag data) := by
 have q1 := z37 tag; have q2 := z37 (ze tag).2.1; have q3 := z37 (ze (ze tag).2.1).2.1; show z8l tag data = _; unfold z8l; rw [z030 ht hk, z8]; unfold decT; have hk' := hk; unfold tagOk at hk'; split
 · rename_i h; rw [zF (by decide), Bool.not_false, zC, if_pos (by
    rcases h with h | h | h
    · exact .inl h
    · exact .inr (.inr (.inr h))
    · exact .inr (.inr (.inl h)))]
   rfl
 · rename_i h; simp only [not_or, Decidable.not_not] at h; obtain ⟨c1, c2, c3⟩ := h; rw [zT rfl, Bool.not_true, zD, if_neg (by simp [c1, c2, c3, hk' c1 c2])]; simp only; rw [z0av, zwn ⟨by show (ze (ze tag).2.1).1.length < _; omega, by show (mvT _).length < _; unfold mvT; rw [List.length_map]; omega⟩ hd, z8]; generalize ({ kind := _, seq := _, keys := _, values := _ } : Record) = r; by_cases e1 : (encT r data).2 = 0
   · rw [zT e1, Bool.not_true, zD]; by_cases e2 : (encT r data).1 = tag
     · rw [zT e2, Bool.not_true, zD, if_neg (by simp [e1, e2])]
     · rw [zF e2, Bool.not_false, zC, if_pos (.inr e2)]; rfl
   · rw [zF e1, Bool.not_false, zC, if_pos (.inl e1)]; rfl
theorem zzh {p : Page} (h : PageOk p) (hk : tagOk p.tag) : zft p = some (lookT p) := by
 show zb1 p = _; unfold zb1 lookT; cases p.written with
 | false => rfl
 | true =>
   rw [Bool.not_true, zD, zx2 h.1 h.2 hk, z8, if_neg (by simp)]; by_cases c : (decT p.tag p.data).2 = 0
   · rw [zT c, zC, if_neg (by simp [c])]
   · rw [zF c, zD, if_pos c]; rfl
end Clk
namespace Clk
open Go
def TagsOk (c : Chip) : Prop := ∀ b ∈ c.blocks, ∀ p ∈ b.pages, tagOk p.tag
theorem z066 : ∀ (l : List Found) (f : Found), insF l f = insT l f
 | [], f => rfl
 | x :: l, f => by
   unfold insF insT; rw [z066 l f]; rfl
theorem z08b (l : List Found) : sortF l = l.foldl insT [] := by
 unfold sortF; rw [show insF = insT from funext fun l => funext fun f => z066 l f]
theorem zlm {b p : Nat} {pg : Page} {f : Found} (h : f ∈ vv b p pg) : f.place = 16 * (b : Int) + p /\ p < 16 /\ b < 32 := by
 unfold vv at h; split at h
 · rename_i hc; obtain ⟨h1, h2⟩ := z07y hc.2; simp at h; subst h; refine ⟨?_, h2, h1⟩; show placeT b p = _; unfold placeT; rw [if_neg (by omega)]; omega
 · cases h
theorem zhz {b : Nat} : ∀ {l : List Page} {p : Nat} {f : Found}, f ∈ vp b p l -> ∃ q : Nat, p <= q /\ q < 16 /\ b < 32 /\ f.place = 16 * (b : Int) + q
 | [], p, f, h => by simp [vp] at h
 | pg :: l, p, f, h => by
   unfold vp at h; rcases List.mem_append.1 h with h | h
   · obtain ⟨h1, h2, h3⟩ := zlm h; exact ⟨p, Nat.le_refl _, h2, h3, h1⟩
   · obtain ⟨q, h1, h2⟩ := zhz h; exact ⟨q, by omega, h2⟩
theorem z014 : ∀ {l : List Block} {b : Nat} {f : Found}, f ∈ vb b l -> ∃ c q : Nat, b <= c /\ q < 16 /\ f.place = 16 * (c : Int) + q
 | [], b, f, h => by simp [vb] at h
 | x :: l, b, f, h => by
   unfold vb at h; rcases List.mem_append.1 h with h | h
   · obtain ⟨q, _, h2, _, h3⟩ := zhz h; exact ⟨b, q, Nat.le_refl _, h2, h3⟩
   · obtain ⟨c, q, h1, h2⟩ := z014 h; exact ⟨c, q, by omega, h2⟩
theorem z0aw (b p : Nat) (pg : Page) : (vv b p pg).Pairwise (fun x y => x.place < y.place) := by
 unfold vv; split <;> simp
theorem z067 (b : Nat) : ∀ (l : List Page) (p : Nat), (vp b p l).Pairwise (fun x y => x.place < y.place)
 | [], p => by simp [vp]
 | pg :: l, p => by
   unfold vp; refine List.pairwise_append.2 ⟨z0aw b p pg, z067 b l (p + 1), fun x hx y hy => ?_⟩; obtain ⟨h1, _, _⟩ := zlm hx; obtain ⟨q, h2, _, _, h3⟩ := zhz hy; omega
theorem z068 : ∀ (l : List Block) (b : Nat), (vb b l).Pairwise (fun x y => x.place < y.place)
 | [], b => by simp [vb]
 | x :: l, b => by
   unfold vb; refine List.pairwise_append.2 ⟨z067 b _ 0, z068 l (b + 1), fun x hx y hy => ?_⟩; obtain ⟨q, _, h1, _, h2⟩ := zhz hx; obtain ⟨c, r, h3, _, h4⟩ := z014 hy; omega
theorem zx3 : ∀ {l : List Found}, l.Pairwise (fun x y => x.place < y.place) -> distF l = true
 | [], _ => rfl
 | x :: l, h => by
   rw [List.pairwise_cons] at h; unfold distF; rw [Bool.and_eq_true]; refine ⟨List.all_eq_true.2 fun y hy => ?_, zx3 h.2⟩; have := h.1 y hy; simp only [Bool.not_eq_true', decide_eq_false_iff_not, Prod.mk.injEq]; omega
theorem z094 (b p : Nat) (pg : Page) : (vv b p pg).length <= 1 := by unfold vv; split <;> simp
theorem z069 {M : List Block × Int × Int × List Found -> Option (List Found)} {bs : List Block} {n : Int} {b : Nat} {pgs : List Page} (hs : pgs.length < 4294967296) (hb : b < 4294967296) (hp : ∀ p ∈ pgs, PageOk p) (ht : ∀ p ∈ pgs, tagOk p.tag) : ∀ (l : List Page) (N p : Nat) (i : Int) (out : List Found), pgs.drop p = l -> i = p -> out.length <= min (16 * b + min p 16) 512 -> l.length < N ->
 zd (zb2 M) N ((b : Int), bs, n, (b : Int), pgs, (pgs.length : Int), i, out) = M (bs, n, ((b + 1 : Nat) : Int), out ++ vp b p l)
 | l, 0, _, _, _, _, _, _, h => by omega
 | [], N + 1, p, i, out, h1, h2, h3, _ => by
   have h4 := zp h1; rw [z6, zc1]; unfold z6h; simp only [vp, List.append_nil]; rw [zF (by omega), zD, zf (by omega) (by omega)]; rfl
 | pg :: l, N + 1, p, i, out, h1, h2, h3, h5 => by
   obtain ⟨g1, g2, g3⟩ := zk h1; subst h2; have hmem : pg ∈ pgs := by rw [<- g2 default]; exact z07 g1
   simp at h5; have hv := z094 b p pg; have hv2 : vv b p pg ≠ [] -> b < 32 /\ p < 16 := fun h => by
    cases hvv : vv b p pg with
    | nil => exact absurd hvv h
    | cons f r => have := zlm (f := f) (by rw [hvv]; simp); omega
   have hlen : (out ++ vv b p pg).length <= min (16 * b + min (p + 1) 16) 512 := by
    rw [List.length_append]; by_cases hvv : vv b p pg = []
    · rw [hvv]; simp; omega
    · have := hv2 hvv; omega
   have ih := z069 (M := M) (bs := bs) (n := n) hs hb hp ht l N (p + 1) ((p : Int) + 1) (out ++ vv b p pg) g3 (by omega) hlen (by omega); rw [z6, zc1]; unfold z6h; simp only [Int.toNat_natCast, g2, vp]; rw [zT (show (p : Int) < (pgs.length : Int) by omega), zT (show (0 : Int) <= p by omega)]; simp only [zC, zwq, z8]; rw [zf (n := (p : Int) + 1) (by omega) (by omega), zzh (hp pg hmem) (ht pg hmem), z8, <- List.append_assoc, <- ih]; by_cases c1 : 0 <= placeT b p
   · rw [zT c1, zC]; by_cases c2 : (lookT pg).1 = 1
     · rw [zT c2, zC]; have e : vv b p pg = [⟨placeT b p, (lookT pg).2⟩] := by unfold vv; rw [if_pos ⟨c2, c1⟩]
       rw [e] at hlen ⊢; rw [zT (by simp at hlen ⊢; omega), zC, zT (by simp at hlen ⊢; omega), zC]
     · rw [zF c2, zD]; have e : vv b p pg = [] := by unfold vv; rw [if_neg (fun h => c2 h.1)]
       rw [e, List.append_nil]
   · rw [zF c1, zD]; have e : vv b p pg = [] := by unfold vv; rw [if_neg (fun h => c1 h.2)]
     rw [e, List.append_nil]
theorem z095 (b : Nat) : ∀ (l : List Page) (p : Nat), (vp b p l).length <= 16 - min p 16 /\ (32 <= b -> vp b p l = [])
 | [], p => by simp [vp]
 | pg :: l, p => by
   unfold vp; obtain ⟨h1, h2⟩ := z095 b l (p + 1); have hv := z094 b p pg; have hv2 : vv b p pg ≠ [] -> b < 32 /\ p < 16 := fun h => by
    cases hvv : vv b p pg with
    | nil => exact absurd hvv h
    | cons f r => have := zlm (f := f) (by rw [hvv]; simp); omega
   by_cases hvv : vv b p pg = []
   · rw [hvv]; simp only [List.nil_append]; exact ⟨by omega, h2⟩
   · obtain ⟨h3, h4⟩ := hv2 hvv; rw [List.length_append]; exact ⟨by omega, fun h => by omega⟩
theorem z06a {c : Chip} (hc : z0f c) (hp : PagesOk c) (ht : TagsOk c) {M : Nat} (hM : ∀ b ∈ c.blocks, b.pages.length < M) : ∀ (l : List Block) (N b : Nat) (i : Int) (out : List Found), c.blocks.drop b = l -> i = b -> out.length <= min (16 * b) 512 -> (out ++ vb b l).Pairwise (fun x y => x.place < y.place) -> l.length < N ->
 zd (zb3 M) N (c.blocks, (c.blocks.length : Int), i, out) = some (sortF (out ++ vb b l))
 | l, 0, _, _, _, _, _, _, _, h => by omega
 | [], N + 1, b, i, out, h1, h2, h3, h6, _ => by
   have h4 := zp h1; rw [z6, zc2]; unfold z6i; simp only [vb, List.append_nil] at h6 ⊢; rw [zF (by omega), zD, zx3 h6, zC, zT (by omega), zC]
 | x :: l, N + 1, b, i, out, h1, h2, h3, h6, h5 => by
   obtain ⟨g1, g2, g3⟩ := zk h1; subst h2; have hmem : x ∈ c.blocks := by rw [<- g2 default]; exact z07 g1
   have hb := hc.1; simp at h5; rw [z6, zc2]; unfold z6i; simp only [Int.toNat_natCast, g2, vb]; rw [zT (show (b : Int) < (c.blocks.length : Int) by omega), zT (show (0 : Int) <= b by omega)]; simp only [zC]; rw [z069 (hc.2 x hmem) (by omega) (fun p h => hp x hmem p h) (fun p h => ht x hmem p h) x.pages M 0 0 out rfl rfl (by omega) (hM x hmem), <- List.append_assoc]; obtain ⟨k1, k2⟩ := z095 b x.pages 0; have hlen : (out ++ vp b 0 x.pages).length <= min (16 * (b + 1)) 512 := by
    rw [List.length_append]; by_cases h32 : 32 <= b
    · rw [k2 h32]; simp; omega
    · omega
   exact z06a hc hp ht hM l N (b + 1) _ _ g3 rfl hlen (by rw [List.append_assoc]; exact h6) (by omega)
theorem zkz {α : Type} (f : α -> Nat) : ∀ (l : List α), ∃ M, ∀ x ∈ l, f x < M
 | [] => ⟨0, fun _ h => by cases h⟩
 | x :: l => by
   obtain ⟨M, h⟩ := zkz f l; exact ⟨max M (f x + 1), fun y hy => by
    rcases List.mem_cons.1 hy with rfl | hy
    · omega
    · have := h y hy; omega⟩
theorem z031 {c : Chip} (hc : z0f c) (hp : PagesOk c) (ht : TagsOk c) : zix c = some (allT c) := by
 obtain ⟨M, hM⟩ := zkz (fun b : Block => b.pages.length) c.blocks; refine z0e (max M (c.blocks.length + 1)) fun N hN => ?_
 show zeh N c = _; unfold zeh; have := z06a hc hp ht (M := N) (fun b hb => by have := hM b hb; omega) c.blocks N 0 0 [] rfl rfl (by simp) (by rw [List.nil_append]; exact z068 _ 0) (by omega); rw [this, List.nil_append, z08b]; unfold allT; rw [ze5]
end Clk
namespace Clk
open Go
def AllP (Q : Page -> Prop) (c : Chip) : Prop := ∀ b ∈ c.blocks, ∀ p ∈ b.pages, Q p
theorem zx4 {Q : Page -> Prop} (hz : Q z5u) (all : Bool) (n : Int) : ∀ (i : Nat) (l : List Page), (∀ p ∈ l, Q p) -> ∀ p ∈ clrT all n i l, Q p
 | _, [], _, p, hp => by cases hp
 | i, q :: l, h, p, hp => by
   unfold clrT at hp; rcases List.mem_cons.1 hp with rfl | hp
   · split
     · exact hz
     · exact h _ List.mem_cons_self
   · exact zx4 hz all n (i + 1) l (fun x hx => h x (List.mem_cons_of_mem _ hx)) p hp
theorem z08c {Q : Page -> Prop} (hz : Q z5u) {c : Chip} (h : AllP Q c) (b : Int) (f : Fate) : AllP Q (eraT c b f).1 := by
 unfold eraT; split
 · exact h
 · split
   · rename_i hc; unfold canEra at hc; simp only [Bool.and_eq_true, decide_eq_true_eq] at hc; intro x hx; rcases List.mem_or_eq_of_mem_set hx with h3 | rfl
     · exact h x h3
     · have := h _ (z07 (d := default) (show b.toNat < c.blocks.length by omega)); unfold z8s; split
       · exact this
       · exact zx4 hz _ _ 0 _ this
   · exact h
theorem z06b {Q : Page -> Prop} {c : Chip} (h : AllP Q c) (b p : Int) {page : Page} {f : Fate} (hp : Q ⟨true, page.data, page.tag⟩) (hf : f.kind ≠ 0 -> Q ⟨true, f.data, f.tag⟩) : AllP Q (progT c b p page f).1 := by
 unfold progT; split
 · exact h
 · split
   · rename_i hc; obtain ⟨h1, h2, _⟩ := z4s.1 hc; intro x hx; rcases List.mem_or_eq_of_mem_set hx with h3 | rfl
     · exact h x h3
     · have h4 := h _ (z07 (d := default) (show b.toNat < c.blocks.length by omega)); unfold z5e; intro q hq; rcases List.mem_or_eq_of_mem_set hq with h5 | rfl
       · exact h4 q h5
       · split
         · exact hp
         · rename_i hk; exact hf hk
   · exact h
theorem z015 {Q : Page -> Prop} (hz : Q z5u) (n p : Int) (bad : List Int) : AllP Q (newT n p bad).1 := by
 unfold newT; split
 · intro b hb; simp [zChip] at hb
 · rename_i h; obtain ⟨h1, h2⟩ := zzd (n := n) (m := n.toNat) bad (List.replicate n.toNat ⟨List.replicate p.toNat z5u, 0, 0, false⟩) (fun b hb => by
    obtain ⟨_, rfl⟩ := List.mem_replicate.1 hb; exact ⟨by simp; omega, fun q hq => (List.mem_replicate.1 hq).2⟩) (by simp)
   intro b hb q hq; rw [(h1 b hb).2 q hq]; exact hz
theorem zoo : tagOk [] := by
 intro h; exact absurd h (by decide)
theorem z0ax {tag data : Str} {r : Record} (h : decT tag data = (r, 0)) : tagOk tag := by
 intro h1 h2; unfold decT at h; split at h
 · cases h
 · rename_i hn; exact Decidable.byContradiction fun hc => hn (.inr (.inl hc))
theorem z0ay (r : Record) (data : Str) : tagOk (encT r data).1 := by
 by_cases h : z2u r = false \/ 16 < data.length
 · have : (encT r data).1 = [] := by unfold encT; rw [if_pos h]
   rw [this]; exact zoo
 · simp only [not_or] at h; exact z0ax (z0ar (by simpa using h.1) (by omega))
theorem z08d (w : Write) : tagOk (makeT w).1.tag := by
 unfold makeT; split
 · exact zoo
 · exact z0ay _ _
theorem z06c {l : List Int} {m : Int} {a : Nat} {c : Chip} (h : AllP (fun p => tagOk p.tag) c) : AllP (fun p => tagOk p.tag) (stepC l m a c) := by
 unfold stepC; simp only; have h1 : AllP (fun p => tagOk p.tag) (if l.getD a 0 % 29 = 0 then (eraT c (l.getD a 0 % m) z2p).1 else c) := by
  split
  · exact z08c zoo h _ _
  · exact h
 have hp : tagOk (pgT (l.getD a 0 / 7 % 30) ((l.drop a).take (z0b l a - a))).tag := z08d _; have hf : (if l.getD a 0 % 11 = 0 then (⟨1, [120], (pgT (l.getD a 0 / 7 % 30) ((l.drop a).take (z0b l a - a))).tag, 0⟩ : Fate) else z2p).kind ≠ 0 -> tagOk (if l.getD a 0 % 11 = 0 then (⟨1, [120], (pgT (l.getD a 0 / 7 % 30) ((l.drop a).take (z0b l a - a))).tag, 0⟩ : Fate) else z2p).tag := by
  split
  · intro _; exact hp
  · intro hk; exact absurd rfl hk
 generalize (if l.getD a 0 % 29 = 0 then (eraT c (l.getD a 0 % m) z2p).1 else c) = c1 at h1; generalize (if l.getD a 0 % 11 = 0 then (⟨1, [120], (pgT (l.getD a 0 / 7 % 30) ((l.drop a).take (z0b l a - a))).tag, 0⟩ : Fate) else z2p) = f at hf; split
 · exact h1
 · exact z06b h1 _ _ hp hf
theorem zra {l : List Int} {m : Int} : ∀ (k a : Nat) (c : Chip), AllP (fun p => tagOk p.tag) c -> AllP (fun p => tagOk p.tag) (chipL l m k a c)
 | 0, a, c, h => h
 | k + 1, a, c, h => by
   unfold chipL; split
   · exact zra k _ _ (z06c h)
   · exact h
theorem z032 (l : List Int) (b p : Int) : TagsOk (chipT l b p) := zra 40 0 _ (z015 zoo b p [])
theorem z033 (M : Nat) : (List.range 65).map (fun m : Nat => z7i (M + 8) [-1] (m : Int)) = (List.range 65).map (fun m => some (List.replicate m (-1 : Int))) := by kernel_rfl
theorem z08e {n : Int} (h0 : 0 <= n) (h1 : n <= 64) : z3z ([-1], n) = some (List.replicate n.toNat (-1)) := by
 refine z0e 8 fun N hN => ?_
 obtain ⟨M, rfl⟩ : ∃ M, N = M + 8 := ⟨N - 8, by omega⟩; have h := congrArg (fun l => l[n.toNat]?) (z033 M); have hr : n.toNat < 65 := by omega
 simp only [List.getElem?_map, List.getElem?_range hr, Option.map_some, Option.some.injEq] at h; have e : ((n.toNat : Nat) : Int) = n := by omega
 rw [e] at h; exact h
theorem zx5 (n : Int) : zd3 n = some (tabT n) := by
 show z8k n = _; unfold z8k; rw [z08e (by omega) (by omega), z8, z8]; unfold tabT; rw [show (min (max n 0) 64).toNat = min n.toNat 64 by omega]
theorem z06d {t : Table} (h : TabOk t) (f : Found) : TabOk (applyT t f) := by
 obtain ⟨h1, h2⟩ := zr6 t f; exact ⟨by rw [h1]; exact h.1, by rw [h2]; exact h.2⟩
theorem ztp : ∀ (l : List Found) (t u : Table) (s : Int), (repL l t s).2 = (repL l u s).2
 | [], t, u, s => rfl
 | f :: l, t, u, s => by unfold repL; exact ztp l _ _ _
theorem z016 : ∀ (l : List Found) (t : Table) (s r : Int), (repL l t s).1 = (repL l t r).1
 | [], t, s, r => rfl
 | f :: l, t, s, r => by unfold repL; exact z016 l _ _ _
theorem zrb {xs : List Found} (hs : xs.length < 4294967296) {u : Table} : ∀ (l : List Found) (N k : Nat) (i s : Int), xs.drop k = l -> i = k -> l.length < N -> zd (z41 u) N (s, xs, (xs.length : Int), i) = some (u, (repL l u s).2)
 | l, 0, _, _, _, _, _, h => by omega
 | [], N + 1, k, i, s, h1, h2, _ => by
   have := zp h1; rw [z6, z5k]; unfold z1o; simp only [repL]; rw [zF (by omega), zD]
 | f :: l, N + 1, k, i, s, h1, h2, h4 => by
   obtain ⟨g1, g2, g3⟩ := zk h1; subst h2; rw [z6, z5k]; unfold z1o; simp only [Int.toNat_natCast, g2, repL]; rw [zT (show (k : Int) < xs.length by omega), zT (show (0 : Int) <= k by omega)]; simp only [zC]; rw [zrb hs l N (k + 1) _ _ g3 (by rw [zf (by omega) (by omega)]; omega) (by simp at h4; omega), ztp l u (applyT u f)]
theorem zrc {xs : List Found} (hs : xs.length < 4294967296) (hf : z8t xs) {M : Nat} (hM : xs.length < M) : ∀ (l : List Found) (N k : Nat) (i : Int) (t : Table), xs.drop k = l -> i = k -> TabOk t -> l.length < N -> zd (z42 M xs) N (xs, (xs.length : Int), i, t) = some ((repL l t 0).1, (repL xs t 0).2)
 | l, 0, _, _, _, _, _, _, h => by omega
 | [], N + 1, k, i, t, h1, h2, h3, _ => by
   have := zp h1; rw [z6, z5l]; unfold z1p; dsimp only; rw [zF (by omega), zD]; exact zrb hs xs M 0 0 0 rfl rfl hM
 | f :: l, N + 1, k, i, t, h1, h2, h3, h4 => by
   obtain ⟨g1, g2, g3⟩ := zk h1; subst h2; have hr : RecOk f.record := by rw [<- g2 default]; exact hf _ (z07 g1)
   rw [z6, z5l]; unfold z1p; simp only [Int.toNat_natCast, g2, zq5 h3 hr, z8]; rw [zT (show (k : Int) < xs.length by omega), zT (show (0 : Int) <= k by omega)]; simp only [zC]; rw [zrc hs hf hM l N (k + 1) _ _ g3 (by rw [zf (by omega) (by omega)]; omega) (z06d h3 f) (by simp at h4; omega)]; rw [show (repL (f :: l) t 0).1 = (repL l (applyT t f) 0).1 by rw [repL]; exact z016 l _ _ _, ztp xs (applyT t f) t]
theorem zop {c : Chip} (hc : z0f c) (hp : PagesOk c) (ht : TagsOk c) (n : Int) : z1w (c, n) = some (replayT c n) := by
 have := z07z c; refine z0e 4294967297 fun N hN => ?_
 show z43 N c n = _; unfold z43; rw [z031 hc hp ht, z8, zx5, z8, zrc (xs := allT c) (by omega) (z0ap hp) (by omega) (allT c) N 0 0 _ rfl rfl (z05z n) (by omega)]; rfl
end Clk
namespace Clk
open Go
theorem zx6 : ∀ (l : List Found) (t : Table) (s : Int), (repL l t s).1 = l.foldl applyT t
 | [], t, s => rfl
 | f :: l, t, s => by unfold repL; exact zx6 l _ _
theorem z08f {b p : Nat} {pg : Page} {f : Found} (h : f ∈ vv b p pg) : z2u f.record = true := by
 unfold vv at h; split at h
 · rename_i hc; simp at h; subst h; exact z02y hc.1
 · cases h
theorem z017 (b : Nat) : ∀ (l : List Page) (p : Nat) (f : Found), f ∈ vp b p l -> z2u f.record = true
 | [], p, f, h => by simp [vp] at h
 | pg :: l, p, f, h => by
   unfold vp at h; rcases List.mem_append.1 h with h | h
   · exact z08f h
   · exact z017 b l (p + 1) f h
theorem z018 : ∀ (l : List Block) (b : Nat) (f : Found), f ∈ vb b l -> z2u f.record = true
 | [], b, f, h => by simp [vb] at h
 | x :: l, b, f, h => by
   unfold vb at h; rcases List.mem_append.1 h with h | h
   · exact z017 b _ 0 f h
   · exact z018 l (b + 1) f h
theorem z08g (c : Chip) (f : Found) : f ∈ allT c ↔ f ∈ vb 0 c.blocks := by
 unfold allT; rw [ze5, z010]; simp
end Clk
namespace Clk
open Go
end Clk
namespace Clk
open Go
end Clk
namespace Clk
open Go
def pageT (c : Chip) (place : Int) : Page × Bool :=
 if place < 0 \/ (c.blocks.length : Int) <= place / 16 \/ 32 <= place / 16 \/ ((c.blocks.getD (place / 16).toNat default).pages.length : Int) <= place % 16 then (z5u, false)
 else ((c.blocks.getD (place / 16).toNat default).pages.getD (place % 16).toNat default, true)
def I64 (n : Int) : Prop := -9223372036854775808 <= n /\ n < 9223372036854775808
theorem zzi (c : Chip) {place : Int} (hp : I64 place) : zfu (c, place) = some (pageT c place) := by
 obtain ⟨p1, p2⟩ := hp; show zb4 c place = _; unfold zb4 pageT; by_cases c1 : place < 0
 · rw [zT c1, zC, if_pos (.inl c1)]; rfl
 · rw [zF c1, zD, Int.tdiv_eq_ediv_of_nonneg (by omega), Int.tmod_eq_emod_of_nonneg (by omega), zf (n := place / 16) (by omega) (by omega)]; by_cases c2 : min (c.blocks.length : Int) 32 <= place / 16
   · rw [zT c2, zC, if_pos (by omega)]; rfl
   · rw [zF c2, zD, zT (show 0 <= place / 16 by omega), zT (show place / 16 < (c.blocks.length : Int) by omega)]; simp only [zC]; by_cases c3 : ((c.blocks.getD (place / 16).toNat default).pages.length : Int) <= place % 16
     · rw [zT c3, zC, if_pos (by omega)]; rfl
     · rw [zF c3, zD, zT (show 0 <= place % 16 by omega), zT (show place % 16 < ((c.blocks.getD (place / 16).toNat default).pages.length : Int) by omega), if_neg (by omega)]; rfl
end Clk
namespace Clk
open Go
theorem ztq {x : Bool} {xs : List Bool} (hs : xs.length < 4294967296) : ∀ (l : List Bool) (N k : Nat) (i : Int), xs.drop k = l -> i = k -> l.length < N -> ∃ r, zd z0n N (xs, x, (xs.length : Int), i) = some r /\ (decide (0 <= r) = l.contains x)
 | l, 0, _, _, _, _, h => by omega
 | [], N + 1, k, i, h1, h2, _ => by
   have := zp h1; refine ⟨-1, ?_, by simp⟩; rw [z6, z08]; unfold z0m; dsimp only; rw [zF (by omega), zD]
 | y :: l, N + 1, k, i, h1, h2, h4 => by
   obtain ⟨g1, g2, g3⟩ := zk h1; subst h2; rw [z6, z08]; unfold z0m; simp only [Int.toNat_natCast, g2]; rw [zT (show (k : Int) < xs.length by omega), zT (show (0 : Int) <= k by omega)]; simp only [zC]; by_cases hy : x = y
   · subst hy; exact ⟨k, by simp, by simp⟩
   · obtain ⟨r, k1, k2⟩ := ztq (x := x) hs l N (k + 1) _ g3 (show w64 ((k : Int) + 1) = ((k + 1 : Nat) : Int) by rw [zf (by omega) (by omega)]; omega) (by simp at h4; omega); refine ⟨r, ?_, ?_⟩
     · rw [show (x == y) = false by simpa using hy, zD]; exact k1
     · rw [k2, List.contains_cons]; simp [hy]
theorem z034 {x : Bool} {xs : List Bool} (hs : xs.length < 4294967296) : z4m (xs, x) = some (xs.contains x) := by
 obtain ⟨r, h1, h2⟩ : ∃ r, z9a (xs, x) = some r /\ decide (0 <= r) = xs.contains x := by
  obtain ⟨r, h1, h2⟩ := ztq (x := x) hs xs (xs.length + 1) 0 0 rfl rfl (by omega); refine ⟨r, z0e (xs.length + 1) fun N hN => ?_, h2⟩; obtain ⟨r', k1, _⟩ := ztq (x := x) hs xs N 0 0 rfl rfl (by omega); show zd z0n N (xs, x, (xs.length : Int), 0) = _; have e : ∀ (l : List Bool) (N M k : Nat) (i : Int), xs.drop k = l -> i = k -> l.length < N -> l.length < M -> zd z0n N (xs, x, (xs.length : Int), i) = zd z0n M (xs, x, (xs.length : Int), i) := by
   intro l; induction l with
   | nil =>
     intro N M k i h1 h2 h3 h4; obtain ⟨N, rfl⟩ : ∃ n, N = n + 1 := ⟨N - 1, by omega⟩; obtain ⟨M, rfl⟩ : ∃ n, M = n + 1 := ⟨M - 1, by omega⟩; have := zp h1; rw [z6, z6, z08, z08]; unfold z0m; dsimp only; rw [zF (by omega), zD]; rfl
   | cons y l ih =>
     intro N M k i h1 h2 h3 h4; obtain ⟨N, rfl⟩ : ∃ n, N = n + 1 := ⟨N - 1, by omega⟩; obtain ⟨M, rfl⟩ : ∃ n, M = n + 1 := ⟨M - 1, by omega⟩; obtain ⟨g1, g2, g3⟩ := zk h1; subst h2; rw [z6, z6, z08, z08]; unfold z0m; dsimp only; rw [ih N M (k + 1) (w64 ((k : Int) + 1)) g3 (by rw [zf (by omega) (by omega)]; omega) (by simp at h3; omega) (by simp at h4; omega)]
  rw [e xs N (xs.length + 1) 0 0 rfl rfl (by omega) (by omega)]; exact h1
 show z2d xs x = _; unfold z2d; rw [h1, z8, h2]
theorem zln (a b c : Int) : z2e (a, b, c) = some (decide (b <= a) && decide (a <= c)) := by
 show z6j a b c = _; unfold z6j; by_cases h : b <= a
 · rw [zT h, zC, Bool.true_and]
 · rw [zF h, zD, Bool.false_and]
theorem z0ck (l : List Bool) (h : l.length < 4294967296) : ziy l = some (!l.contains false) := by
 show zei l = _; unfold zei; rw [z034 h, z8]
theorem zbr (g : Geometry) : z1x g = some (fitsT g) := by
 show zb5 g = _; rw [<- z0bq g]; show _ = z3e g; unfold zb5 z3e; rw [zln, z8, zln, z8, zln, z8, zln, z8, z0ck _ (by simp), z8]; by_cases c1 : 1 <= g.blocks <;> by_cases c2 : g.blocks <= 32 <;> by_cases c3 : 2 <= g.pages <;> by_cases c4 : g.pages <= 16 <;> by_cases c5 : 1 <= g.sectors <;> by_cases c6 : g.sectors <= 64 <;> by_cases c7 : 0 <= g.spare <;> by_cases c8 : g.spare <= 32 <;> simp [c1, c2, c3, c4, c5, c6, c7, c8]
theorem z06e (c : Chip) : zd5 c = some (onT c) := rfl
theorem z019 {c : Chip} (hc : z0f c) : ∀ (l : List Block) (N k : Nat) (i s : Int), c.blocks.drop k = l -> i = k -> 0 <= s -> s <= k -> l.length < N -> zd z9b N (s, c.blocks, (c.blocks.length : Int), i) = some (s + badsL l)
 | l, 0, _, _, _, _, _, _, _, h => by omega
 | [], N + 1, k, i, s, h1, h2, h3, h4, _ => by
   have := zp h1; rw [z6, za3]; unfold z5b; simp only [badsL, Int.add_zero]; rw [zF (by omega), zD]
 | x :: l, N + 1, k, i, s, h1, h2, h3, h4, h5 => by
   obtain ⟨g1, g2, g3⟩ := zk h1; have hl := hc.1; subst h2; have e1 : w64 ((k : Int) + 1) = ((k + 1 : Nat) : Int) := by rw [zf (by omega) (by omega)]; rfl
   have ih := fun s' h h' => z019 hc l N (k + 1) _ s' g3 rfl h h' (by simp at h5; omega)
   rw [z6, za3]; unfold z5b; simp only [Int.toNat_natCast, g2, badsL, e1]; rw [zT (show (k : Int) < c.blocks.length by omega), zT (show (0 : Int) <= k by omega)]; simp only [zC]; cases hb : x.bad with
   | true => rw [zC, if_pos rfl, zf (n := s + 1) (by omega) (by omega), ih (s + 1) (by omega) (by omega)]; congr 1; omega
   | false => rw [zD, if_neg (by simp), ih s (by omega) (by omega)]; congr 1; omega
theorem zoq {c : Chip} (hc : z0f c) : zb8 c = some (badsT c) := by
 have := hc.1; refine z0e 4294967297 fun N hN => ?_
 have := z019 hc c.blocks N 0 0 0 rfl rfl (by omega) (by omega) (by omega); rw [Int.zero_add] at this; exact this
def oddB (g : Geometry) (b : Block) : Bool := !(decide ((b.pages.length : Int) = g.pages))
def openB (g : Geometry) (b : Block) : Bool := !b.bad && decide (0 < b.next) && decide (b.next < g.pages)
def findO (g : Geometry) : Nat -> List Block -> Int
 | _, [] => -1
 | i, b :: l => if openB g b = true then (i : Int) else findO g (i + 1) l
theorem z01a {g : Geometry} : ∀ (l : List Block) (i : Nat) (o : Int), l.any (oddB g) = true -> mtL g i l o = none
 | [], i, o, h => by simp at h
 | b :: l, i, o, h => by
   unfold mtL; by_cases hb : (b.pages.length : Int) = g.pages
   · rw [if_neg (by simp [hb])]; refine z01a l _ _ ?_; simpa [oddB, hb] using h
   · rw [if_pos hb]
theorem z01b {g : Geometry} : ∀ (l : List Block) (i : Nat) (o : Int), l.any (oddB g) = false -> mtL g i l o = some (if o < 0 then (if findO g i l = -1 then o else findO g i l) else o)
 | [], i, o, h => by simp [mtL, findO]
 | b :: l, i, o, h => by
   unfold mtL findO; have hb : (b.pages.length : Int) = g.pages := by
    rw [List.any_cons, Bool.or_eq_false_iff] at h; have := h.1; unfold oddB at this; simpa using this
   have h2 : l.any (oddB g) = false := by rw [List.any_cons, Bool.or_eq_false_iff] at h; exact h.2
   rw [if_neg (by simp [hb]), z01b l _ _ h2]; by_cases ho : o < 0
   · by_cases hop : openB g b = true
     · have hop' := hop; unfold openB at hop; simp at hop; have e : (if o < 0 /\ b.bad = false /\ 0 < b.next /\ b.next < g.pages then (i : Int) else o) = i := if_pos ⟨ho, hop.1.1, hop.1.2, hop.2⟩; rw [e, if_neg (show ¬ (i : Int) < 0 by omega), if_pos ho, if_pos hop', if_neg (by omega)]
     · have e : (if o < 0 /\ b.bad = false /\ 0 < b.next /\ b.next < g.pages then (i : Int) else o) = o := if_neg fun ⟨_, h1, h2, h3⟩ => hop (by unfold openB; simp [h1, h2, h3])
       rw [e, if_neg hop]
   · have e : (if o < 0 /\ b.bad = false /\ 0 < b.next /\ b.next < g.pages then (i : Int) else o) = o := if_neg fun h => ho h.1
     rw [e, if_neg ho, if_neg ho]
theorem zx7 {g : Geometry} {bs : List Block} (hs : bs.length < 4294967296) {d : Device} : ∀ (l : List Block) (N k : Nat) (i : Int), bs.drop k = l -> i = k -> l.length < N -> zd z1y N (bs, (bs.length : Int), i, g, d) = some (⟨d.geometry, d.chip, d.table, d.seq, findO g k l⟩, 0)
 | l, 0, _, _, _, _, h => by omega
 | [], N + 1, k, i, h1, h2, _ => by
   have := zp h1; rw [z6, z8m]; unfold z44 findO; dsimp only; rw [zF (by omega), zD]
 | b :: l, N + 1, k, i, h1, h2, h4 => by
   obtain ⟨g1, g2, g3⟩ := zk h1; subst h2; have e1 : w64 ((k : Int) + 1) = ((k + 1 : Nat) : Int) := by rw [zf (by omega) (by omega)]; omega
   have ih := zx7 (g := g) hs (d := d) l N (k + 1) _ g3 rfl (by simp at h4; omega); rw [z6, z8m]; unfold z44 findO openB; simp only [Int.toNat_natCast, g2]; rw [zT (show (k : Int) < bs.length by omega), zT (show (0 : Int) <= k by omega), e1, ih]; simp only [zC]; cases b.bad <;> by_cases c1 : 0 < b.next <;> by_cases c2 : b.next < g.pages <;> simp [c1, c2]
theorem zx8 {g : Geometry} {c : Chip} (hc : z0f c) {N0 : Nat} {R : Device × Int} (hR : (Option.bind (zd5 c) fun r8 => Option.bind (z1w (c, g.sectors)) fun r9 => zd z1y N0 (c.blocks, (c.blocks.length : Int), 0, g, (Device.mk g r8 r9.1 r9.2 (-1)))) = some R) : ∀ (l : List Block) (N k : Nat) (i : Int), c.blocks.drop k = l -> i = k -> l.length < N -> zd (z7k N0) N (c.blocks, (c.blocks.length : Int), i, g, c) = some (if l.any (oddB g) = true then (zDev, 1) else R)
 | l, 0, _, _, _, _, h => by omega
 | [], N + 1, k, i, h1, h2, _ => by
   have := zp h1; rw [z6, z8n]; unfold z47; dsimp only; rw [zF (by omega), zD, hR]; rfl
 | b :: l, N + 1, k, i, h1, h2, h4 => by
   have hl := hc.1; obtain ⟨g1, g2, g3⟩ := zk h1; subst h2; have e1 : w64 ((k : Int) + 1) = ((k + 1 : Nat) : Int) := by rw [zf (by omega) (by omega)]; omega
   have ih := zx8 (g := g) hc hR l N (k + 1) _ g3 rfl (by simp at h4; omega); rw [z6, z8n]; unfold z47; simp only [Int.toNat_natCast, g2]; rw [zT (show (k : Int) < c.blocks.length by omega), zT (show (0 : Int) <= k by omega), e1, ih]; simp only [zC]; by_cases hb : (b.pages.length : Int) = g.pages
   · rw [zT hb, Bool.not_true, zD, List.any_cons, show oddB g b = false by unfold oddB; rw [zT hb]; rfl, Bool.false_or]
   · rw [zF hb, Bool.not_false, zC, List.any_cons, show oddB g b = true by unfold oddB; rw [zF hb]; rfl, Bool.true_or]; rfl
theorem z8v {g : Geometry} {c : Chip} (hc : z0f c) (hp : PagesOk c) (ht : TagsOk c) : z1z (g, c) = some (mountT g c) := by
 have hl := hc.1; refine z0e 4294967297 fun N hN => ?_
 show z8o N g c = _; unfold z8o mountT; rw [zbr, z8]; cases fitsT g with
 | false => rfl
 | true =>
   rw [Bool.not_true, zD]; by_cases c1 : (c.blocks.length : Int) = g.blocks
   · rw [zT c1, Bool.not_true, zD, if_neg (by simp [c1])]; rw [zx8 hc (by rw [z06e, z8, zop hc hp ht, z8, zx7 (by omega) c.blocks N 0 0 rfl rfl (by omega)]) c.blocks N 0 0 rfl rfl (by omega)]; cases ha : c.blocks.any (oddB g) with
     | true => rw [if_pos rfl, z01a _ _ _ ha]
     | false =>
       rw [if_neg (by simp), z01b _ _ _ ha]; simp only [show ((-1 : Int) < 0) from by decide, if_true]; by_cases hf : findO g 0 c.blocks = -1
       · rw [if_pos hf, hf]
       · rw [if_neg hf]
   · rw [zF c1, Bool.not_false, zC, if_pos (.inr c1)]; rfl
def outB (n x : Int) : Bool := decide (x < 0) || decide (n <= x)
theorem ztr {n : Int} : ∀ (l : List Int) (bs : List Block), l.any (outB n) = true -> newL n l bs = (zChip, 1)
 | [], bs, h => by simp at h
 | x :: l, bs, h => by
   unfold newL; by_cases hx : x < 0 \/ n <= x
   · rw [if_pos hx]
   · rw [if_neg hx]; refine ztr l _ ?_; rw [List.any_cons] at h; have : outB n x = false := by unfold outB; simp; omega
     rwa [this, Bool.false_or] at h
theorem z08h (xs : List Block) (i : Nat) (v : Bool) : (z9u xs i v).length = xs.length := by unfold z9u; simp
theorem z06f {n : Int} {bad : List Int} (hb : bad.length < 4294967296) : ∀ (l : List Int) (N k : Nat) (i : Int) (bs : List Block), bad.drop k = l -> i = k -> (bs.length : Int) = n -> l.any (outB n) = false -> l.length < N -> zd zb6 N (bad, (bad.length : Int), i, bs, false, false, 0) = some (newL n l bs)
 | l, 0, _, _, _, _, _, _, _, h => by omega
 | [], N + 1, k, i, bs, h1, h2, h3, _, _ => by
   have := zp h1; rw [z6, zc3]; unfold z6k newL; dsimp only; rw [zF (by omega), zD]
 | x :: l, N + 1, k, i, bs, h1, h2, h3, h4, h5 => by
   obtain ⟨g1, g2, g3⟩ := zk h1; subst h2; rw [List.any_cons, Bool.or_eq_false_iff] at h4; have hx : 0 <= x /\ x < n := by have := h4.1; unfold outB at this; simp at this; omega
   rw [z6, zc3]; unfold z6k newL; simp only [Int.toNat_natCast, g2]; rw [zT (show (k : Int) < bad.length by omega), zT (show (0 : Int) <= k by omega), zT hx.1, zT (show x < (bs.length : Int) by omega), zT (show x.toNat < bs.length by omega), if_neg (by omega)]; simp only [zC]; exact z06f hb l N (k + 1) _ _ g3 (by rw [zf (by omega) (by omega)]; omega) (by rw [z08h]; exact h3) h4.2 (by simp at h5; omega)
def bl0 (p : Int) : Block := ⟨List.replicate p.toNat z5u, 0, 0, false⟩
theorem z06g {n p : Int} {bad : List Int} (hb : bad.length < 4294967296) (hn : n <= 32) (hp : 1 <= p) (hp2 : p <= 16) (hg : bad.any (outB n) = false) {M : Nat} (hM : bad.length < M) : ∀ (m N k : Nat) (i : Int), (k : Int) + m = n -> i = k -> m < N -> zd (z48 M) N (p, bad, n, i, List.replicate k (bl0 p) ++ List.replicate m default, false, false, 0) = some (newL n bad (List.replicate n.toNat (bl0 p)))
 | m, 0, _, _, _, _, h => by omega
 | 0, N + 1, k, i, h1, h2, _ => by
   rw [z6, zc4]; unfold z6l; dsimp only; rw [zF (by omega), zD, List.replicate_zero, List.append_nil, show k = n.toNat by omega]; exact z06f hb bad M 0 0 _ rfl rfl (by simp; omega) hg (by omega)
 | m + 1, N + 1, k, i, h1, h2, h3 => by
   subst h2; rw [z6, zc4]; unfold z6l; simp only [Int.toNat_natCast, List.length_append, List.length_replicate]; rw [zT (show (k : Int) < n by omega), zT (show 0 <= p by omega), zT (Int.le_refl p), zT (show p * 40 <= 70368744177664 by omega), zT (show p <= 70368744177664 by omega), zT (show (0 : Int) <= k by omega), zT (show (k : Int) < ((k + (m + 1) : Nat) : Int) by omega), zT (show k < k + (m + 1) by omega)]; simp only [zC]; have e : z0j (List.replicate k (bl0 p) ++ List.replicate (m + 1) default) k (List.replicate p.toNat default) = List.replicate (k + 1) (bl0 p) ++ List.replicate m default := by
    unfold z0j; have e1 : (List.replicate k (bl0 p) ++ List.replicate (m + 1) (default : Block)).getD k default = default := by
     rw [zI, List.getElem?_append_right (by simp)]; simp
    rw [e1, List.set_append_right _ _ (by simp)]; simp only [List.length_replicate, Nat.sub_self, List.replicate_succ, List.set_cons_zero]; rw [<- List.replicate_succ, List.replicate_succ', List.append_assoc]; rfl
   rw [e]; exact z06g hb hn hp hp2 hg hM m N (k + 1) _ (by omega) (by rw [zf (by omega) (by omega)]; omega) (by omega)
theorem z06h {n p : Int} {bad : List Int} (hb : bad.length < 4294967296) (hn1 : 1 <= n) (hn : n <= 32) (hp : 1 <= p) (hp2 : p <= 16) {M : Nat} (hM : bad.length + 33 < M) : ∀ (l : List Int) (N k : Nat) (i : Int), bad.drop k = l -> i = k -> l.length < N -> (l.any (outB n) = false -> bad.any (outB n) = false) -> (l.any (outB n) = true -> bad.any (outB n) = true) -> zd (zb7 M p bad) N (bad, (bad.length : Int), i, n) = some (newL n bad (List.replicate n.toNat (bl0 p)))
 | l, 0, _, _, _, _, h, _, _ => by omega
 | [], N + 1, k, i, h1, h2, _, hf, _ => by
   have := zp h1; rw [z6, zc5]; unfold z6m; dsimp only; rw [zF (by omega), zD, zT (show 0 <= n by omega), zT (Int.le_refl n), zT (show n * 48 <= 70368744177664 by omega), zT (show n <= 70368744177664 by omega)]; simp only [zC, List.length_replicate]; rw [show ((n.toNat : Nat) : Int) = n by omega]; exact z06g hb hn hp hp2 (hf rfl) (by omega) n.toNat M 0 0 (by omega) rfl (by omega)
 | x :: l, N + 1, k, i, h1, h2, h3, hf, ht => by
   obtain ⟨g1, g2, g3⟩ := zk h1; subst h2; rw [z6, zc5]; unfold z6m; simp only [Int.toNat_natCast, g2]; rw [zT (show (k : Int) < bad.length by omega), zT (show (0 : Int) <= k by omega)]; simp only [zC]; by_cases c1 : x < 0
   · rw [zT c1, zC, ztr _ _ (ht (by rw [List.any_cons]; unfold outB; rw [zT c1]; rfl))]; rfl
   · rw [zF c1, zD]; by_cases c2 : n <= x
     · rw [zT c2, zC, ztr _ _ (ht (by rw [List.any_cons]; unfold outB; rw [zT c2, Bool.or_true, Bool.true_or]))]; rfl
     · rw [zF c2, zD]; have ho : outB n x = false := by unfold outB; rw [zF c1, zF c2]; rfl
       rw [List.any_cons, ho, Bool.false_or] at hf ht; exact z06h hb hn1 hn hp hp2 hM l N (k + 1) _ g3 (by rw [zf (by omega) (by omega)]; omega) (by simp at h3; omega) hf ht
theorem z035 {n p : Int} {bad : List Int} (hb : bad.length < 4294967296) : ziz (n, p, bad) = some (newT n p bad) := by
 refine z0e (bad.length + 34) fun N hN => ?_
 show zej N n p bad = _; unfold zej newT; by_cases c1 : n < 1
 · rw [zT c1, zC, if_pos (.inl c1)]; rfl
 · rw [zF c1, zD]; by_cases c2 : 32 < n
   · rw [zT c2, zC, if_pos (.inr (.inl c2))]; rfl
   · rw [zF c2, zD]; by_cases c3 : p < 1
     · rw [zT c3, zC, if_pos (.inr (.inr (.inl c3)))]; rfl
     · rw [zF c3, zD]; by_cases c4 : 16 < p
       · rw [zT c4, zC, if_pos (.inr (.inr (.inr c4)))]; rfl
       · rw [zF c4, zD, if_neg (by omega)]; exact z06h hb (by omega) (by omega) (by omega) (by omega) hN bad N 0 0 rfl rfl (by omega) (fun h => h) (fun h => h)
theorem zbs {g : Geometry} {bad : List Int} (hb : bad.length < 4294967296) : z18 (g, bad) = some (z20 g bad) := by
 obtain ⟨hc, hp⟩ := zze g.blocks g.pages bad; show z6n g bad = _; unfold z6n z20; rw [zbr, z8]; cases fitsT g with
 | false => rfl
 | true =>
   rw [Bool.not_true, zD, z035 hb, z8]; by_cases c1 : (newT g.blocks g.pages bad).2 = 0
   · rw [zT c1, Bool.not_true, zD, zoq hc, z8]; by_cases c2 : g.spare < badsT (newT g.blocks g.pages bad).1
     · rw [zT c2, zC, if_pos (.inr (.inr c2))]; rfl
     · rw [zF c2, zD, if_neg (by simp [c1]; omega), z8v hc hp (z015 zoo _ _ _), z8]
   · rw [zF c1, Bool.not_false, zC, if_pos (.inr (.inl c1))]; rfl
def hasT (c : Chip) (t : Table) (s : Int) : Str := if s < 0 \/ (t.map.length : Int) <= s then [] else (pageT c (t.map.getD s.toNat 0)).1.data
def MapR (t : Table) : Prop := ∀ v ∈ t.map, I64 v
theorem z036 {c : Chip} {t : Table} (h : MapR t) (s : Int) : zj0 (c, t, s) = some (hasT c t s) := by
 show zek c t s = _; unfold zek hasT; by_cases c1 : s < 0
 · rw [zT c1, zC, if_pos (.inl c1)]
 · rw [zF c1, zD]; by_cases c2 : (t.map.length : Int) <= s
   · rw [zT c2, zC, if_pos (.inr c2)]
   · rw [zF c2, zD, zT (show 0 <= s by omega), zT (show s < (t.map.length : Int) by omega), if_neg (by omega), zzi _ (h _ (z07 (by omega))), z8]; rfl
def allD (d : Device) : List Str := (List.range d.table.map.length).map fun s : Nat => hasT d.chip d.table s
theorem z06i {d : Device} (h : MapR d.table) (hl : d.table.map.length < 4294967296) : ∀ (m N k : Nat) (i : Int), k + m = d.table.map.length -> i = k -> m < N -> zd zb9 N ((d.table.map.length : Int), i, d, ((List.range k).map fun s : Nat => hasT d.chip d.table s) ++ List.replicate m []) = some (allD d)
 | m, 0, _, _, _, _, h => by omega
 | 0, N + 1, k, i, h1, h2, _ => by
   rw [z6, zc6]; unfold z6o allD; dsimp only; rw [zF (by omega), zD, List.replicate_zero, List.append_nil, show k = d.table.map.length by omega]
 | m + 1, N + 1, k, i, h1, h2, h3 => by
   subst h2; rw [z6, zc6]; unfold z6o; simp only [Int.toNat_natCast, List.length_append, List.length_map, List.length_range, List.length_replicate]; rw [zT (show (k : Int) < (d.table.map.length : Int) by omega), zC, z036 h, z8, zT (show (0 : Int) <= k by omega), zT (show (k : Int) < ((k + (m + 1) : Nat) : Int) by omega), zT (show k < k + (m + 1) by omega)]; simp only [zC]; have e : (((List.range k).map fun s : Nat => hasT d.chip d.table s) ++ List.replicate (m + 1) []).set k (hasT d.chip d.table k) = ((List.range (k + 1)).map fun s : Nat => hasT d.chip d.table s) ++ List.replicate m [] := by
    rw [List.set_append_right _ _ (by simp)]; simp only [List.length_map, List.length_range, Nat.sub_self, List.replicate_succ, List.set_cons_zero, List.range_succ, List.map_append, List.map_cons, List.map_nil, List.append_assoc, List.cons_append, List.nil_append]
   rw [e]; exact z06i h hl m N (k + 1) _ (by omega) (by rw [zf (by omega) (by omega)]; omega) (by omega)
theorem zrd {d : Device} (h : MapR d.table) (hl : d.table.map.length < 4294967296) : za4 d = some (allD d) := by
 refine z0e (d.table.map.length + 1) fun N hN => ?_
 show zel N d = _; unfold zel; simp only [Int.toNat_natCast, List.length_replicate]; rw [zT (by omega), zT (by omega), zT (by omega), zT (by omega)]; simp only [zC]; exact z06i h hl d.table.map.length N 0 0 (by omega) rfl (by omega)
def resT (d : Device) : Int := 2 + 2 * max (d.geometry.spare - badsT d.chip) 0
theorem z037 {c : Chip} (hc : z0f c) : 0 <= badsT c /\ badsT c < 4294967296 := by
 have := z00v c.blocks; have := hc.1; unfold badsT; omega
theorem zq6 {d : Device} (hc : z0f d.chip) (hg : 0 <= d.geometry.spare /\ d.geometry.spare < 4294967296) : z5d d = some (resT d) := by
 have := z037 hc; show z5c d = _; unfold z5c resT; rw [zoq hc, z8, zf (n := d.geometry.spare - badsT d.chip) (by omega) (by omega), zf (n := 2 * max (d.geometry.spare - badsT d.chip) 0) (by omega) (by omega), zf (by omega) (by omega)]
theorem z0bt {f : Found} {i : Nat} {k : Int} {t : Table} (hf : I64 f.place) (hv : ∀ v ∈ f.record.values, I64 v) (h : MapR t) : MapR (app1 f i k t) := by
 unfold app1; split
 · split
   · intro v hm; rcases List.mem_or_eq_of_mem_set hm with h1 | rfl
     · exact h v h1
     · exact hf
   · split
     · rename_i hc; intro v hm; rcases List.mem_or_eq_of_mem_set hm with h1 | rfl
       · exact h v h1
       · exact hv _ (z07 hc.2)
     · exact h
 · exact h
theorem z096 {f : Found} (hf : I64 f.place) (hv : ∀ v ∈ f.record.values, I64 v) : ∀ (l : List Int) (i : Nat) (t : Table), MapR t -> MapR (appL f i l t)
 | [], i, t, h => h
 | k :: l, i, t, h => z096 hf hv l (i + 1) _ (z0bt hf hv h)
theorem z06j : ∀ (l : List Found) (t : Table), (∀ f ∈ l, I64 f.place /\ ∀ v ∈ f.record.values, I64 v) -> MapR t -> MapR (l.foldl applyT t)
 | [], t, _, h => h
 | f :: l, t, hl, h => z06j l _ (fun g hg => hl g (List.mem_cons_of_mem _ hg)) (z096 (hl f List.mem_cons_self).1 (hl f List.mem_cons_self).2 _ 0 t h)
theorem z038 {r : Record} (h : z2u r = true) : ∀ v ∈ r.values, I64 v := by
 intro v hv; unfold z2u at h; simp only [Bool.and_eq_true] at h; have h2 := h.2; split at h2
 · have : r.values = [] := by simpa using h2
   rw [this] at hv; cases hv
 · simp only [Bool.and_eq_true] at h2; have := List.all_eq_true.1 h2.1.1 v hv; unfold vr at this; simp at this; exact ⟨by omega, by omega⟩
theorem zx9 : ∀ (l : List Block) (b : Nat) (f : Found), f ∈ vb b l -> 0 <= f.place /\ f.place < 512
 | [], b, f, h => by simp [vb] at h
 | x :: l, b, f, h => by
   unfold vb at h; rcases List.mem_append.1 h with h | h
   · obtain ⟨q, _, h2, h3, h4⟩ := zhz h; omega
   · exact zx9 l _ f h
theorem z08i (c : Chip) (n : Int) : MapR (replayT c n).1 := by
 unfold replayT; rw [zx6]; refine z06j _ _ (fun f hf => ?_) (fun v hv => ?_)
 · have hm := (z08g c f).1 hf; have := zx9 _ _ _ hm; exact ⟨⟨by omega, by omega⟩, z038 (z018 _ _ _ hm)⟩
 · unfold tabT at hv; rw [(List.mem_replicate.1 hv).2]; exact ⟨by omega, by omega⟩
theorem z0az (g : Geometry) (c : Chip) : MapR (mountT g c).1.table := by
 unfold mountT; split
 · intro v hv; simp [zDev] at hv
 · split
   · intro v hv; simp [zDev] at hv
   · exact z08i c _
theorem z01c (g : Geometry) (bad : List Int) : MapR (z20 g bad).1.table := by
 unfold z20; split
 · intro v hv; simp [zDev] at hv
 · exact z0az _ _
end Clk
namespace Clk
open Go
theorem zzj (g : Geometry) (c : Chip) : 0 <= (mountT g c).1.geometry.spare /\ (mountT g c).1.geometry.spare < 4294967296 := by
 unfold mountT; split
 · exact ⟨by simp [zDev], by simp [zDev]⟩
 · rename_i h; have hf : fitsT g = true := by
    cases hg : fitsT g with
    | true => rfl
    | false => exact absurd (.inl hg) h
   unfold fitsT at hf; simp at hf; split
   · exact ⟨by simp [zDev], by simp [zDev]⟩
   · exact ⟨hf.1.1.2, by show g.spare < _; omega⟩
theorem zxa (g : Geometry) (bad : List Int) : 0 <= (z20 g bad).1.geometry.spare /\ (z20 g bad).1.geometry.spare < 4294967296 := by
 unfold z20; split
 · exact ⟨by simp [zDev], by simp [zDev]⟩
 · exact zzj _ _
def z01d : Bool :=
 let d := z20 (smallT 0) [2]
 let l := allD d.1
 fitsT (smallT 0) && !(fitsT ⟨0, 0, 0, 0⟩) && decide (d.2 = 0) && decide ((z20 (smallT 0) [2, 3]).2 = 1) && decide ((mountT (smallT 0) ⟨[], false, false, 0⟩).2 = 1) && decide (l.length = 5) && decide (l.getD 0 [] = []) && decide (d.1.opn = -1) && decide (resT d.1 = 2) && decide (d.1.chip.blocks.length = 8)
theorem z039 : z01d = true := by kernel_rfl
theorem zts : z2f () = some true := by
 have h := z039; unfold z01d at h; simp only [Bool.and_eq_true, decide_eq_true_eq, Bool.not_eq_true'] at h; obtain ⟨⟨⟨⟨⟨⟨⟨⟨⟨a1, a2⟩, a3⟩, a4⟩, a5⟩, a6⟩, a7⟩, a8⟩, a9⟩, a10⟩ := h; have hd := zr8 (g := smallT 0) (bad := [2]); have hm := hd.2.1; show z6p = _; unfold z6p; rw [z060 (by decide) (by decide), z8, zbs (by simp), z8, zbs (by simp), z8, z8v ⟨by simp, fun b hb => by simp at hb⟩ (fun b hb => by simp at hb) (fun b hb => by simp at hb), z8, zrd (z01c _ _) hm, z8, zbr, z8, zbr, z8, zq6 hd.1 (zxa _ _), z8]; rw [a1, a2, a3, a4, a5, a6, a7, a8, a9, a10]; rfl
def againT (g : Geometry) : Bool := decide ((z20 g []).2 = 0) && (allD (z20 g []).1).all (fun s => decide (s = [])) && decide (((allD (z20 g []).1).length : Int) = g.sectors) && !(decide ((z20 g []).1.chip = ⟨[], false, false, 0⟩))
theorem z08j : z3h.all againT = true := by kernel_rfl
theorem zzk (g : Geometry) (c : Chip) : mountT g (onT c) = mountT g c := rfl
theorem z01e {x : List Str} (hx : x.length < 4294967296) (hall : ∀ s ∈ x, s = []) {g : Geometry} {a d : Device} (ha : DevOk a) (hd : z0f d.chip) (hg : (x.length : Int) = g.sectors) (hne : d.chip ≠ ⟨[], false, false, 0⟩) : ∀ (l : List Str) (N k : Nat) (i : Int), x.drop k = l -> i = k -> l.length < N -> zd z2o N (true, 0, 0, 0, x, i, g, a, a, d) = some true
 | l, 0, _, _, _, _, h => by omega
 | [], N + 1, k, i, h1, h2, _ => by
   have := zp h1; rw [z6, z49]; unfold z0z; dsimp only; rw [zF (by omega), zD, zC, zT rfl, zC, zC, zC, zwt ha, z8, zT rfl, zC, zT hg, zC, zkv hd, z8, zF hne]; rfl
 | s :: l, N + 1, k, i, h1, h2, h3 => by
   obtain ⟨g1, g2, g3⟩ := zk h1; subst h2; have hs : s = [] := hall s (by rw [<- g2 default]; exact z07 g1); rw [z6, z49]; unfold z0z; simp only [Int.toNat_natCast, g2]; rw [zT (show (k : Int) < x.length by omega), zT (show (0 : Int) <= k by omega), zT hs]; simp only [zC]; exact z01e hx hall ha hd hg hne l N (k + 1) _ g3 (by rw [zf (by omega) (by omega)]; omega) (by simp at h3; omega)
theorem ztt {l : List Int} (hl : U16 l) (hn : l.length < 9223372036854775808) {n : Int} (h0 : 0 <= n /\ n < 256) : z4n (l, n) = some true := by
 have hci := z085 hl (za7 n); have ht := z032 l (smallT n).blocks (smallT n).pages; have hcg := z089 (za7 n) hl; have hag : againT (smallT n) = true := List.all_eq_true.1 z08j _ (za7 n); obtain ⟨o, hmo⟩ := z08a (za7 n) hcg; refine z0e 4294967297 fun N hN => ?_
 show z2g N l n = _; unfold z2g; rw [zts, z8, Bool.not_true, zD, z060 h0.1 h0.2, z8, zww hl hn (za7 n), z8, z8v hci.ok hci.pages ht, z8]; generalize smallT n = g at *; generalize chipT l g.blocks g.pages = c at *; have e1 : (mountT g c).1.chip = onT c := by rw [hmo]
 have e2 : (mountT g c).2 = 0 := by rw [hmo]
 rw [e1, z8v (c := onT c) hci.ok hci.pages ht, z8, zzk, e2, zbs (by simp), z8]; have hfd := zr8 (g := g) (bad := []); rw [zrd (z01c _ _) hfd.2.1, z8]; unfold againT at hag; simp only [Bool.and_eq_true, decide_eq_true_eq, Bool.not_eq_true', decide_eq_false_iff_not] at hag; obtain ⟨⟨⟨b1, b2⟩, b3⟩, b4⟩ := hag; rw [b1]; have hx : (allD (z20 g []).1).length < 4294967296 := by unfold allD; simp; exact hfd.2.1
 exact z01e hx (fun s hs => by have := List.all_eq_true.1 b2 s hs; simpa using this) (zwx hci.ok) hfd.1 b3 b4 (allD (z20 g []).1) N 0 0 rfl rfl (by omega)
end Clk
namespace Clk
open Go
theorem z0b0 {k : IntKind} {w : World} {a : Option Addr} {len cap : Nat} {zs : List Int} (h : IsRow k w a len cap zs) : ∀ n ∈ zs.take len, (Lit.int k n).wf = true := by
 intro n hn; rcases h with ⟨_, _, _, rfl⟩ | ⟨_, _, _, _, _, _, h⟩
 · simp at hn
 · exact h n (List.mem_of_mem_take hn)
theorem z0b1 {k : IntKind} {w : World} {a : Option Addr} {len cap : Nat} {zs : List Int} (h : IsRow k w a len cap zs) : (zs.take len).length < 9223372036854775808 := by
 rcases h with ⟨_, _, _, rfl⟩ | ⟨_, _, h1, h2, h3, _, _⟩
 · simp
 · have : maxLen = 9223372036854775807 := rfl; simp only [List.length_take]; omega
theorem z0cl {n : Int} (h : (Lit.int .u8 n).wf = true) : 0 <= n /\ n < 256 := by
 simp [Lit.wf, IntKind.min, IntKind.max, IntKind.signed, IntKind.bits] at h; omega
theorem z0bu {n : Int} (h : (Lit.int .u16 n).wf = true) : 0 <= n /\ n < 65536 := by
 simp [Lit.wf, IntKind.min, IntKind.max, IntKind.signed, IntKind.bits] at h; omega
theorem litU8 {n : Int} (h : (Lit.int .u8 n).wf = true) : 0 <= n /\ n < 256 := z0cl h
theorem rowU16 {w : World} {a : Option Addr} {len cap : Nat} {zs : List Int} (h : IsRow .u16 w a len cap zs) : U16 (zs.take len) := fun n hn => z0bu (z0b0 h n hn)
theorem rowLen {k : IntKind} {w : World} {a : Option Addr} {len cap : Nat} {zs : List Int} (h : IsRow k w a len cap zs) : (zs.take len).length < 9223372036854775808 := z0b1 h
end Clk
