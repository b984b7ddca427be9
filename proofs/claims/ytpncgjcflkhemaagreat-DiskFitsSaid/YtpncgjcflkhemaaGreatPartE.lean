/- A part of the proof of DiskFits: an evaluator of the program's code that the kernel runs, its soundness, what the functions compute. -/
import Derived.Test.YtpncgjcflkhemaaGreatPartD
import Derived.IntWalk
import Derived.KernelRfl
import Derived.ChangeSlices
import Derived.Sort.Row
set_option linter.unusedVariables false
set_option linter.unusedSimpArgs false
set_option maxRecDepth 1000000
namespace Clk
open Go
theorem z6 {X R : Type} (F : (X -> Option R) -> X -> Option R) (N : Nat) (x : X) : zg F (N + 1) x = F (zg F N) x := rfl
theorem zf {α : Type} {xs l : List α} {k : Nat} {a : α} (h : xs.drop k = a :: l) : k < xs.length /\ (∀ d, xs.getD k d = a) /\ xs.drop (k + 1) = l := by
 have hk : k < xs.length := by
  apply Nat.lt_of_not_le
  intro hn; rw [List.drop_eq_nil_of_le hn] at h; cases h
 rw [List.drop_eq_getElem_cons hk] at h; injection h with h1 h2
 exact ⟨hk, fun d => by rw [zI, zH hk, h1]; rfl, h2⟩
theorem zh {α : Type} {xs : List α} {k : Nat} (h : xs.drop k = []) : xs.length <= k := List.drop_eq_nil_iff.1 h
theorem zd {n : Int} (h1 : -9223372036854775808 <= n) (h2 : n < 9223372036854775808) : w64 n = n := Go.IntWalk.i64_in n ⟨h1, by omega⟩
theorem zo2 {n : Int} (h1 : 0 <= n) (h2 : n < 4294967296) : IntKind.u32.wrap n = n := Go.IntWalk.u32_in n ⟨h1, by omega⟩
theorem zmp {n : Int} (h1 : 0 <= n) (h2 : n < 256) : IntKind.u8.wrap n = n := Go.IntWalk.u8_in n ⟨h1, by omega⟩
theorem z7 {α β : Type} (a : α) (f : α -> Option β) : (some a).bind f = f a := rfl
theorem zdo {k : IntKind} {n m : Nat} (hn : n < 2 ^ k.bits) (hm : m < 2 ^ k.bits) : bXor k n m = ((n ^^^ m : Nat) : Int) := by
 unfold bXor; simp only [BitVec.ofInt_natCast, BitVec.toNat_xor, BitVec.toNat_ofNat, Nat.mod_eq_of_lt hn, Nat.mod_eq_of_lt hm]
theorem z03q {k : IntKind} {n m : Nat} (hn : n < 2 ^ k.bits) (hm : m < 2 ^ k.bits) : bAnd k n m = ((n &&& m : Nat) : Int) := by
 unfold bAnd; simp only [BitVec.ofInt_natCast, BitVec.toNat_and, BitVec.toNat_ofNat, Nat.mod_eq_of_lt hn, Nat.mod_eq_of_lt hm]
theorem z01c {k : IntKind} {n m : Nat} (hn : n < 2 ^ k.bits) (hm : m < 2 ^ k.bits) : bOr k n m = ((n ||| m : Nat) : Int) := by
 unfold bOr; simp only [BitVec.ofInt_natCast, BitVec.toNat_or, BitVec.toNat_ofNat, Nat.mod_eq_of_lt hn, Nat.mod_eq_of_lt hm]
def stepN (c : Nat) : Nat := if c % 2 = 1 then (c / 2) ^^^ 3988292384 else c / 2
def stepsN : Nat -> Nat -> Nat
 | 0, c => c
 | k + 1, c => stepsN k (stepN c)
def crcL : Str -> Nat -> Nat
 | [], c => c
 | b :: l, c => crcL l (stepsN 8 (c ^^^ b.toNat))
def crcT (s : Str) : Nat := crcL s 4294967295 ^^^ 4294967295
theorem zfx {a b : Nat} (ha : a < 4294967296) (hb : b < 4294967296) : a ^^^ b < 4294967296 := Nat.xor_lt_two_pow (n := 32) ha hb
theorem zpc {c : Nat} (h : c < 4294967296) : stepN c < 4294967296 := by
 unfold stepN; split
 · exact zfx (by omega) (by omega)
 · omega
theorem zfy : ∀ (k : Nat) {c : Nat}, c < 4294967296 -> stepsN k c < 4294967296
 | 0, c, h => h
 | k + 1, c, h => zfy k (zpc h)
theorem z01d (b : UInt8) : b.toNat < 256 := b.toNat_lt
theorem z01e : ∀ (s : Str) {c : Nat}, c < 4294967296 -> crcL s c < 4294967296
 | [], c, h => h
 | b :: l, c, h => z01e l (zfy 8 (zfx h (by have := z01d b; omega)))
theorem z01f (s : Str) : crcT s < 4294967296 := zfx (z01e s (by omega)) (by omega)
theorem zrv {c : Nat} (h : c < 4294967296) : z7q c = some ((stepN c : Nat) : Int) := by
 unfold z7q zc8 stepN; have h1 : Int.tmod (c : Int) 2 = ((c % 2 : Nat) : Int) := by rw [Int.tmod_eq_emod_of_nonneg (by omega)]; rfl
 have h2 : Int.tdiv (c : Int) 2 = ((c / 2 : Nat) : Int) := by rw [Int.tdiv_eq_ediv_of_nonneg (by omega)]; rfl
 rw [h1, h2, zd (n := ((c / 2 : Nat) : Int)) (by omega) (by omega), show (3988292384 : Int) = ((3988292384 : Nat) : Int) from rfl, zdo (k := .i64) (Nat.lt_trans (show c / 2 < 4294967296 by omega) (by decide)) (by decide)]; have h3 := zfx (show c / 2 < 4294967296 by omega) (show 3988292384 < 4294967296 by omega); rw [zd (n := ((c / 2 ^^^ 3988292384 : Nat) : Int)) (by omega) (by omega)]; by_cases h4 : c % 2 = 1
 · rw [if_pos h4, zT (by omega)]; rfl
 · rw [if_neg h4, zF (by omega)]; rfl
theorem zwp {ih0 : Str × Int × Int -> Option Int} {s : Str} {i : Int} (hi : w64 (i + 1) = i + 1) : ∀ (k N c : Nat) (j : Int), j = 8 - k -> k <= 8 -> c < 4294967296 -> k < N -> zg (z4c ih0) N (s, c, i, j) = ih0 (s, ((stepsN k c : Nat) : Int), i + 1)
 | 0, N + 1, c, j, h1, _, h2, _ => by
   rw [z6]; unfold z4c z8g; simp only [hi]; rw [zF (by omega)]; rfl
 | k + 1, N + 1, c, j, h1, h3, h2, h4 => by
   rw [z6]; unfold z4c z8g; simp only; rw [zT (show j < 8 by omega), zC, zrv h2, z7, zd (n := j + 1) (by omega) (by omega)]; exact zwp hi k N _ _ (by omega) (by omega) (zpc h2) (by omega)
 | _, 0, _, _, _, _, _, h => by omega
theorem zwq {s : Str} (hs : s.length < 4294967296) : ∀ (l : Str) (N M k c : Nat) (i : Int), s.drop k = l -> i = k -> c < 4294967296 -> 8 < M -> l.length < N -> zg (z4d M) N (s, c, i) = some (((crcL l c ^^^ 4294967295 : Nat)) : Int)
 | [], N + 1, M, k, c, i, h1, h2, h3, h4, _ => by
   rw [z6]; unfold z4d z8h; have := zh h1; simp only; rw [zF (by omega), zD, show (4294967295 : Int) = ((4294967295 : Nat) : Int) from rfl, zdo (k := .i64) (Nat.lt_trans h3 (by decide)) (by decide), zd]
   · rfl
   · omega
   · have := zfx h3 (show 4294967295 < 4294967296 by omega); omega
 | b :: l, N + 1, M, k, c, i, h1, h2, h3, h4, h5 => by
   rw [z6]; unfold z4d z8h; obtain ⟨g1, g2, g3⟩ := zf h1; have hb := z01d b; have hx := zfx h3 (show b.toNat < 4294967296 by omega); subst h2; simp only [Int.toNat_natCast, g2]; rw [zT (show (k : Int) < s.length by omega), zT (show (0 : Int) <= k by omega)]; simp only [zC]; rw [zd (n := (b.toNat : Int)) (by omega) (by omega), zdo (k := .i64) (Nat.lt_trans h3 (by decide)) (Nat.lt_trans (show b.toNat < 4294967296 by omega) (by decide)), zd (n := ((c ^^^ b.toNat : Nat) : Int)) (by omega) (by omega)]; rw [zwp (zd (by omega) (by omega)) 8 M _ 0 (by omega) (by omega) hx h4]; exact zwq hs l N M (k + 1) _ _ g3 (by omega) (zfy 8 hx) h4 (by simp at h5; omega)
 | _, 0, _, _, _, _, _, _, _, _, h => by omega
theorem zum {s : Str} (hs : s.length < 4294967296) : zek s = some ((crcT s : Nat) : Int) := by
 refine z04 (s.length + 9) fun N hN => ?_
 exact zwq hs s N N 0 4294967295 0 rfl rfl (by omega) (by omega) (by omega)
theorem and1 (c : Nat) : c &&& 1 = c % 2 := Nat.and_one_is_mod c
theorem z04p {ih0 : Str × Int × Int × Int -> Option Int} {s : Str} {i n : Int} (hi : w64 (i + 1) = i + 1) : ∀ (k N c : Nat) (j : Int), j = 8 - k -> k <= 8 -> c < 4294967296 -> k < N -> zg (z7t ih0) N (s, c, n, i, j) = ih0 (s, ((stepsN k c : Nat) : Int), n, i + 1)
 | 0, N + 1, c, j, h1, _, h2, _ => by
   rw [z6]; unfold z7t zca; simp only [hi]; rw [zF (by omega)]; rfl
 | k + 1, N + 1, c, j, h1, h3, h2, h4 => by
   rw [z6]; unfold z7t zca; simp only; have e1 : bAnd .u32 (c : Int) 1 = ((c % 2 : Nat) : Int) := by
    rw [show (1 : Int) = ((1 : Nat) : Int) from rfl, z03q (k := .u32) h2 (by decide), and1]
   have e2 : Int.fdiv (c : Int) (2 ^ (min 1 32)) = ((c / 2 : Nat) : Int) := by
    rw [show (2 : Int) ^ (min 1 32) = 2 from rfl, Int.fdiv_eq_ediv_of_nonneg _ (by omega)]; rfl
   have h6 := zfx (show c / 2 < 4294967296 by omega) (show 3988292384 < 4294967296 by omega); rw [zT (show j < 8 by omega), zC, e1, e2, zo2 (by omega) (by omega), show (3988292384 : Int) = ((3988292384 : Nat) : Int) from rfl, zdo (k := .u32) (show c / 2 < 4294967296 by omega) (by decide), zo2 (n := ((c / 2 ^^^ 3988292384 : Nat) : Int)) (by omega) (by omega), zd (n := j + 1) (by omega) (by omega)]; have h5 := z04p (ih0 := ih0) (s := s) (i := i) (n := n) hi k N (stepN c) (j + 1) (by omega) (by omega) (zpc h2) (by omega); unfold stepN at h5; show _ = ih0 (s, ((stepsN k (stepN c) : Nat) : Int), n, i + 1); unfold stepN; by_cases h7 : c % 2 = 1
   · rw [if_pos h7] at h5 ⊢; rw [zF (by omega), Bool.not_false, zC]; exact h5
   · rw [if_neg h7] at h5 ⊢; rw [zT (by omega), Bool.not_true, zD]; exact h5
 | _, 0, _, _, _, _, _, h => by omega
theorem z03r {c : Nat} (h : c < 4294967296) : bNot .u32 (c : Int) = ((c ^^^ 4294967295 : Nat) : Int) := by
 have := zdo (k := .u32) (n := 4294967295) (m := c) (by decide) h; rw [Nat.xor_comm] at this; exact this
theorem z04q {s : Str} (hs : s.length < 4294967296) : ∀ (l : Str) (N M k c : Nat) (i : Int), s.drop k = l -> i = k -> c < 4294967296 -> 8 < M -> l.length < N -> zg (z7u M) N (s, c, (s.length : Int), i) = some (((crcL l c ^^^ 4294967295 : Nat)) : Int)
 | [], N + 1, M, k, c, i, h1, h2, h3, h4, _ => by
   rw [z6]; unfold z7u zcb; have := zh h1; have h5 := zfx h3 (show 4294967295 < 4294967296 by omega); simp only; rw [zF (by omega), zD, z03r h3, zo2 (by omega) (by omega), zd (by omega) (by omega)]; rfl
 | b :: l, N + 1, M, k, c, i, h1, h2, h3, h4, h5 => by
   rw [z6]; unfold z7u zcb; obtain ⟨g1, g2, g3⟩ := zf h1; have hb := z01d b; have hx := zfx h3 (show b.toNat < 4294967296 by omega); subst h2; simp only [Int.toNat_natCast, g2]; rw [zT (show (k : Int) < s.length by omega), zT (show (0 : Int) <= k by omega)]; simp only [zC]; rw [zo2 (n := (b.toNat : Int)) (by omega) (by omega), zdo (k := .u32) h3 (show b.toNat < 4294967296 by omega), zo2 (n := ((c ^^^ b.toNat : Nat) : Int)) (by omega) (by omega)]; rw [z04p (zd (by omega) (by omega)) 8 M _ 0 (by omega) (by omega) hx h4]; exact z04q hs l N M (k + 1) _ _ g3 (by omega) (zfy 8 hx) h4 (by simp at h5; omega)
 | _, 0, _, _, _, _, _, _, _, _, h => by omega
theorem z01g {s : Str} (hs : s.length < 4294967296) : zl7 s = some ((crcT s : Nat) : Int) := by
 refine z04 (s.length + 9) fun N hN => ?_
 exact z04q hs s N N 0 4294967295 0 rfl rfl (by omega) (by omega) (by omega)
end Clk
namespace Clk
open Go
theorem zrw (n : Nat) : IntKind.u8.wrap (n : Int) = ((n % 256 : Nat) : Int) := by rw [IntKind.wrap_u8]; omega
theorem zrx (n : Nat) : UInt8.ofNat (n % 256) = UInt8.ofNat n := by
 apply UInt8.toNat_inj.1
 simp
def bytes4 (n : Nat) : Str := [UInt8.ofNat (n % 256), UInt8.ofNat (n / 256 % 256), UInt8.ofNat (n / 65536 % 256), UInt8.ofNat (n / 16777216)]
theorem zjm (n m : Nat) : Int.tdiv (n : Int) (m : Int) = ((n / m : Nat) : Int) := by rw [Int.tdiv_eq_ediv_of_nonneg (by omega)]; rfl
theorem zdp (n m : Nat) : Int.tmod (n : Int) (m : Int) = ((n % m : Nat) : Int) := by rw [Int.tmod_eq_emod_of_nonneg (by omega)]; rfl
theorem zfz (n m : Nat) : Int.fdiv (n : Int) (m : Int) = ((n / m : Nat) : Int) := by rw [Int.fdiv_eq_ediv_of_nonneg _ (by omega)]; rfl
theorem zpd {n : Nat} (h : n < 4294967296) : z5m n = some (bytes4 n) := by
 unfold z5m za6; rw [zF (show ¬ (n : Int) < 0 by omega), zF (show ¬ 4294967295 < (n : Int) by omega)]; simp only [zD]; have e1 : Int.tmod (n : Int) 256 = ((n % 256 : Nat) : Int) := zdp n 256; have e2 : Int.tdiv (n : Int) 256 = ((n / 256 : Nat) : Int) := zjm n 256; have e3 : Int.tdiv (n : Int) 65536 = ((n / 65536 : Nat) : Int) := zjm n 65536; have e4 : Int.tdiv (n : Int) 16777216 = ((n / 16777216 : Nat) : Int) := zjm n 16777216; have e5 : Int.tmod ((n / 256 : Nat) : Int) 256 = ((n / 256 % 256 : Nat) : Int) := zdp (n / 256) 256; have e6 : Int.tmod ((n / 65536 : Nat) : Int) 256 = ((n / 65536 % 256 : Nat) : Int) := zdp (n / 65536) 256; rw [e1, e2, e3, e4, zd (n := ((n / 256 : Nat) : Int)) (by omega) (by omega), zd (n := ((n / 65536 : Nat) : Int)) (by omega) (by omega), zd (n := ((n / 16777216 : Nat) : Int)) (by omega) (by omega), e5, e6]; rw [zmp (n := ((n % 256 : Nat) : Int)) (by omega) (by omega), zmp (n := ((n / 256 % 256 : Nat) : Int)) (by omega) (by omega), zmp (n := ((n / 65536 % 256 : Nat) : Int)) (by omega) (by omega), zmp (n := ((n / 16777216 : Nat) : Int)) (by omega) (by omega)]; rfl
theorem zry (M : Nat) (c : Int) : zg zdz (M + 5) (c, 0, [0, 0, 0, 0]) = some (z08 [IntKind.u8.wrap (Int.fdiv c 1), IntKind.u8.wrap (Int.fdiv c 256), IntKind.u8.wrap (Int.fdiv c 65536), IntKind.u8.wrap (Int.fdiv c 16777216)]) := by kernel_rfl
theorem zun {n : Nat} (h : n < 4294967296) : zet n = some (bytes4 n) := by
 refine z04 5 fun N hN => ?_
 obtain ⟨M, rfl⟩ : ∃ M, N = M + 5 := ⟨N - 5, by omega⟩; unfold zes; rw [zo2 (n := (n : Int)) (by omega) (by omega), zd (n := (n : Int)) (by omega) (by omega), zT rfl, Bool.not_true, zD, zry]; have e1 : Int.fdiv (n : Int) 1 = (n : Int) := by have := zfz n 1; rw [Nat.div_one] at this; exact this
 have e2 : Int.fdiv (n : Int) 256 = ((n / 256 : Nat) : Int) := zfz n 256; have e3 : Int.fdiv (n : Int) 65536 = ((n / 65536 : Nat) : Int) := zfz n 65536; have e4 : Int.fdiv (n : Int) 16777216 = ((n / 16777216 : Nat) : Int) := zfz n 16777216; rw [e1, e2, e3, e4, zrw, zrw, zrw, zrw]; simp only [z08, List.map_cons, List.map_nil, Int.toNat_natCast, bytes4]; rw [zrx (n / 16777216)]
def putN : Nat -> Nat -> Str
 | 0, n => [UInt8.ofNat n]
 | f + 1, n => if 127 < n then UInt8.ofNat (128 + n % 128) :: putN f (n / 128) else [UInt8.ofNat n]
def putV (n : Int) : Str := if n < 0 \/ 1099511627776 < n then [] else putN 5 n.toNat
theorem zwr : ∀ (f n : Nat), (putN f n).length <= f + 1
 | 0, n => Nat.le_refl _
 | f + 1, n => by
   unfold putN; split
   · have := zwr f (n / 128); simp; omega
   · simp
theorem zdq (n : Int) : (putV n).length <= 6 := by
 unfold putV; split
 · simp
 · exact zwr 5 _
theorem z06b : ∀ (f n : Nat), putN f n ≠ []
 | 0, n => by simp [putN]
 | f + 1, n => by unfold putN; split <;> simp
theorem zil : ∀ (f N n : Nat) (s : Str), n < 128 ^ (f + 1) -> n < 4611686018427387904 -> s.length + f < 1099511627776 -> f < N -> zg z8f N (n, s) = some (s ++ putN f n)
 | f, 0, n, s, _, _, _, h => by omega
 | 0, N + 1, n, s, h1, h5, h2, _ => by
   rw [z6]; rw [z9i]; unfold z4b; simp only [putN]; rw [zF (by omega), zD, zmp (n := (n : Int)) (by omega) (by omega), zT (by simp [z08]; omega), zC]; rfl
 | f + 1, N + 1, n, s, h1, h5, h2, h3 => by
   rw [z6]; rw [z9i]; unfold z4b; simp only [putN]; have e1 : Int.tmod (n : Int) 128 = ((n % 128 : Nat) : Int) := zdp n 128; have e2 : Int.tdiv (n : Int) 128 = ((n / 128 : Nat) : Int) := zjm n 128; by_cases h4 : 127 < n
   · rw [zT (show (127 : Int) < n by omega), zC, if_pos h4, e1, e2, zd (n := 128 + ((n % 128 : Nat) : Int)) (by omega) (by omega), zmp (n := 128 + ((n % 128 : Nat) : Int)) (by omega) (by omega), zT (by simp [z08]; omega), zC, zd (n := ((n / 128 : Nat) : Int)) (by omega) (by omega)]; have e3 : z08 [128 + ((n % 128 : Nat) : Int)] = [UInt8.ofNat (128 + n % 128)] := by simp only [z08, List.map_cons, List.map_nil]; congr 2
     rw [e3, zil f N (n / 128) _ (by rw [Nat.pow_succ] at h1; omega) (by omega) (by simp; omega) (by omega)]; simp
   · rw [zF (show ¬ (127 : Int) < n by omega), zD, if_neg h4, zmp (n := (n : Int)) (by omega) (by omega), zT (by simp [z08]; omega), zC]; rfl
theorem zl8 (n : Int) : za5 n = some (putV n) := by
 refine z04 6 fun N hN => ?_
 unfold zej putV; by_cases h1 : n < 0
 · rw [zT h1, zC, if_pos (.inl h1)]
 · by_cases h2 : 1099511627776 < n
   · rw [zF h1, zD, zT h2, zC, if_pos (.inr h2)]
   · rw [zF h1, zD, zF h2, zD, if_neg (by omega)]; obtain ⟨k, rfl⟩ : ∃ k : Nat, n = k := ⟨n.toNat, by omega⟩; have := zil 5 N k [] (by simp; omega) (by omega) (by simp) (by omega); simpa using this
theorem or128 {x : Nat} (h : x < 256) : x ||| 128 = 128 + x % 128 := by
 have : ∀ x : Fin 256, x.val ||| 128 = 128 + x.val % 128 := by decide +kernel
 exact this ⟨x, h⟩
theorem zeu (a b : List Int) : z08 (a ++ b) = z08 a ++ z08 b := by simp [z08]
theorem zl9 : ∀ (f N n : Nat) (s : List Int), n < 128 ^ (f + 1) -> n < 4611686018427387904 -> s.length + f < 1099511627776 -> f < N -> zg zak N (n, s) = some (z08 s ++ putN f n)
 | f, 0, n, s, _, _, _, h => by omega
 | 0, N + 1, n, s, h1, h5, h2, _ => by
   rw [z6]; rw [zbi]; unfold z5z; simp only [putN]; rw [zF (by omega), zD, zmp (n := (n : Int)) (by omega) (by omega), zT (by simp; omega), zC, zT (by simp; omega), zC, zeu]; rfl
 | f + 1, N + 1, n, s, h1, h5, h2, h3 => by
   rw [z6]; rw [zbi]; unfold z5z; simp only [putN]; have e2 : Int.fdiv (n : Int) (2 ^ (min 7 64)) = ((n / 128 : Nat) : Int) := zfz n 128; by_cases h4 : 127 < n
   · have e4 : IntKind.u8.wrap (bOr .u8 (IntKind.u8.wrap (n : Int)) 128) = 128 + ((n % 128 : Nat) : Int) := by
      rw [zrw, show (128 : Int) = ((128 : Nat) : Int) from rfl, z01c (k := .u8) (show n % 256 < 256 by omega) (by decide), or128 (by omega), zmp (by omega) (by omega)]; omega
     rw [zT (show (128 : Int) <= n by omega), zC, if_pos h4, e4, e2, zT (by simp; omega), zC, zT (by simp; omega), zC]; have e3 : z08 [128 + ((n % 128 : Nat) : Int)] = [UInt8.ofNat (128 + n % 128)] := by simp only [z08, List.map_cons, List.map_nil]; congr 2
     rw [zl9 f N (n / 128) _ (by rw [Nat.pow_succ] at h1; omega) (by omega) (by simp; omega) (by omega), zeu, e3]; simp
   · rw [zF (show ¬ (128 : Int) <= n by omega), zD, if_neg h4, zmp (n := (n : Int)) (by omega) (by omega), zT (by simp; omega), zC, zT (by simp; omega), zC, zeu]; rfl
theorem zo3 (n : Int) : zdn n = some (putV n) := by
 refine z04 6 fun N hN => ?_
 unfold zh9 putV; by_cases h1 : n < 0
 · rw [zT h1, zC, if_pos (.inl h1)]
 · by_cases h2 : 1099511627776 < n
   · rw [zF h1, zD, zT h2, zC, if_pos (.inr h2)]
   · rw [zF h1, zD, zF h2, zD, if_neg (by omega)]; obtain ⟨k, rfl⟩ : ∃ k : Nat, n = k := ⟨n.toNat, by omega⟩; have := zl9 5 N k [] (by simp; omega) (by omega) (by simp) (by omega); simpa [z08] using this
def packL : List Int -> Str -> Str × Int
 | [], s => (s, 0)
 | n :: l, s => if putV n = [] then ([], 1) else packL l (s ++ putV n)
def packT (l : List Int) : Str × Int := packL l (putV l.length)
theorem zg0 {xs : List Int} (hs : xs.length < 4294967296) : ∀ (l : List Int) (N k : Nat) (i : Int) (s : Str), xs.drop k = l -> i = k -> s.length + 6 * l.length < 1099511627776 -> l.length < N -> zg z6v N (xs, s, i) = some (packL l s)
 | l, 0, _, _, _, _, _, _, h => by omega
 | [], N + 1, k, i, s, h1, h2, h3, _ => by
   have := zh h1; rw [z6]; rw [z7o]; unfold z35; simp only [packL]; rw [zF (by omega)]; rfl
 | n :: l, N + 1, k, i, s, h1, h2, h3, h4 => by
   obtain ⟨g1, g2, g3⟩ := zf h1; subst h2; rw [z6]; rw [z7o]; unfold z35; simp only [Int.toNat_natCast, g2, packL, zl8, z7]; have hp := zdq n; simp only [List.length_cons] at h3 h4; rw [zT (show (k : Int) < xs.length by omega), zT (show (0 : Int) <= k by omega)]; simp only [zC]; by_cases h5 : putV n = []
   · rw [zT h5, if_pos h5]; rfl
   · rw [zF h5, if_neg h5, zD, zT (by omega), zC]; exact zg0 hs l N (k + 1) _ _ g3 (by rw [zd (by omega) (by omega)]; omega) (by simp; omega) (by omega)
theorem zcg {l : List Int} (hs : l.length < 4294967296) : z4w l = some (packT l) := by
 refine z04 (l.length + 1) fun N hN => ?_
 unfold zc6; rw [zl8, z7]; have := zdq l.length; exact zg0 hs l N 0 0 _ rfl rfl (by omega) (by omega)
theorem zim {xs : List Int} (hs : xs.length < 4294967296) : ∀ (l : List Int) (N k : Nat) (i : Int) (s : Str), xs.drop k = l -> i = k -> s.length + 6 * l.length < 1099511627776 -> l.length < N -> zg z8s N (s, xs, (xs.length : Int), i) = some (packL l s)
 | l, 0, _, _, _, _, _, _, h => by omega
 | [], N + 1, k, i, s, h1, h2, h3, _ => by
   have := zh h1; rw [z6]; rw [z9p]; unfold z4o; simp only [packL]; rw [zF (by omega)]; rfl
 | n :: l, N + 1, k, i, s, h1, h2, h3, h4 => by
   obtain ⟨g1, g2, g3⟩ := zf h1; subst h2; rw [z6]; rw [z9p]; unfold z4o; simp only [Int.toNat_natCast, g2, packL, zo3, z7]; have hp := zdq n; simp only [List.length_cons] at h3 h4; rw [zT (show (k : Int) < xs.length by omega), zT (show (0 : Int) <= k by omega)]; simp only [zC]; by_cases h5 : putV n = []
   · rw [zT h5, if_pos h5]; rfl
   · rw [zF h5, if_neg h5, zD, zT (by omega), zC]; exact zim hs l N (k + 1) _ _ g3 (by rw [zd (by omega) (by omega)]; omega) (by simp; omega) (by omega)
theorem zev {l : List Int} (hs : l.length < 4294967296) : z6z l = some (packT l) := by
 refine z04 (l.length + 1) fun N hN => ?_
 unfold zer; rw [zo3, z7]; have := zdq l.length; exact zim hs l N 0 0 _ rfl rfl (by omega) (by omega)
def takeN : Nat -> Bool -> Nat -> Nat -> Str -> Int × Str × Bool
 | 0, _, _, _, _ => (0, [], false)
 | _ + 1, _, _, _, [] => (0, [], false)
 | f + 1, first, n, u, c :: l => if c.toNat < 128 then (if 1099511627776 < n + c.toNat * u \/ (first = false /\ c.toNat = 0) then (0, [], false) else (((n + c.toNat * u : Nat) : Int), l, true)) else takeN f false (n + c.toNat % 128 * u) (u * 128) l
def z4y (s : Str) : Int × Str × Bool := takeN 6 true 0 1 s
theorem zg1 {s : Str} (hs : s.length < 4294967296) : ∀ (f N : Nat) (l : Str) (n u k : Nat) (i : Int), s.drop k = l -> i = k -> k + f = 6 -> n < u -> u = 128 ^ k -> f < N -> zg z6x N (s, n, u, i) = some (takeN f (k == 0) n u l)
 | f, 0, _, _, _, _, _, _, _, _, _, _, h => by omega
 | 0, N + 1, l, n, u, k, i, h1, h2, h3, h4, h5, h6 => by
   rw [z6]; rw [z37]; unfold z1k; simp only [takeN]; rw [zF (show ¬ i < 6 by omega), zD]; cases decide (i < (s.length : Int)) <;> rfl
 | f + 1, N + 1, [], n, u, k, i, h1, h2, h3, h4, h5, h6 => by
   have := zh h1; rw [z6]; rw [z37]; unfold z1k; simp only [takeN]; rw [zF (show ¬ i < (s.length : Int) by omega), zD]
 | f + 1, N + 1, c :: l, n, u, k, i, h1, h2, h3, h4, h5, h6 => by
   obtain ⟨g1, g2, g3⟩ := zf h1; subst h2; have hc := z01d c; have hu : u <= 34359738368 := by
    rw [h5]; exact Nat.le_trans (Nat.pow_le_pow_right (by omega) (show k <= 5 by omega)) (by decide)
   have hm : c.toNat * u <= 256 * 34359738368 := Nat.mul_le_mul (by omega) hu; have hm2 : c.toNat % 128 * u <= 127 * u := Nat.mul_le_mul (by omega) (Nat.le_refl _); rw [z6]; rw [z37]; unfold z1k; have e1 : Int.tmod (c.toNat : Int) 128 = ((c.toNat % 128 : Nat) : Int) := zdp c.toNat 128; simp only [Int.toNat_natCast, g2, takeN]; rw [zd (n := (c.toNat : Int)) (by omega) (by omega), e1]; have e2 : ((c.toNat % 128 : Nat) : Int) * (u : Int) = ((c.toNat % 128 * u : Nat) : Int) := by push_cast; rfl
   rw [e2, zd (n := ((c.toNat % 128 * u : Nat) : Int)) (by omega) (by omega), zd (n := (n : Int) + ((c.toNat % 128 * u : Nat) : Int)) (by omega) (by omega), zd (n := (k : Int) + 1) (by omega) (by omega)]; rw [zT (show (k : Int) < s.length by omega), zT (show (k : Int) < 6 by omega), zT (show (0 : Int) <= k by omega)]; simp only [zC]; by_cases h7 : c.toNat < 128
   · have e3 : c.toNat % 128 = c.toNat := Nat.mod_eq_of_lt h7; rw [e3, zT (show (c.toNat : Int) < 128 by omega), zC, if_pos h7]; by_cases h8 : 1099511627776 < n + c.toNat * u
     · rw [zT (by omega), zC, if_pos (.inl h8)]
     · rw [zF (show ¬ 1099511627776 < (n : Int) + ((c.toNat * u : Nat) : Int) by omega), zD]; have e4 : Int.toNat ((k : Int) + 1) = k + 1 := by omega
       rw [zT (show (0 : Int) <= (k : Int) + 1 by omega), zT (show (k : Int) + 1 <= s.length by omega), e4, g3]; simp only [zC]; by_cases h9 : k = 0
       · subst h9; rw [zF (by omega), zD, if_neg (by simp; omega)]; push_cast; rfl
       · rw [zT (show (0 : Int) < k by omega), zC]; by_cases h10 : c.toNat = 0
         · rw [zT (show (c.toNat : Int) = 0 by omega), zC, if_pos (.inr ⟨by simpa using h9, h10⟩)]
         · rw [zF (show ¬ (c.toNat : Int) = 0 by omega), zD, if_neg (by rintro (h | ⟨_, h⟩); exact h8 h; exact h10 h)]; push_cast; rfl
   · rw [zF (show ¬ (c.toNat : Int) < 128 by omega), zD, if_neg h7]; have e5 : (u : Int) * 128 = ((u * 128 : Nat) : Int) := by push_cast; rfl
     have e6 : (n : Int) + ((c.toNat % 128 * u : Nat) : Int) = ((n + c.toNat % 128 * u : Nat) : Int) := by push_cast; rfl
     rw [e5, zd (n := ((u * 128 : Nat) : Int)) (by omega) (by omega), e6]; have := zg1 hs f N l (n + c.toNat % 128 * u) (u * 128) (k + 1) ((k : Int) + 1) g3 (by omega) (by omega) (by omega) (by rw [h5, Nat.pow_succ]) (by omega); rw [this]; rfl
theorem zin {s : Str} (hs : s.length < 4294967296) : z7r s = some (z4y s) := by
 refine z04 7 fun N hN => ?_
 exact zg1 hs 6 N s 0 1 0 0 rfl rfl (by omega) (by omega) rfl (by omega)
theorem zla : ∀ (f : Nat) (b : Bool) (n u : Nat) (s : Str), (takeN f b n u s).2.1.length <= s.length /\ 0 <= (takeN f b n u s).1
 | 0, b, n, u, s => by simp [takeN]
 | f + 1, b, n, u, [] => by simp [takeN]
 | f + 1, b, n, u, c :: l => by
   unfold takeN; split
   · split
     · simp
     · simp; omega
   · have := zla f false (n + c.toNat % 128 * u) (u * 128) l; simp; omega
theorem z9q (s : Str) : (z4y s).2.1.length <= s.length := (zla 6 true 0 1 s).1
theorem zws (s : Str) : 0 <= (z4y s).1 := (zla 6 true 0 1 s).2
def unpackL : Nat -> Str -> List Int -> List Int × Str × Int
 | 0, s, acc => (acc, s, 0)
 | k + 1, s, acc => if (z4y s).2.2 = false then ([], [], 20) else unpackL k (z4y s).2.1 (acc ++ [(z4y s).1])
def zb (s : Str) : List Int × Str × Int := if (z4y s).2.2 = false \/ ((z4y s).2.1.length : Int) < (z4y s).1 then ([], [], 20) else unpackL (z4y s).1.toNat (z4y s).2.1 []
theorem zch {n : Int} (hn : n < 4294967296) : ∀ (m N k : Nat) (i : Int) (s : Str) (acc : List Int), (k : Int) + m = n -> i = k -> s.length < 4294967296 -> acc.length = k -> m < N -> zg z3w N (n, s, i, acc) = some (unpackL m s acc)
 | m, 0, _, _, _, _, _, _, _, _, h => by omega
 | 0, N + 1, k, i, s, acc, h1, h2, h3, h4, h5 => by
   rw [z6]; rw [z5e]; unfold z1u; simp only [unpackL]; rw [zF (by omega)]; rfl
 | m + 1, N + 1, k, i, s, acc, h1, h2, h3, h4, h5 => by
   rw [z6]; rw [z5e]; unfold z1u; simp only [unpackL, zin h3, z7]; rw [zT (show i < n by omega), zC]; have hl := z9q s; cases hb : (z4y s).2.2 with
   | false => rfl
   | true =>
     rw [if_neg (by simp), Bool.not_true, zD]; rw [zT (by simp; omega), zC, zT (by simp; omega), zC]; exact zch hn m N (k + 1) _ _ _ (by omega) (by rw [zd (by omega) (by omega)]; omega) (by omega) (by simp; omega) (by omega)
theorem z8v {s : Str} (hs : s.length < 4294967296) : z2d s = some (zb s) := by
 refine z04 (s.length + 1) fun N hN => ?_
 unfold z8j zb; simp only [zin hs, z7]; have hl := z9q s; have hn := zws s; cases hb : (z4y s).2.2 with
 | false => rfl
 | true =>
   rw [Bool.not_true, zD]; by_cases h1 : ((z4y s).2.1.length : Int) < (z4y s).1
   · rw [zT h1, zC, if_pos (.inr h1)]
   · rw [zF h1, zD, if_neg (by simp; omega)]; exact zch (by omega) _ N 0 0 _ _ (by omega) rfl (by omega) rfl (by omega)
theorem zg2 {a b : List Int} (hs : a.length < 4294967296) (hab : a.length = b.length) : ∀ (l m : List Int) (N k : Nat) (i : Int), a.drop k = l -> b.drop k = m -> i = k -> l.length < N -> zg z71 N (a, b, i) = some (decide (l = m))
 | l, m, 0, _, _, _, _, _, h => by omega
 | [], m, N + 1, k, i, h1, h2, h3, h4 => by
   have h5 := zh h1; have h6 : m = [] := by rw [<- h2]; exact List.drop_eq_nil_of_le (by omega)
   rw [z6]; rw [z7w]; unfold z3a; simp only; rw [zF (by omega), zD, h6]; rfl
 | x :: l, m, N + 1, k, i, h1, h2, h3, h4 => by
   obtain ⟨g1, g2, g3⟩ := zf h1; subst h3; cases m with
   | nil => have := zh h2; omega
   | cons y m =>
     obtain ⟨e1, e2, e3⟩ := zf h2; rw [z6]; rw [z7w]; unfold z3a; simp only [Int.toNat_natCast, g2, e2]; rw [zT (show (k : Int) < a.length by omega), zT (show (0 : Int) <= k by omega), zT (show (k : Int) < b.length by omega)]; simp only [zC]; by_cases hxy : x = y
     · rw [zT hxy, Bool.not_true, zD]; have := zg2 hs hab l m N (k + 1) (w64 (k + 1)) g3 e3 (by rw [zd (by omega) (by omega)]; omega) (by simp at h4; omega); rw [this]; simp [hxy]
     · rw [zF hxy, Bool.not_false, zC]; simp [hxy]
theorem zio {a b : List Int} (hs : a.length < 4294967296) : z7y (a, b) = some (decide (a = b)) := by
 refine z04 (a.length + 1) fun N hN => ?_
 show z7x N a b = _; unfold z7x; by_cases h : a.length = b.length
 · rw [zT (by omega), Bool.not_true, zD]; exact zg2 hs h a b N 0 0 rfl rfl rfl (by omega)
 · rw [zF (by omega), Bool.not_false, zC, zF (fun e => h (by rw [e]))]
end Clk
namespace Clk
open Go
def inr (n : Int) : Bool := decide (0 <= n) && decide (n < 64)
def chkL : Option Int -> List Int -> Bool
 | _, [] => true
 | p, a :: l => inr a && (match p with | none => true | some q => decide (q < a)) && chkL (some a) l
def keysT (l : List Int) : Bool := chkL none l && decide (0 < l.length) && decide (l.length <= 8)
theorem zg3 {xs : List Int} (hs : xs.length < 4294967296) : ∀ (l : List Int) (N k : Nat) (i : Int) (p : Option Int), xs.drop k = l -> i = k -> (k = 0 -> p = none) -> (∀ j, k = j + 1 -> p = some (xs.getD j 0)) -> l.length < N -> zg z6t N (xs, i) = some (chkL p l && decide (0 < xs.length) && decide (xs.length <= 8))
 | l, 0, _, _, _, _, _, _, _, h => by omega
 | [], N + 1, k, i, p, h1, h2, _, _, _ => by
   have := zh h1; rw [z6, z7n]; unfold z34; simp only [chkL, Bool.true_and]; rw [zF (by omega), zD]; by_cases h : 0 < xs.length
   · rw [zT (show (0 : Int) < (xs.length : Int) by omega), zC, zT h, Bool.true_and]; congr 1; rw [Bool.eq_iff_iff]; simp; omega
   · rw [zF (show ¬ (0 : Int) < (xs.length : Int) by omega), zD, zF h]; rfl
 | a :: l, N + 1, k, i, p, h1, h2, h3, h4, h5 => by
   obtain ⟨g1, g2, g3⟩ := zf h1; subst h2; have ih := zg3 hs l N (k + 1) (w64 (k + 1)) (some a) g3 (by rw [zd (by omega) (by omega)]; omega) (by omega) (fun j hj => by rw [show j = k by omega, g2]) (by simp at h5; omega); rw [z6, z7n]; unfold z34; simp only [Int.toNat_natCast, g2, chkL, inr, ih]; rw [zT (show (k : Int) < xs.length by omega), zT (show (0 : Int) <= k by omega)]; simp only [zC]; by_cases c1 : a < 0
   · rw [zT c1, zF (show ¬ 0 <= a by omega)]; simp
   · rw [zF c1, zT (show 0 <= a by omega), zD]; by_cases c2 : 64 <= a
     · rw [zT c2, zF (show ¬ a < 64 by omega)]; simp
     · rw [zF c2, zT (show a < 64 by omega), zD]; cases k with
       | zero => rw [h3 rfl, zF (by omega), zD]; simp
       | succ j =>
         have e1 : w64 (((j + 1 : Nat) : Int) - 1) = (j : Int) := by rw [zd (by omega) (by omega)]; omega
         rw [h4 j rfl, zT (show (0 : Int) < ((j + 1 : Nat) : Int) by omega), e1, zT (show (0 : Int) <= j by omega), zT (show (j : Int) < xs.length by omega)]; simp only [zC, Int.toNat_natCast]; by_cases c3 : xs.getD j 0 < a
         · rw [zF (show ¬ a <= xs.getD j 0 by omega), zT c3, zD]; simp
         · rw [zT (show a <= xs.getD j 0 by omega), zF c3, zC]; simp
theorem zrz {l : List Int} (hs : l.length < 4294967296) : zc5 l = some (keysT l) := by
 refine z04 (l.length + 1) fun N hN => ?_
 exact zg3 hs l N 0 0 none rfl rfl (fun _ => rfl) (by omega) (by omega)
def nd : List Int -> Bool
 | a :: b :: l => decide (a <= b) && nd (b :: l)
 | _ => true
def noEq : List Int -> Bool
 | a :: b :: l => decide (a ≠ b) && noEq (b :: l)
 | _ => true
theorem zwt : ∀ (l : List Int) (q : Int), chkL (some q) l = (l.all inr && nd (q :: l) && noEq (q :: l))
 | [], q => rfl
 | a :: l, q => by
   simp only [chkL, zwt l a, List.all_cons, nd, noEq]; by_cases h1 : q < a
   · rw [zT h1, zT (show q <= a by omega), zT (show q ≠ a by omega)]; cases inr a <;> simp
   · by_cases h2 : q = a
     · subst h2; simp
     · rw [zF h1, zF (show ¬ q <= a by omega)]; simp
theorem z03s (l : List Int) : chkL none l = (l.all inr && nd l && noEq l) := by
 cases l with
 | nil => rfl
 | cons a l => simp only [chkL, zwt, List.all_cons]; cases inr a <;> simp
theorem z04r : ∀ (l : List Int), nd l = true ↔ ∀ j, j + 1 < l.length -> l.getD j 0 <= l.getD (j + 1) 0
 | [] => by simp [nd]
 | [a] => by simp [nd]
 | a :: b :: l => by
   simp only [nd, Bool.and_eq_true, decide_eq_true_eq, z04r (b :: l)]; constructor
   · rintro ⟨h1, h2⟩ j hj
     cases j with
     | zero => exact h1
     | succ j => exact h2 j (by simpa using hj)
   · intro h; exact ⟨h 0 (by simp), fun j hj => h (j + 1) (by simpa using hj)⟩
theorem zyi (a b : Int) : zh6 (a, b) = some (decide (a < b)) := by
 show zdm a b = _; unfold zdm zac zeo; simp
theorem zs0 {xs : List Int} (hs : xs.length < 4294967296) : ∀ (k N : Nat) (i : Int), i = k -> (k = 0 \/ k < xs.length) -> k < N -> ∃ b : Bool, zg z29 N (xs, i) = some b /\ (b = true ↔ ∀ j, j < k -> xs.getD j 0 <= xs.getD (j + 1) 0)
 | k, 0, _, _, _, h => by omega
 | 0, N + 1, i, h1, _, _ => by
   rw [z6, z38]; unfold z0l; simp only; rw [zF (by omega), zD]; exact ⟨true, rfl, by simp⟩
 | k + 1, N + 1, i, h1, h2, h3 => by
   subst h1; have e1 : w64 (((k + 1 : Nat) : Int) - 1) = (k : Int) := by rw [zd (by omega) (by omega)]; omega
   obtain ⟨b, g1, g2⟩ := zs0 hs k N (k : Int) rfl (by omega) (by omega); rw [z6, z38]; unfold z0l; simp only [e1, Int.toNat_natCast, zyi, z7, g1]; rw [zT (show (0 : Int) < ((k + 1 : Nat) : Int) by omega), zT (show (0 : Int) <= ((k + 1 : Nat) : Int) by omega), zT (show ((k + 1 : Nat) : Int) < xs.length by omega), zT (show (0 : Int) <= k by omega), zT (show (k : Int) < xs.length by omega)]; simp only [zC]; by_cases hc : xs.getD (k + 1) 0 < xs.getD k 0
   · rw [zT hc, zC]; refine ⟨false, rfl, ?_⟩; simp only [Bool.false_eq_true, false_iff]; intro h; have := h k (by omega); omega
   · rw [zF hc, zD]; refine ⟨b, rfl, g2.trans ⟨fun h j hj => ?_, fun h j hj => h j (by omega)⟩⟩; by_cases hjk : j = k
     · subst hjk; omega
     · exact h j (by omega)
theorem zyj {l : List Int} (hs : l.length < 4294967296) : z40 l = some (nd l) := by
 refine z04 (l.length + 1) fun N hN => ?_
 unfold z3z; by_cases h0 : l.length = 0
 · have : l = [] := List.eq_nil_of_length_eq_zero h0; subst this; obtain ⟨M, rfl⟩ : ∃ M, N = M + 1 := ⟨N - 1, by omega⟩; rfl
 · obtain ⟨b, g1, g2⟩ := zs0 hs (l.length - 1) N (w64 ((l.length : Int) - 1)) (by rw [zd (by omega) (by omega)]; omega) (by omega) (by omega); rw [g1]; congr 1
   rw [Bool.eq_iff_iff, g2, z04r]; exact ⟨fun h j hj => h j (by omega), fun h j hj => h j (by omega)⟩
theorem z01h {a0 xs : List Int} (hs : xs.length < 4294967296) : ∀ (l : List Int) (N k : Nat) (i : Int) (ys : List Int), xs.drop k = l -> i = k -> l.length < N -> zg (zad a0) N (xs, (xs.length : Int), i, ys) = some (l.all inr)
 | l, 0, _, _, _, _, _, h => by omega
 | [], N + 1, k, i, ys, h1, h2, _ => by
   have := zh h1; rw [z6, zbc]; unfold z5t; simp only [List.all_nil]; rw [zF (by omega), zD]; rfl
 | a :: l, N + 1, k, i, ys, h1, h2, h3 => by
   obtain ⟨g1, g2, g3⟩ := zf h1; subst h2; have ih := z01h (a0 := a0) hs l N (k + 1) (w64 (k + 1)) ys g3 (by rw [zd (by omega) (by omega)]; omega) (by simp at h3; omega); rw [z6, zbc]; unfold z5t; simp only [Int.toNat_natCast, g2, ih, List.all_cons, inr]; rw [zT (show (k : Int) < xs.length by omega), zT (show (0 : Int) <= k by omega)]; simp only [zC, Bool.not_true, zD]; by_cases c1 : a < 0
   · rw [zT c1, zF (show ¬ 0 <= a by omega)]; simp
   · rw [zF c1, zT (show 0 <= a by omega), zD]; by_cases c2 : 64 <= a
     · rw [zT c2, zF (show ¬ a < 64 by omega)]; simp
     · rw [zF c2, zT (show a < 64 by omega), zD]; simp
theorem z01i {a0 v0 xs : List Int} (hv : v0.length = a0.length) (hs : xs.length < 4294967296) : ∀ (l : List Int) (N k : Nat) (i : Int) (ys : List Int), xs.drop k = l -> i = k -> l.length < N -> zg (zag a0 v0) N (xs, (xs.length : Int), i, ys) = some (l.all inr)
 | l, 0, _, _, _, _, _, h => by omega
 | [], N + 1, k, i, ys, h1, h2, _ => by
   have := zh h1; rw [z6, zbf]; unfold z5w; simp only [List.all_nil]; rw [zF (by omega), zD, zT (by omega)]
 | a :: l, N + 1, k, i, ys, h1, h2, h3 => by
   obtain ⟨g1, g2, g3⟩ := zf h1; subst h2; have ih := z01i hv hs l N (k + 1) (w64 (k + 1)) ys g3 (by rw [zd (by omega) (by omega)]; omega) (by simp at h3; omega); rw [z6, zbf]; unfold z5w; simp only [Int.toNat_natCast, g2, ih, List.all_cons, inr]; rw [zT (show (k : Int) < xs.length by omega), zT (show (0 : Int) <= k by omega)]; simp only [zC, Bool.not_true, zD]; by_cases c1 : a < 0
   · rw [zT c1, zF (show ¬ 0 <= a by omega)]; simp
   · rw [zF c1, zT (show 0 <= a by omega), zD]; by_cases c2 : 64 <= a
     · rw [zT c2, zF (show ¬ a < 64 by omega)]; simp
     · rw [zF c2, zT (show a < 64 by omega), zD]; simp
theorem z01j {a0 xs : List Int} {v0 : Int} (hv : ((v0.toNat : Nat) : Int) ≠ a0.length) (hs : xs.length < 4294967296) : ∀ (l : List Int) (N k : Nat) (i : Int) (ys : List Int), xs.drop k = l -> i = k -> l.length < N -> zg (zae a0 v0) N (xs, (xs.length : Int), i, ys) = some false
 | l, 0, _, _, _, _, _, h => by omega
 | [], N + 1, k, i, ys, h1, h2, _ => by
   have := zh h1; rw [z6, zbd]; unfold z5u; simp only; rw [zF (by omega), zD, zF hv]
 | a :: l, N + 1, k, i, ys, h1, h2, h3 => by
   obtain ⟨g1, g2, g3⟩ := zf h1; subst h2; have ih := z01j hv hs l N (k + 1) (w64 (k + 1)) ys g3 (by rw [zd (by omega) (by omega)]; omega) (by simp at h3; omega); rw [z6, zbd]; unfold z5u; simp only [Int.toNat_natCast, g2, ih]; rw [zT (show (k : Int) < xs.length by omega), zT (show (0 : Int) <= k by omega)]; simp only [zC, Bool.not_true, zD]; cases decide (a < 0) <;> cases decide (64 <= a) <;> rfl
theorem z01k {xs : List Int} (hs : xs.length < 4294967296) : ∀ (l : List Int) (N k : Nat) (i : Int), xs.drop k = l -> i = k -> l.length < N -> zg zai N (xs, (xs.length : Int), i) = some false
 | l, 0, _, _, _, _, h => by omega
 | [], N + 1, k, i, h1, h2, _ => by
   have := zh h1; rw [z6, zbh]; unfold z5y; simp only; rw [zF (by omega), zD]
 | a :: l, N + 1, k, i, h1, h2, h3 => by
   obtain ⟨g1, g2, g3⟩ := zf h1; subst h2; have ih := z01k hs l N (k + 1) (w64 (k + 1)) g3 (by rw [zd (by omega) (by omega)]; omega) (by simp at h3; omega); rw [z6, zbh]; unfold z5y; simp only [Int.toNat_natCast, g2, ih]; rw [zT (show (k : Int) < xs.length by omega), zT (show (0 : Int) <= k by omega)]; simp only [zC, Bool.not_true, zD]; cases decide (a < 0) <;> cases decide (64 <= a) <;> rfl
theorem zuo {a0 : List Int} (hs : a0.length < 4294967296) {M : Nat} (hM : a0.length < M) {b : Nat} (hb : b < a0.length) : ∀ (m N i k : Nat) (ys : List Int), k + m = a0.length - b -> 1 <= k -> i + 1 <= b + k -> ys.length = a0.length -> m < N -> zg (zaf M a0) N ((i : Int), (b : Int), ((a0.length - b : Nat) : Int), (k : Int), ys) = some false
 | m, 0, _, _, _, _, _, _, _, h => by omega
 | 0, N + 1, i, k, ys, h1, h2, h3, h4, _ => by
   rw [z6, zbe]; unfold z5v; simp only [Int.toNat_natCast]; rw [zF (show ¬ (k : Int) < ((a0.length - b : Nat) : Int) by omega), zD]; rw [zT (show (0 : Int) <= i by omega), zT (show (i : Int) <= ys.length by omega), zT (show 0 < ys.length by omega)]; simp only [zC]; rw [zT (by simp; omega), zC]; by_cases c1 : 0 < a0.length
   · rw [zT (show (0 : Int) < (a0.length : Int) by omega), zC]; cases decide ((a0.length : Int) <= 8) with
     | false => rfl
     | true => rw [zC]; exact z01j (by simp; omega) hs a0 M 0 0 _ rfl rfl hM
   · omega
 | m + 1, N + 1, i, k, ys, h1, h2, h3, h4, h5 => by
   have e1 : w64 ((k : Int) - 1) = ((k - 1 : Nat) : Int) := by rw [zd (by omega) (by omega)]; omega
   have e2 : w64 ((k : Int) + 1) = ((k + 1 : Nat) : Int) := by rw [zd (by omega) (by omega)]; rfl
   have e3 : w64 ((i : Int) + 1) = ((i + 1 : Nat) : Int) := by rw [zd (by omega) (by omega)]; rfl
   rw [z6, zbe]; unfold z5v; simp only [Int.toNat_natCast, e1, e2, e3]; rw [zT (show (k : Int) < ((a0.length - b : Nat) : Int) by omega), zT (show (0 : Int) <= k by omega), zT (show b + k < ys.length by omega), zT (show (0 : Int) <= ((k - 1 : Nat) : Int) by omega), zT (show ((k - 1 : Nat) : Int) < ((a0.length - b : Nat) : Int) by omega), zT (show b + (k - 1) < ys.length by omega), zT (show (0 : Int) <= i by omega), zT (show (i : Int) < ys.length by omega), zT (show i < ys.length by omega)]; simp only [zC]; rw [zuo hs hM hb m N (i + 1) (k + 1) _ (by omega) (by omega) (by omega) (by simpa using h4) (by omega), zuo hs hM hb m N i (k + 1) _ (by omega) (by omega) (by omega) h4 (by omega)]; cases (!decide (ys.getD (b + k) 0 = ys.getD (b + (k - 1)) 0)) <;> rfl
theorem z01l {a0 : List Int} (hs : a0.length < 4294967296) {M : Nat} (hM : a0.length < M) : ∀ (l : List Int) (N k : Nat) (i : Int), a0.drop k = l -> i = ((k + 1 : Nat) : Int) -> k < a0.length -> l.length < N -> zg (zah M a0) N (i, a0) = some (noEq l && decide (0 < a0.length) && decide (a0.length <= 8) && a0.all inr)
 | l, 0, _, _, _, _, _, h => by omega
 | [], N + 1, k, i, h1, h2, h3, _ => by have := zh h1; omega
 | [a], N + 1, k, i, h1, h2, h3, _ => by
   obtain ⟨g1, g2, g3⟩ := zf h1; have := zh g3; rw [z6, zbg]; unfold z5x; simp only [noEq, Bool.true_and]; rw [zF (show ¬ i < (a0.length : Int) by omega), zD]; rw [zT (show (0 : Int) < (a0.length : Int) by omega), zC, zT (show 0 < a0.length by omega), Bool.true_and]; by_cases c : a0.length <= 8
   · rw [zT (show (a0.length : Int) <= 8 by omega), zC, zT c, Bool.true_and]; exact z01i rfl hs a0 M 0 0 _ rfl rfl hM
   · rw [zF (show ¬ (a0.length : Int) <= 8 by omega), zD, zF c]; rfl
 | a :: b :: l, N + 1, k, i, h1, h2, h3, h4 => by
   obtain ⟨g1, g2, g3⟩ := zf h1; obtain ⟨g4, g5, g6⟩ := zf g3; subst h2; have e1 : w64 (((k + 1 : Nat) : Int) - 1) = (k : Int) := by rw [zd (by omega) (by omega)]; omega
   have ih := z01l hs hM (b :: l) N (k + 1) (w64 (((k + 1 : Nat) : Int) + 1)) g3 (by rw [zd (by omega) (by omega)]; omega) g4 (by simp at h4 ⊢; omega); rw [z6, zbg]; unfold z5x; simp only [Int.toNat_natCast, e1, g2, g5, ih]; rw [zT (show ((k + 1 : Nat) : Int) < a0.length by omega), zT (show (0 : Int) <= ((k + 1 : Nat) : Int) by omega), zT (show k + 1 < a0.length by omega), zT (show (0 : Int) <= (k : Int) by omega), zT (show (k : Int) < a0.length by omega), zT (show k < a0.length by omega), zT (show ((k + 1 : Nat) : Int) <= a0.length by omega)]; simp only [zC, noEq]; by_cases c : a = b
   · subst c; rw [zT rfl, zC]; rw [show (1 : Int) = ((1 : Nat) : Int) from rfl, zuo hs hM g4 (a0.length - (k + 1) - 1) M (k + 1) 1 _ (by omega) (by omega) (by omega) rfl (by omega)]; simp
   · rw [zF (fun e => c e.symm), zD, zT c]; simp
theorem zyk {l : List Int} (hs : l.length < 4294967296) : zh8 l = some (keysT l) := by
 refine z04 (l.length + 1) fun N hN => ?_
 unfold zh7 keysT; rw [zyj hs, z7, z03s]; cases hnd : nd l with
 | false =>
   rw [zD]; have : (l.all inr && false && noEq l && decide (0 < l.length) && decide (l.length <= 8)) = false := by simp
   rw [this, z01k hs l N 0 0 rfl rfl (by omega)]; cases decide (0 < (l.length : Int)) <;> cases decide ((l.length : Int) <= 8) <;> rfl
 | true =>
   rw [zC, zT (show l.length * 8 <= 70368744177664 by omega), zC, zT (show l.length <= 70368744177664 by omega), zC]; by_cases h2 : l.length < 2
   · rw [zT (show (l.length : Int) < 2 by omega), zC, z01h hs l N 0 0 l rfl rfl (by omega)]; have hq : noEq l = true := by
      cases l with
      | nil => rfl
      | cons a l => cases l with
        | nil => rfl
        | cons => simp only [List.length_cons] at h2; omega
     rw [hq, Bool.and_true, Bool.and_true]; by_cases c1 : 0 < l.length
     · rw [zT (show (0 : Int) < (l.length : Int) by omega), zC, zT c1, zT (show (l.length : Int) <= 8 by omega), zC, zT (show l.length <= 8 by omega)]; simp
     · rw [zF (show ¬ (0 : Int) < (l.length : Int) by omega), zD, zF c1]; simp
   · rw [zF (show ¬ (l.length : Int) < 2 by omega), zD]; have hl0 : 0 < l.length := by omega
     rw [z01l hs (M := N) (by omega) l N 0 1 rfl rfl hl0 (by omega)]; congr 1
     cases l.all inr <;> cases noEq l <;> cases decide (0 < l.length) <;> cases decide (l.length <= 8) <;> rfl
end Clk
namespace Clk
open Go
def vr (n : Int) : Bool := decide (-1 <= n) && decide (n < 512)
def rightT (r : Record) : Bool :=
 decide (0 <= r.seq) && decide (r.seq <= 1099511627776) && keysT r.keys && (if r.kind = 1 then decide (r.values = []) else r.values.all vr && decide (r.kind = 2) && decide (r.values.length = r.keys.length))
def RecOk (r : Record) : Prop := r.keys.length < 4294967296 /\ r.values.length < 4294967296
theorem ze0 {r : Record} (hr : RecOk r) : ∀ (l : List Int) (N k : Nat) (i : Int), r.values.drop k = l -> i = k -> l.length < N -> zg z5a N (i, r) = some (l.all vr && decide (r.kind = 2) && decide (r.values.length = r.keys.length))
 | l, 0, _, _, _, _, h => by omega
 | [], N + 1, k, i, h1, h2, _ => by
   have := zh h1; rw [z6, z6u]; unfold z2k; simp only [List.all_nil, Bool.true_and]; rw [zF (by omega), zD]; by_cases c : r.kind = 2
   · rw [zT c, zC, Bool.true_and]; congr 1; rw [Bool.eq_iff_iff]; simp only [decide_eq_true_eq]; omega
   · rw [zF c, zD]; rfl
 | a :: l, N + 1, k, i, h1, h2, h3 => by
   obtain ⟨g1, g2, g3⟩ := zf h1; have hv := hr.2; subst h2; have ih := ze0 hr l N (k + 1) (w64 (k + 1)) g3 (by rw [zd (by omega) (by omega)]; omega) (by simp at h3; omega); rw [z6, z6u]; unfold z2k; simp only [Int.toNat_natCast, g2, ih, List.all_cons, vr]; rw [zT (show (k : Int) < r.values.length by omega), zT (show (0 : Int) <= k by omega)]; simp only [zC]; by_cases c1 : a < -1
   · rw [zT c1, zF (show ¬ -1 <= a by omega)]; simp
   · rw [zF c1, zT (show -1 <= a by omega), zD]; by_cases c2 : 512 <= a
     · rw [zT c2, zF (show ¬ a < 512 by omega)]; simp
     · rw [zF c2, zT (show a < 512 by omega), zD]; simp
theorem zpe {r : Record} (hr : RecOk r) : za4 r = some (rightT r) := by
 refine z04 (r.values.length + 1) fun N hN => ?_
 unfold za3 rightT; by_cases h1 : r.seq < 0
 · rw [zT h1, zC, zF (show ¬ 0 <= r.seq by omega)]; rfl
 · by_cases h2 : 1099511627776 < r.seq
   · rw [zF h1, zD, zT h2, zC, zF (show ¬ r.seq <= 1099511627776 by omega)]; simp
   · rw [zF h1, zD, zF h2, zD, zT (show 0 <= r.seq by omega), zT (show r.seq <= 1099511627776 by omega), zrz hr.1, z7]; cases keysT r.keys with
     | false => rfl
     | true =>
       simp only [Bool.not_true, zD, Bool.true_and]; by_cases h3 : r.kind = 1
       · rw [zT h3, zC, if_pos h3]; congr 1; rw [Bool.eq_iff_iff]; simp
       · rw [zF h3, zD, if_neg h3]; exact ze0 hr r.values N 0 0 rfl rfl (by omega)
theorem ziq {r : Record} (hr : RecOk r) : ∀ (l : List Int) (N k : Nat) (i : Int), r.values.drop k = l -> i = k -> l.length < N -> zg z8q N (r.values, (r.values.length : Int), i, r) = some (l.all vr && (if r.kind = 1 then decide (r.values = []) else decide (r.kind = 2) && decide (r.values.length = r.keys.length)))
 | l, 0, _, _, _, _, h => by omega
 | [], N + 1, k, i, h1, h2, _ => by
   have := zh h1; rw [z6, z9n]; unfold z4m; simp only [List.all_nil, Bool.true_and]; rw [zF (by omega), zD]; by_cases c1 : r.kind = 1
   · rw [zT c1, zC, if_pos c1]; congr 1; rw [Bool.eq_iff_iff]; simp
   · rw [zF c1, zD, if_neg c1]; by_cases c : r.kind = 2
     · rw [zT c, zC, Bool.true_and]; congr 1; rw [Bool.eq_iff_iff]; simp only [decide_eq_true_eq]; omega
     · rw [zF c, zD]; rfl
 | a :: l, N + 1, k, i, h1, h2, h3 => by
   obtain ⟨g1, g2, g3⟩ := zf h1; have hv := hr.2; subst h2; have ih := ziq hr l N (k + 1) (w64 (k + 1)) g3 (by rw [zd (by omega) (by omega)]; omega) (by simp at h3; omega); rw [z6, z9n]; unfold z4m; simp only [Int.toNat_natCast, g2, ih, List.all_cons, vr]; rw [zT (show (k : Int) < r.values.length by omega), zT (show (0 : Int) <= k by omega)]; simp only [zC]; by_cases c1 : a < -1
   · rw [zT c1, zF (show ¬ -1 <= a by omega)]; simp
   · rw [zF c1, zT (show -1 <= a by omega), zD]; by_cases c2 : 512 <= a
     · rw [zT c2, zF (show ¬ a < 512 by omega)]; simp
     · rw [zF c2, zT (show a < 512 by omega), zD]; simp
theorem zup {r : Record} (hr : RecOk r) : zeq r = some (rightT r) := by
 refine z04 (r.values.length + 1) fun N hN => ?_
 unfold zep rightT; by_cases h1 : r.seq < 0
 · rw [zT h1, zC, zF (show ¬ 0 <= r.seq by omega)]; rfl
 · by_cases h2 : 1099511627776 < r.seq
   · rw [zF h1, zD, zT h2, zC, zF (show ¬ r.seq <= 1099511627776 by omega)]; simp
   · rw [zF h1, zD, zF h2, zD, zT (show 0 <= r.seq by omega), zT (show r.seq <= 1099511627776 by omega), zyk hr.1, z7]; cases keysT r.keys with
     | false => rfl
     | true =>
       simp only [Bool.not_true, zD, Bool.true_and]; rw [ziq hr r.values N 0 0 rfl rfl (by omega)]; by_cases h3 : r.kind = 1
       · rw [if_pos h3, if_pos h3]; congr 1
         cases hv : r.values with
         | nil => rfl
         | cons a l => simp
       · rw [if_neg h3, if_neg h3, Bool.and_assoc]
def movT (d : Int) (l : List Int) : List Int := l.map fun n => w64 (n + d)
def bodyT (r : Record) : Str := (packT [r.kind, r.seq]).1 ++ (packT r.keys).1 ++ (packT (movT 1 r.values)).1
def encT (r : Record) (data : Str) : Str × Int := if rightT r = false \/ 16 < data.length then ([], 1) else (bodyT r ++ bytes4 (crcT (bodyT r ++ data)), 0)
theorem zs1 : ∀ (l : List Int) (s : Str), (packL l s).1.length <= s.length + 6 * l.length
 | [], s => by simp [packL]
 | n :: l, s => by
   unfold packL; split
   · simp
   · have h1 := zs1 l (s ++ putV n); have h2 := zdq n; simp at h1 ⊢; omega
theorem z3e (l : List Int) : (packT l).1.length <= 6 * l.length + 6 := by
 have h1 := zs1 l (putV l.length); have h2 := zdq l.length; unfold packT; omega
theorem z01m {l : List Int} (h : keysT l = true) : 0 < l.length /\ l.length <= 8 := by
 unfold keysT at h; simp only [Bool.and_eq_true, decide_eq_true_eq] at h; exact ⟨h.1.2, h.2⟩
theorem zha {r : Record} (h : rightT r = true) : 0 < r.keys.length /\ r.keys.length <= 8 /\ r.values.length <= 8 /\ 0 <= r.seq /\ r.seq <= 1099511627776 /\ (r.kind = 1 \/ r.kind = 2) /\ (r.values.all vr = true) /\ keysT r.keys = true := by
 unfold rightT at h; simp only [Bool.and_eq_true, decide_eq_true_eq] at h; obtain ⟨⟨⟨h1, h2⟩, h3⟩, h4⟩ := h; obtain ⟨k1, k2⟩ := z01m h3; split at h4
 · rename_i hk; have : r.values = [] := by simpa using h4
   rw [this]; exact ⟨k1, k2, by simp, h1, h2, .inl hk, rfl, h3⟩
 · simp only [Bool.and_eq_true, decide_eq_true_eq] at h4; exact ⟨k1, k2, by omega, h1, h2, .inr h4.1.2, h4.1.1, h3⟩
theorem zg4 {r : Record} (h8 : r.values.length <= 8) (hk : r.keys.length <= 8) : ∀ (l : List Int) (N k : Nat) (i : Int) (acc : List Int), r.values.drop k = l -> i = k -> acc.length = k -> k <= 8 -> l.length < N -> zg z6w N (i, r, [r.kind, r.seq], acc) = some ((packT [r.kind, r.seq]).1 ++ (packT r.keys).1 ++ (packT (acc ++ movT 1 l)).1)
 | l, 0, _, _, _, _, _, _, _, h => by omega
 | [], N + 1, k, i, acc, h1, h2, h3, h6, _ => by
   have := zh h1; rw [z6, z7p]; unfold z36; simp only [movT, List.map_nil, List.append_nil]; rw [zF (by omega), zD, zcg (by simp), z7, zcg (by omega), z7, zcg (by omega), z7]; have q1 := z3e [r.kind, r.seq]; have q2 := z3e r.keys; have q3 := z3e acc; simp only [List.length_cons, List.length_nil] at q1; rw [zT (by omega), zC, zT (by rw [List.length_append]; omega), zC]
 | a :: l, N + 1, k, i, acc, h1, h2, h3, h6, h5 => by
   obtain ⟨g1, g2, g3⟩ := zf h1; subst h2; have ih := zg4 h8 hk l N (k + 1) (w64 (k + 1)) (acc ++ [w64 (a + 1)]) g3 (by rw [zd (by omega) (by omega)]; omega) (by simp; omega) (by omega) (by simp at h5; omega); rw [z6, z7p]; unfold z36; simp only [Int.toNat_natCast, g2, ih]; rw [zT (show (k : Int) < r.values.length by omega), zT (show (0 : Int) <= k by omega)]; simp only [zC]; rw [zT (by simp; omega), zC, zT (by simp; omega), zC]; simp [movT]
theorem zs2 {r : Record} (h : rightT r = true) : zc7 r = some (bodyT r) := by
 obtain ⟨_, h1, h2, _⟩ := zha h; refine z04 9 fun N hN => ?_
 have := zg4 h2 h1 r.values N 0 0 [] rfl rfl rfl (by omega) (by omega); rw [List.nil_append] at this; exact this
theorem zs3 {r : Record} (h : rightT r = true) : (bodyT r).length <= 200 := by
 obtain ⟨_, h1, h2, _⟩ := zha h; have q1 := z3e [r.kind, r.seq]; have q2 := z3e r.keys; have q3 := z3e (movT 1 r.values); have q4 : (movT 1 r.values).length = r.values.length := by simp [movT]
 simp only [List.length_cons, List.length_nil] at q1; unfold bodyT; simp only [List.length_append]; omega
theorem zmq {r : Record} {data : Str} (hr : RecOk r) (hd : data.length < 4294967296) : z8i (r, data) = some (encT r data) := by
 show z4e r data = _; unfold z4e encT; rw [zpe hr, z7]; cases h : rightT r with
 | false => rfl
 | true =>
   rw [Bool.not_true, zD]; by_cases h2 : 16 < data.length
   · rw [zT (show (16 : Int) < data.length by omega), zC, if_pos (.inr h2)]
   · have hb := zs3 h; rw [zF (show ¬ (16 : Int) < data.length by omega), zD, if_neg (by simp; omega), zs2 h, z7, zT (by omega), zC, zum (by simp; omega), z7, zpd (z01f _), z7, zT (by simp [bytes4]; omega), zC]
theorem zjn : ∀ (l : List Int) (s : Str), (∀ n ∈ l, 0 <= n /\ n <= 1099511627776) -> (packL l s).2 = 0
 | [], s, _ => rfl
 | n :: l, s, h => by
   have h1 := h n List.mem_cons_self; unfold packL; have : putV n ≠ [] := by
    unfold putV; rw [if_neg (by omega)]; exact z06b 5 _
   rw [if_neg this]; exact zjn l _ fun m hm => h m (List.mem_cons_of_mem _ hm)
theorem z03t {l : List Int} (h : l.all vr = true) : ∀ n ∈ l, -1 <= n /\ n < 512 := by
 intro n hn; have := List.all_eq_true.1 h n hn; unfold vr at this; simpa using this
theorem zo4 : ∀ {l : List Int} {p : Option Int}, chkL p l = true -> ∀ n ∈ l, 0 <= n /\ n < 64
 | [], _, _, n, hn => by cases hn
 | a :: l, p, h, n, hn => by
   simp only [chkL, Bool.and_eq_true] at h; rcases List.mem_cons.1 hn with rfl | hn
   · have := h.1.1; unfold inr at this; simpa using this
   · exact zo4 h.2 n hn
theorem zuq {l : List Int} (h : keysT l = true) : ∀ n ∈ l, 0 <= n /\ n < 64 := by
 unfold keysT at h; simp only [Bool.and_eq_true] at h; exact zo4 h.1.1
theorem zir {d : Int} {n : Nat} (hs : n < 4294967296) : ∀ (l : List Int) (N k : Nat) (i : Int) (pre : List Int), pre.length = k -> k + l.length = n -> i = k -> l.length < N -> zg z8r N (d, (n : Int), i, pre ++ l) = some (pre ++ movT d l)
 | l, 0, _, _, _, _, _, _, h => by omega
 | [], N + 1, k, i, pre, h1, h2, h3, _ => by
   rw [z6, z9o]; unfold z4n; simp only [List.length_nil] at h2; simp only [movT, List.map_nil]; rw [zF (by omega), zD]
 | a :: l, N + 1, k, i, pre, h1, h2, h3, h4 => by
   subst h3; simp only [List.length_cons] at h2 h4; have g2 : ∀ d, (pre ++ a :: l).getD k d = a := fun d => by subst h1; simp [zI]
   have g3 : ∀ x, (pre ++ a :: l).set k x = (pre ++ [x]) ++ l := fun x => by subst h1; simp
   have ih := zir (d := d) hs l N (k + 1) (w64 (k + 1)) (pre ++ [w64 (a + d)]) (by simp; omega) (by omega) (by rw [zd (by omega) (by omega)]; omega) (by omega); rw [z6, z9o]; unfold z4n; simp only [Int.toNat_natCast, g2, g3, ih]; have hl : (pre ++ a :: l).length = n := by simp; omega
   rw [hl, zT (show (k : Int) < n by omega), zT (show (0 : Int) <= k by omega), zT (show k < n by omega)]; simp [movT]
theorem zlb {l : List Int} {d : Int} (hs : l.length < 4294967296) : z2p (l, d) = some (movT d l) := by
 refine z04 (l.length + 1) fun N hN => ?_
 show zaj N l d = _; unfold zaj; rw [zT (by omega), zC, zT (by omega), zC]; exact zir hs l N 0 0 [] rfl (by simp) rfl (by omega)
theorem zs4 {r : Record} {data : Str} (hr : RecOk r) (hd : data.length < 4294967296) : zcc (r, data) = some (encT r data) := by
 show z7v r data = _; unfold z7v encT; rw [zup hr, z7]; cases h : rightT r with
 | false => rfl
 | true =>
   rw [Bool.not_true, zD]; by_cases h2 : 16 < data.length
   · rw [zT (show (16 : Int) < data.length by omega), zC, if_pos (.inr h2)]
   · have hb := zs3 h; obtain ⟨_, k1, k2, k3, k4, k5, k6, k7⟩ := zha h; have q1 := z3e [r.kind, r.seq]; have q2 := z3e r.keys; have q3 := z3e (movT 1 r.values); have q4 : (movT 1 r.values).length = r.values.length := by simp [movT]
     have e1 : (packT [r.kind, r.seq]).2 = 0 := zjn _ _ (by intro n hn; simp at hn; rcases hn with rfl | rfl <;> omega); have e2 : (packT r.keys).2 = 0 := zjn _ _ (by intro n hn; have := zuq k7 n hn; omega); have e3 : (packT (movT 1 r.values)).2 = 0 := zjn _ _ (by
      intro n hn; unfold movT at hn; obtain ⟨m, hm, rfl⟩ := List.mem_map.1 hn; have := z03t k6 m hm; rw [zd (by omega) (by omega)]; omega)
     have hb' := hb; unfold bodyT at hb'; simp only [List.length_cons, List.length_nil] at q1; rw [zF (show ¬ (16 : Int) < data.length by omega), zD, if_neg (by simp; omega), zlb (by omega), z7, zev (by simp), z7, e1, zT rfl, Bool.not_true, zD, zT (by omega), zC, zev (by omega), z7, e2, zT rfl, Bool.not_true, zD, zT (by omega), zC, zev (by omega), z7, e3, zT rfl, Bool.not_true, zD, zT (by rw [List.length_append]; omega), zC, zT (by omega), zC]; rw [z01g (by rw [List.length_append]; omega), z7, zun (z01f _), z7, zT (by simp only [bytes4, List.length_cons, List.length_nil]; omega), zC]; rfl
def zRec : Record := ⟨0, 0, [], []⟩
def mvT (l : List Int) : List Int := l.map fun n => w64 (n - 1)
def decT (tag data : Str) : Record × Int :=
 if (zb tag).2.2 ≠ 0 \/ (zb (zb tag).2.1).2.2 ≠ 0 \/ (zb (zb (zb tag).2.1).2.1).2.2 ≠ 0 \/ (zb tag).1.length ≠ 2 then (zRec, 30)
 else
  if (encT ⟨(zb tag).1.getD 0 0, (zb tag).1.getD 1 0, (zb (zb tag).2.1).1, mvT (zb (zb (zb tag).2.1).2.1).1⟩ data).2 ≠ 0 \/
   (encT ⟨(zb tag).1.getD 0 0, (zb tag).1.getD 1 0, (zb (zb tag).2.1).1, mvT (zb (zb (zb tag).2.1).2.1).1⟩ data).1 ≠ tag then (zRec, 30)
  else (⟨(zb tag).1.getD 0 0, (zb tag).1.getD 1 0, (zb (zb tag).2.1).1, mvT (zb (zb (zb tag).2.1).2.1).1⟩, 0)
theorem zlc : ∀ (k : Nat) (s : Str) (acc : List Int), (unpackL k s acc).2.1.length <= s.length /\ (unpackL k s acc).1.length <= acc.length + k
 | 0, s, acc => by simp [unpackL]
 | k + 1, s, acc => by
   unfold unpackL; split
   · simp
   · have h1 := zlc k (z4y s).2.1 (acc ++ [(z4y s).1]); have h2 := z9q s; simp at h1 ⊢; omega
theorem z0j (s : Str) : (zb s).2.1.length <= s.length /\ (zb s).1.length <= s.length := by
 unfold zb; split
 · simp
 · rename_i h; have h1 := zlc (z4y s).1.toNat (z4y s).2.1 []; have h2 := z9q s; have h3 : ¬ ((z4y s).2.1.length : Int) < (z4y s).1 := fun e => h (.inr e)
   simp at h1; omega
theorem zci {tag data : Str} {a b : Int} {ks vs : List Int} (hd : data.length < 4294967296) (hk : ks.length < 4294967296) (hv : vs.length < 4294967296) : ∀ (l : List Int) (N k : Nat) (i : Int) (acc : List Int), vs.drop k = l -> i = k -> acc.length = k -> k <= vs.length -> l.length < N ->
 zg z3x N (tag, data, vs, i, a, b, ks, acc) = some (if (encT ⟨a, b, ks, acc ++ mvT l⟩ data).2 ≠ 0 \/ (encT ⟨a, b, ks, acc ++ mvT l⟩ data).1 ≠ tag then (zRec, 30) else (⟨a, b, ks, acc ++ mvT l⟩, 0))
 | l, 0, _, _, _, _, _, _, _, h => by omega
 | [], N + 1, k, i, acc, h1, h2, h3, h6, _ => by
   have := zh h1; rw [z6, z5f]; unfold z1v; simp only [mvT, List.map_nil, List.append_nil]; rw [zF (by omega), zD, zmq ⟨hk, by simp; omega⟩ hd, z7]; generalize encT ⟨a, b, ks, acc⟩ data = x; by_cases c1 : x.2 = 0
   · rw [zT c1, Bool.not_true, zD]; by_cases c2 : x.1 = tag
     · rw [zT c2, Bool.not_true, zD, if_neg (by simp [c1, c2])]
     · rw [zF c2, Bool.not_false, zC, if_pos (.inr c2)]; rfl
   · rw [zF c1, Bool.not_false, zC, if_pos (.inl c1)]; rfl
 | x :: l, N + 1, k, i, acc, h1, h2, h3, h6, h5 => by
   obtain ⟨g1, g2, g3⟩ := zf h1; subst h2; have ih := zci (tag := tag) (a := a) (b := b) hd hk hv l N (k + 1) (w64 (k + 1)) (acc ++ [w64 (x - 1)]) g3 (by rw [zd (by omega) (by omega)]; omega) (by simp; omega) (by omega) (by simp at h5; omega); rw [z6, z5f]; unfold z1v; simp only [Int.toNat_natCast, g2, ih]; rw [zT (show (k : Int) < vs.length by omega), zT (show (0 : Int) <= k by omega)]; simp only [zC]; rw [zT (by simp; omega), zC, zT (by simp; omega), zC]; simp [mvT]
theorem zmr {tag data : Str} (ht : tag.length < 4294967296) (hd : data.length < 4294967296) : z8k (tag, data) = some (decT tag data) := by
 have q1 := z0j tag; have q2 := z0j (zb tag).2.1; have q3 := z0j (zb (zb tag).2.1).2.1; refine z04 (tag.length + 1) fun N hN => ?_
 show z4f N tag data = _; unfold z4f decT; rw [z8v ht, z7, z8v (by omega), z7, z8v (by omega), z7]; generalize zb tag = u1 at *; generalize zb u1.2.1 = u2 at *; generalize zb u2.2.1 = u3 at *; by_cases c1 : u1.2.2 = 0
 · rw [zT c1, Bool.not_true, zD]; by_cases c2 : u2.2.2 = 0
   · rw [zT c2, Bool.not_true, zD]; by_cases c3 : u3.2.2 = 0
     · rw [zT c3, Bool.not_true, zD]; by_cases c4 : u1.1.length = 2
       · rw [zT (show (u1.1.length : Int) = 2 by omega), Bool.not_true, zD, if_neg (by simp [c1, c2, c3, c4]), zT (by omega), zC, zT (by omega), zC]; have := zci (tag := tag) (a := u1.1.getD 0 0) (b := u1.1.getD 1 0) (ks := u2.1) (vs := u3.1) hd (by omega) (by omega) u3.1 N 0 0 [] rfl rfl rfl (by omega) (by omega); simpa using this
       · rw [zF (show ¬ (u1.1.length : Int) = 2 by omega), Bool.not_false, zC, if_pos (.inr (.inr (.inr c4)))]; rfl
     · rw [zF c3, Bool.not_false, zC, if_pos (.inr (.inr (.inl c3)))]; rfl
   · rw [zF c2, Bool.not_false, zC, if_pos (.inr (.inl c2))]; rfl
 · rw [zF c1, Bool.not_false, zC, if_pos (.inl c1)]; rfl
def PageOk (p : Page) : Prop := p.tag.length < 4294967296 /\ p.data.length < 4294967296
def lookT (p : Page) : Int × Record := if p.written = false then (0, zRec) else if (decT p.tag p.data).2 ≠ 0 then (2, zRec) else (1, (decT p.tag p.data).1)
theorem zs5 {p : Page} (h : PageOk p) : zc9 p = some (lookT p) := by
 show z7s p = _; unfold z7s lookT; cases p.written with
 | false => rfl
 | true =>
   rw [Bool.not_true, zD, zmr h.1 h.2, z7, if_neg (by simp)]; by_cases c : (decT p.tag p.data).2 = 0
   · rw [zT c, Bool.not_true, zD, if_neg (by simp [c])]
   · rw [zF c, Bool.not_false, zC, if_pos c]; rfl
end Clk
namespace Clk
open Go
def z0s (c : Chip) : Prop := c.blocks.length < 4294967296 /\ ∀ b ∈ c.blocks, b.pages.length < 4294967296
theorem z2f {α : Type} {l : List α} {i : Nat} {d : α} (h : i < l.length) : l.getD i d ∈ l := by
 rw [zI, zH h]; exact List.getElem_mem h
theorem z0s.get {c : Chip} (h : z0s c) {i : Nat} (hi : i < c.blocks.length) (d : Block) : (c.blocks.getD i d).pages.length < 4294967296 := h.2 _ (z2f hi)
theorem zo5 (acc : List Block) (n e : Int) (b : Bool) (p q : List Page) : bPages (acc ++ [⟨q, n, e, b⟩]) acc.length p = acc ++ [⟨p, n, e, b⟩] := by
 unfold bPages; simp [zI]
theorem z01n {α : Type} {xs : List α} {k : Nat} {d : α} (h : k < xs.length) : xs.take k ++ [xs.getD k d] = xs.take (k + 1) := by
 rw [List.take_add_one, zH h, zI, zH h]; rfl
theorem z01o {R : Type} {c : Chip} (h : z0s c) {k : Nat} {i : Int} (hi : i = k) (hk : k < c.blocks.length) {ih : Int -> List Block -> Option R} {e : Option R} :
 cond (decide (i < (c.blocks.length : Int)))
  (cond (decide (0 <= i)) (cond (decide (i < (c.blocks.length : Int))) (cond (decide ((0 + (c.blocks.getD i.toNat default).pages.length) * 40 <= 70368744177664)) (cond (decide (0 + (c.blocks.getD i.toNat default).pages.length <= 70368744177664)) (cond (decide (((c.blocks.take k).length + 1) * 48 <= 70368744177664)) (cond (decide ((c.blocks.take k).length + 1 <= 70368744177664))
    (ih (w64 (i + 1)) (bPages (c.blocks.take k ++ [(Block.mk [] (c.blocks.getD i.toNat default).next (c.blocks.getD i.toNat default).erases (c.blocks.getD i.toNat default).bad)]) (c.blocks.take k).length ([] ++ (c.blocks.getD i.toNat default).pages))) none) none) none) none) none) none) e = ih ((k + 1 : Nat) : Int) (c.blocks.take (k + 1)) := by
 subst hi; have h1 := h.1; have h2 := h.get hk default; simp only [Int.toNat_natCast, zo5, List.nil_append]; rw [zT (show (k : Int) < c.blocks.length by omega), zT (show (0 : Int) <= k by omega)]; simp only [zC]; rw [zT (by omega), zC, zT (by omega), zC, zT (by rw [List.length_take]; omega), zC, zT (by rw [List.length_take]; omega), zC, zd (by omega) (by omega), <- z01n (d := default) hk]; rfl
theorem z07g {c : Chip} (h : z0s c) : ∀ (m N k : Nat) (i : Int), k + m = c.blocks.length -> i = k -> m < N -> zg z5q N (i, c, c.blocks.take k) = some ⟨c.blocks, c.broken, false, c.ops⟩
 | m, 0, _, _, _, _, h => by omega
 | 0, N + 1, k, i, h1, h2, _ => by
   rw [z6, zbb]; unfold z5p; simp only; rw [zF (by omega), zD, List.take_of_length_le (by omega)]
 | m + 1, N + 1, k, i, h1, h2, h3 => by
   rw [z6, zbb]; unfold z5p; rw [z01o (ih := fun i l => zg z5q N (i, c, l)) h h2 (by omega)]; exact z07g h m N (k + 1) _ (by omega) rfl (by omega)
def onT (c : Chip) : Chip := ⟨c.blocks, c.broken, false, c.ops⟩
theorem s_On {c : Chip} (h : z0s c) : zh5 c = some (onT c) := by
 refine z04 (c.blocks.length + 1) fun N hN => ?_
 exact z07g h c.blocks.length N 0 0 (by omega) rfl (by omega)
end Clk
namespace Clk
open Go
def zPage : Page := ⟨false, [], []⟩
def zChip : Chip := ⟨[], false, false, 0⟩
def newL (n : Int) : List Int -> List Block -> Chip × Int
 | [], bs => (⟨bs, false, false, 0⟩, 0)
 | x :: l, bs => if x < 0 \/ n <= x then (zChip, 1) else newL n l (bBad bs x.toNat true)
def newT (blocks pages : Int) (bad : List Int) : Chip × Int :=
 if blocks < 1 \/ 32 < blocks \/ pages < 1 \/ 16 < pages then (zChip, 1) else newL blocks bad (List.replicate blocks.toNat ⟨List.replicate pages.toNat zPage, 0, 0, false⟩)
theorem z04s {n : Int} {bad : List Int} (hb : bad.length < 4294967296) : ∀ (l : List Int) (N k : Nat) (i : Int) (bs : List Block), bad.drop k = l -> i = k -> (bs.length : Int) = n -> l.length < N -> zg z8o N (n, bad, i, false, false, 0, bs) = some (newL n l bs)
 | l, 0, _, _, _, _, _, _, h => by omega
 | [], N + 1, k, i, bs, h1, h2, h3, _ => by
   have := zh h1; rw [z6, z9l]; unfold z4k; simp only [newL]; rw [zF (by omega), zD]
 | x :: l, N + 1, k, i, bs, h1, h2, h3, h4 => by
   obtain ⟨g1, g2, g3⟩ := zf h1; subst h2; rw [z6, z9l]; unfold z4k; simp only [Int.toNat_natCast, g2, newL]; rw [zT (show (k : Int) < bad.length by omega), zT (show (0 : Int) <= k by omega)]; simp only [zC]; by_cases c1 : x < 0
   · rw [zT c1, zC, if_pos (.inl c1)]; rfl
   · rw [zF c1, zD]; by_cases c2 : n <= x
     · rw [zT c2, zC, if_pos (.inr c2)]; rfl
     · rw [zF c2, zD, if_neg (by omega), zT (show 0 <= x by omega), zC, zT (show x < (bs.length : Int) by omega), zC, zT (show x.toNat < bs.length by omega), zC]; exact z04s hb l N (k + 1) _ _ g3 (by rw [zd (by omega) (by omega)]; omega) (by unfold bBad; simpa using h3) (by simp at h4; omega)
theorem z04t {n p : Int} {bad : List Int} (hb : bad.length < 4294967296) (hn : n <= 32) (hp : 1 <= p) (hp2 : p <= 16) {M : Nat} (hM : bad.length < M) : ∀ (m N k : Nat) (i : Int), (k : Int) + m = n -> i = k -> m < N -> zg (z8p M) N (n, p, bad, i, false, false, 0, List.replicate k ⟨List.replicate p.toNat zPage, 0, 0, false⟩) = some (newL n bad (List.replicate n.toNat ⟨List.replicate p.toNat zPage, 0, 0, false⟩))
 | m, 0, _, _, _, _, h => by omega
 | 0, N + 1, k, i, h1, h2, _ => by
   rw [z6, z9m]; unfold z4l; simp only; rw [zF (by omega), zD, show n.toNat = k by omega]; exact z04s hb bad M 0 0 _ rfl rfl (by simp; omega) hM
 | m + 1, N + 1, k, i, h1, h2, h3 => by
   subst h2; rw [z6, z9m]; unfold z4l; simp only [zo5]; simp only [List.length_replicate]; rw [zT (show (k : Int) < n by omega), zT (show 0 <= p by omega), zT (show p <= p by omega), zT (show p * 40 <= 70368744177664 by omega), zT (show p <= 70368744177664 by omega), zT (show (k + 1) * 48 <= 70368744177664 by omega), zT (show k + 1 <= 70368744177664 by omega)]; simp only [zC]; have e : List.replicate k (Block.mk (List.replicate p.toNat zPage) 0 0 false) ++ [⟨List.replicate p.toNat (default : Page), 0, 0, false⟩] = List.replicate (k + 1) ⟨List.replicate p.toNat zPage, 0, 0, false⟩ := by
    rw [List.replicate_succ']; rfl
   rw [e]; exact z04t hb hn hp hp2 hM m N (k + 1) _ (by omega) (by rw [zd (by omega) (by omega)]; omega) (by omega)
theorem zur {n p : Int} {bad : List Int} (hb : bad.length < 4294967296) : zen (n, p, bad) = some (newT n p bad) := by
 refine z04 (bad.length + 34) fun N hN => ?_
 show zab N n p bad = _; unfold zab newT; by_cases c1 : n < 1
 · rw [zT c1, zC, if_pos (.inl c1)]; rfl
 · rw [zF c1, zD]; by_cases c2 : 32 < n
   · rw [zT c2, zC, if_pos (.inr (.inl c2))]; rfl
   · rw [zF c2, zD]; by_cases c3 : p < 1
     · rw [zT c3, zC, if_pos (.inr (.inr (.inl c3)))]; rfl
     · rw [zF c3, zD]; by_cases c4 : 16 < p
       · rw [zT c4, zC, if_pos (.inr (.inr (.inr c4)))]; rfl
       · rw [zF c4, zD, if_neg (by omega)]; exact z04t hb (by omega) (by omega) (by omega) (M := N) (by omega) n.toNat N 0 0 (by omega) rfl (by omega)
theorem z06c (p q : Page) : ((p.written == q.written) && ((decide (p.data = q.data)) && (decide (p.tag = q.tag)))) = decide (p = q) := by
 obtain ⟨a, b, c⟩ := p; obtain ⟨a', b', c'⟩ := q; rw [Bool.eq_iff_iff]; simp
theorem z01p {ih0 : Int × Chip × Chip -> Option Bool} {a b : Chip} {x y : Block} {n : Int} (hx : x.pages.length < 4294967296) (hxy : x.pages.length = y.pages.length) : ∀ (l m : List Page) (N k : Nat) (i : Int), x.pages.drop k = l -> y.pages.drop k = m -> i = k -> l.length < N -> zg (z72 ih0) N (n, i, a, b, x, y) = if l = m then ih0 (w64 (n + 1), a, b) else some false
 | l, m, 0, _, _, _, _, _, h => by omega
 | [], m, N + 1, k, i, h1, h2, h3, h4 => by
   have h5 := zh h1; have h6 : m = [] := by rw [<- h2]; exact List.drop_eq_nil_of_le (by omega)
   rw [z6, z7z]; unfold z3b; simp only; rw [zF (by omega), zD, h6, if_pos rfl]
 | p :: l, m, N + 1, k, i, h1, h2, h3, h4 => by
   obtain ⟨g1, g2, g3⟩ := zf h1; subst h3; cases m with
   | nil => have := zh h2; omega
   | cons q m =>
     obtain ⟨e1, e2, e3⟩ := zf h2; rw [z6, z7z]; unfold z3b; simp only [Int.toNat_natCast, g2, e2, z06c]; rw [zT (show (k : Int) < x.pages.length by omega), zT (show (0 : Int) <= k by omega), zT (show (k : Int) < y.pages.length by omega)]; simp only [zC]; by_cases hpq : p = q
     · rw [zT hpq, Bool.not_true, zD]; have := z01p (ih0 := ih0) (a := a) (b := b) (n := n) hx hxy l m N (k + 1) (w64 (k + 1)) g3 e3 (by rw [zd (by omega) (by omega)]; omega) (by simp at h4; omega); rw [this]; simp [hpq]
     · rw [zF hpq, Bool.not_false, zC, if_neg (by simp [hpq])]
theorem z01q {a b : Chip} (ha : z0s a) (hab : a.blocks.length = b.blocks.length) {M : Nat} (hM : 4294967296 < M) : ∀ (l m : List Block) (N k : Nat) (i : Int), a.blocks.drop k = l -> b.blocks.drop k = m -> i = k -> l.length < N -> zg (z73 M) N (i, a, b) = some (decide (l = m))
 | l, m, 0, _, _, _, _, _, h => by omega
 | [], m, N + 1, k, i, h1, h2, h3, h4 => by
   have h5 := zh h1; have h6 : m = [] := by rw [<- h2]; exact List.drop_eq_nil_of_le (by omega)
   rw [z6, z80]; unfold z3c; simp only; rw [zF (by omega), zD, h6]; rfl
 | x :: l, m, N + 1, k, i, h1, h2, h3, h4 => by
   obtain ⟨g1, g2, g3⟩ := zf h1; subst h3; cases m with
   | nil => have := zh h2; omega
   | cons y m =>
     obtain ⟨e1, e2, e3⟩ := zf h2; have hl := ha.1; have hx : x.pages.length < 4294967296 := by have := ha.get g1 default; rw [g2] at this; exact this
     rw [z6, z80]; unfold z3c; simp only [Int.toNat_natCast, g2, e2]; rw [zT (show (k : Int) < a.blocks.length by omega), zT (show (0 : Int) <= k by omega), zT (show (k : Int) < b.blocks.length by omega)]; simp only [zC]; have hne : ∀ {P : Prop}, (x = y -> P) -> ¬ P -> some false = some (decide (x :: l = y :: m)) := fun h1 h2 => by
      rw [zF]; intro e; injection e with e _; exact h2 (h1 e)
     by_cases c1 : x.next = y.next
     · rw [zT c1, Bool.not_true, zD]; by_cases c2 : x.erases = y.erases
       · rw [zT c2, Bool.not_true, zD]; by_cases c3 : x.bad = y.bad
         · rw [show (x.bad == y.bad) = true by simp [c3], Bool.not_true, zD]; by_cases c4 : x.pages.length = y.pages.length
           · rw [zT (show (x.pages.length : Int) = y.pages.length by omega), Bool.not_true, zD, z01p hx c4 _ _ M 0 0 rfl rfl rfl (by simp; omega)]; simp only [List.drop_zero]; have := z01q ha hab hM l m N (k + 1) (w64 (k + 1)) g3 e3 (by rw [zd (by omega) (by omega)]; omega) (by simp at h4; omega); rw [this]; by_cases c5 : x.pages = y.pages
             · rw [if_pos c5]; have : x = y := by cases x; cases y; simp_all
               simp [this]
             · rw [if_neg c5]; exact hne (congrArg Block.pages) c5
           · rw [zF (by omega), Bool.not_false, zC]; exact hne (fun e => by rw [e]) c4
         · rw [show (x.bad == y.bad) = false by simp [c3], Bool.not_false, zC]; exact hne (congrArg Block.bad) c3
       · rw [zF c2, Bool.not_false, zC]; exact hne (congrArg Block.erases) c2
     · rw [zF c1, Bool.not_false, zC]; exact hne (congrArg Block.next) c1
theorem zs6 {a b : Chip} (ha : z0s a) : zce (a, b) = some (decide (a = b)) := by
 have hl := ha.1; refine z04 4294967297 fun N hN => ?_
 show z81 N a b = _; unfold z81; by_cases c1 : a.blocks.length = b.blocks.length
 · rw [zT (by omega), Bool.not_true, zD]; by_cases c2 : a.broken = b.broken
   · rw [show (a.broken == b.broken) = true by simp [c2], Bool.not_true, zD]; by_cases c3 : a.off = b.off
     · rw [show (a.off == b.off) = true by simp [c3], Bool.not_true, zD]; by_cases c4 : a.ops = b.ops
       · rw [zT c4, Bool.not_true, zD, z01q ha c1 (by omega) _ _ N 0 0 rfl rfl rfl (by simp; omega)]; congr 1
         simp only [List.drop_zero]; rw [Bool.eq_iff_iff]; simp only [decide_eq_true_eq]; constructor
         · intro h; cases a; cases b; simp_all
         · intro h; rw [h]
       · rw [zF c4, Bool.not_false, zC, zF fun e => c4 (by rw [e])]
     · rw [show (a.off == b.off) = false by simp [c3], Bool.not_false, zC, zF fun e => c3 (by rw [e])]
   · rw [show (a.broken == b.broken) = false by simp [c2], Bool.not_false, zC, zF fun e => c2 (by rw [e])]
 · rw [zF (by omega), Bool.not_false, zC, zF fun e => c1 (by rw [e])]
end Clk
namespace Clk
open Go
def placeT (b p : Int) : Int := if b < 0 \/ 32 <= b \/ p < 0 \/ 16 <= p then -1 else b * 16 + p
theorem zg5 (b p : Int) : za7 (b, p) = some (placeT b p) := by
 show z5n b p = _; unfold z5n placeT; by_cases c1 : b < 0
 · rw [zT c1, zC, if_pos (.inl c1)]
 · rw [zF c1, zD]; by_cases c2 : 32 <= b
   · rw [zT c2, zC, if_pos (.inr (.inl c2))]
   · rw [zF c2, zD]; by_cases c3 : p < 0
     · rw [zT c3, zC, if_pos (.inr (.inr (.inl c3)))]
     · rw [zF c3, zD]; by_cases c4 : 16 <= p
       · rw [zT c4, zC, if_pos (.inr (.inr (.inr c4)))]
       · rw [zF c4, zD, if_neg (by omega), zd (n := b * 16) (by omega) (by omega), zd (by omega) (by omega)]
theorem zs7 (b p : Int) : zcd (b, p) = some (placeT b p) := zg5 b p
def aheadT (a b : Found) : Bool := decide (a.record.seq < b.record.seq) || (decide (a.record.seq = b.record.seq) && decide (a.place < b.place))
theorem z06d (a b : Found) : za8 (a, b) = some (aheadT a b) := by
 show z5o a b = _; unfold z5o aheadT; cases decide (a.record.seq < b.record.seq) <;> cases decide (a.record.seq = b.record.seq) <;> rfl
def insT : List Found -> Found -> List Found
 | [], f => [f]
 | x :: l, f => if aheadT f x = true then f :: x :: l else x :: insT l f
theorem zpf : ∀ (l : List Found) (f : Found), (insT l f).length = l.length + 1
 | [], f => rfl
 | x :: l, f => by
   unfold insT; split
   · rfl
   · simp [zpf l f]
theorem z01r {xs : List Found} {f : Found} (hs : xs.length < 4294967296) : ∀ (l : List Found) (N k : Nat) (i : Int) (acc : List Found), xs.drop k = l -> i = k -> acc.length + l.length < 4294967298 -> l.length < N -> zg z4g N (xs, true, i, f, acc) = some (acc ++ l)
 | l, 0, _, _, _, _, _, _, h => by omega
 | [], N + 1, k, i, acc, h1, h2, h3, _ => by
   have := zh h1; rw [z6, z1w]; unfold z13; simp only [Bool.not_true, zD, List.append_nil]; rw [zF (by omega), zD]
 | x :: l, N + 1, k, i, acc, h1, h2, h3, h4 => by
   obtain ⟨g1, g2, g3⟩ := zf h1; subst h2; simp only [List.length_cons] at h3 h4; rw [z6, z1w]; unfold z13; simp only [Int.toNat_natCast, g2, Bool.not_true, zD, List.length_singleton]; rw [zT (show (k : Int) < xs.length by omega), zT (show (0 : Int) <= k by omega), zT (by omega), zT (by omega)]; simp only [zC]; rw [z01r hs l N (k + 1) _ _ g3 (by rw [zd (by omega) (by omega)]; omega) (by simp; omega) (by omega)]; simp
theorem z04u {xs : List Found} {f : Found} (hs : xs.length < 4294967296) : ∀ (l : List Found) (N k : Nat) (i : Int) (acc : List Found), xs.drop k = l -> i = k -> acc.length + l.length < 4294967296 -> l.length < N -> zg z4g N (xs, false, i, f, acc) = some (acc ++ insT l f)
 | l, 0, _, _, _, _, _, _, h => by omega
 | [], N + 1, k, i, acc, h1, h2, h3, _ => by
   have := zh h1; rw [z6, z1w]; unfold z13; simp only [Bool.not_false, zC, List.length_singleton, insT]; rw [zF (show ¬ i < (xs.length : Int) by omega), zD, zT (by omega), zC, zT (by omega), zC]
 | x :: l, N + 1, k, i, acc, h1, h2, h3, h4 => by
   obtain ⟨g1, g2, g3⟩ := zf h1; subst h2; simp only [List.length_cons] at h3 h4; rw [z6, z1w]; unfold z13; simp only [Int.toNat_natCast, g2, Bool.not_false, List.length_singleton, z06d, z7, insT, List.length_append]; rw [zT (show (k : Int) < xs.length by omega), zT (show (0 : Int) <= k by omega)]; simp only [zC]; cases aheadT f x with
   | true =>
     rw [zC, zT (by omega), zC, zT (by omega), zC, zT (by omega), zC, zT (by omega), zC, if_pos rfl]; rw [z01r hs l N (k + 1) _ _ g3 (by rw [zd (by omega) (by omega)]; omega) (by simp; omega) (by omega)]; simp
   | false =>
     rw [zD, zT (by omega), zC, zT (by omega), zC, if_neg (by simp)]; rw [z04u hs l N (k + 1) _ _ g3 (by rw [zd (by omega) (by omega)]; omega) (by simp; omega) (by omega)]; simp
theorem z089 {l : List Found} {f : Found} (hs : l.length < 4294967296) : zel (l, f) = some (insT l f) := by
 refine z04 (l.length + 1) fun N hN => ?_
 have := z04u (f := f) hs l N 0 0 [] rfl rfl (by simpa using hs) (by omega); rw [List.nil_append] at this; exact this
def pagesT (b : Nat) : Nat -> List Page -> List Found -> List Found
 | _, [], out => out
 | p, pg :: l, out => pagesT b (p + 1) l (if (lookT pg).1 = 1 /\ 0 <= placeT b p then insT out ⟨placeT b p, (lookT pg).2⟩ else out)
def blocksT : Nat -> List Block -> List Found -> List Found
 | _, [], out => out
 | b, x :: l, out => blocksT (b + 1) l (pagesT b 0 x.pages out)
def allT (c : Chip) : List Found := blocksT 0 c.blocks []
def PagesOk (c : Chip) : Prop := ∀ b ∈ c.blocks, ∀ p ∈ b.pages, PageOk p
theorem zhb (b : Nat) : ∀ (l : List Page) (p : Nat) (out : List Found), out.length <= min (16 * b + min p 16) 512 -> (pagesT b p l out).length <= min (16 * (b + 1)) 512
 | [], p, out, h => by
   unfold pagesT; omega
 | pg :: l, p, out, h => by
   unfold pagesT; refine zhb b l (p + 1) _ ?_; split
   · rename_i hc; have h2 := hc.2; unfold placeT at h2; split at h2
     · omega
     · rw [zpf]; omega
   · omega
theorem zwu {b p : Nat} (h : 0 <= placeT b p) : b < 32 /\ p < 16 := by
 unfold placeT at h; split at h <;> omega
theorem z04v {ih0 : List Found × Int × Chip -> Option (List Found)} {c : Chip} (hc : z0s c) (hp : PagesOk c) {b : Nat} (hb : b < c.blocks.length) {bi : Int} (hbi : bi = b) : ∀ (l : List Page) (N p : Nat) (i : Int) (out : List Found), (c.blocks.getD b default).pages.drop p = l -> i = p -> out.length <= min (16 * b + min p 16) 512 -> l.length < N -> zg (z8l ih0) N (out, bi, i, c) = ih0 (pagesT b p l out, ((b + 1 : Nat) : Int), c)
 | l, 0, _, _, _, _, _, _, h => by omega
 | [], N + 1, p, i, out, h1, h2, h3, _ => by
   have h4 := zh h1; have h5 := hc.1; subst hbi; rw [z6, z9j]; unfold z4h; simp only [Int.toNat_natCast, pagesT]; rw [zT (show (0 : Int) <= b by omega), zT (show (b : Int) < c.blocks.length by omega), zF (show ¬ i < ((c.blocks.getD b default).pages.length : Int) by omega), zd (n := (b : Int) + 1) (by omega) (by omega)]; rfl
 | pg :: l, N + 1, p, i, out, h1, h2, h3, h4 => by
   obtain ⟨g1, g2, g3⟩ := zf h1; have h5 := hc.1; have h6 := hc.get hb default; subst hbi; subst h2; have hpg : PageOk pg := by
    have := hp _ (z2f (d := default) hb) pg; apply this
    rw [<- g2 default]; exact z2f g1
   have e1 : w64 ((p : Int) + 1) = ((p + 1 : Nat) : Int) := by rw [zd (by omega) (by omega)]; rfl
   have hol : out.length < 4294967296 := by omega
   rw [z6, z9j]; unfold z4h; simp only [Int.toNat_natCast, g2, zs5 hpg, z7, zg5, z089 hol, e1]; rw [zT (show (0 : Int) <= b by omega), zT (show (b : Int) < c.blocks.length by omega), zT (show (p : Int) < ((c.blocks.getD b default).pages.length : Int) by omega), zT (show (0 : Int) <= p by omega)]; simp only [zC]; have ih := fun out' h => z04v (ih0 := ih0) hc hp hb (rfl : (b : Int) = b) l N (p + 1) _ out' g3 rfl h (by simp at h4; omega)
   rw [pagesT]; by_cases c1 : (lookT pg).1 = 1
   · rw [zT c1, zC]; by_cases c2 : 0 <= placeT b p
     · have := zwu c2; rw [zT c2, zC, if_pos ⟨c1, c2⟩]; exact ih _ (by rw [zpf]; omega)
     · rw [zF c2, zD, if_neg (fun h => c2 h.2)]; exact ih _ (by omega)
   · rw [zF c1, zD, if_neg (fun h => c1 h.1)]; exact ih _ (by omega)
theorem z04w {c : Chip} (hc : z0s c) (hp : PagesOk c) {M : Nat} (hM : 4294967296 < M) : ∀ (l : List Block) (N b : Nat) (i : Int) (out : List Found), c.blocks.drop b = l -> i = b -> out.length <= min (16 * b) 512 -> l.length < N -> zg (z8m M) N (out, i, c) = some (blocksT b l out)
 | l, 0, _, _, _, _, _, _, h => by omega
 | [], N + 1, b, i, out, h1, h2, h3, _ => by
   have h4 := zh h1; rw [z6, z9k]; unfold z4i; simp only [blocksT]; rw [zF (by omega), zD]
 | x :: l, N + 1, b, i, out, h1, h2, h3, h4 => by
   obtain ⟨g1, g2, g3⟩ := zf h1; have h6 := hc.get g1 default; subst h2; rw [z6, z9k]; unfold z4i; simp only [blocksT]; rw [zT (show (b : Int) < c.blocks.length by omega), zC, z04v hc hp g1 rfl _ M 0 0 out rfl rfl (by omega) (by rw [List.drop_zero]; omega), List.drop_zero, g2]; rw [g2] at h6; exact z04w hc hp hM l N (b + 1) _ _ g3 rfl (zhb b _ 0 out (by omega)) (by simp at h4; omega)
theorem z08a {c : Chip} (hc : z0s c) (hp : PagesOk c) : zem c = some (allT c) := by
 have := hc.1; refine z04 4294967297 fun N hN => ?_
 exact z04w hc hp (by omega) c.blocks N 0 0 [] rfl rfl (by simp) (by omega)
theorem zld : ∀ (l : List Block) (b : Nat) (out : List Found), out.length <= min (16 * b) 512 -> (blocksT b l out).length <= 512
 | [], b, out, h => by unfold blocksT; omega
 | x :: l, b, out, h => by
   unfold blocksT; exact zld l (b + 1) _ (zhb b _ 0 out (by omega))
theorem zwv (c : Chip) : (allT c).length <= 512 := zld _ 0 [] (by simp)
def tabT (n : Int) : Table := ⟨List.replicate (min n.toNat 64) (-1), List.replicate (min n.toNat 64) (-1)⟩
theorem zs8 {n : Int} : ∀ (m N k : Nat) (i : Int), k + m = min n.toNat 64 -> i = k -> m < N -> zg z8e N (n, i, List.replicate k (-1), List.replicate k (-1)) = some (tabT n)
 | m, 0, _, _, _, _, h => by omega
 | 0, N + 1, k, i, h1, h2, _ => by
   rw [z6, z9h]; unfold z4a tabT; simp only; rw [show k = min n.toNat 64 by omega]; by_cases c1 : i < n
   · rw [zT c1, zC, zF (by omega), zD]
   · rw [zF c1, zD]
 | m + 1, N + 1, k, i, h1, h2, h3 => by
   subst h2; rw [z6, z9h]; unfold z4a; simp only [List.length_replicate, List.length_singleton]; rw [zT (show (k : Int) < n by omega), zT (show (k : Int) < 64 by omega), zT (by omega), zT (by omega)]; simp only [zC]; rw [<- List.replicate_succ']; exact zs8 m N (k + 1) _ (by omega) (by rw [zd (by omega) (by omega)]; omega) (by omega)
theorem zus (n : Int) : zei n = some (tabT n) := by
 refine z04 65 fun N hN => ?_
 exact zs8 (min n.toNat 64) N 0 0 (by omega) rfl (by omega)
def TabOk (t : Table) : Prop := t.map.length < 4294967296 /\ t.by_.length < 4294967296
def app1 (f : Found) (i : Nat) (k : Int) (t : Table) : Table :=
 if 0 <= k /\ k < t.map.length /\ k < t.by_.length then
  if f.record.kind = 1 then ⟨t.map.set k.toNat f.place, t.by_.set k.toNat f.place⟩
  else if f.record.kind = 2 /\ i < f.record.values.length then ⟨t.map.set k.toNat (f.record.values.getD i 0), t.by_.set k.toNat f.place⟩
  else t
 else t
def appL (f : Found) : Nat -> List Int -> Table -> Table
 | _, [], t => t
 | i, k :: l, t => appL f (i + 1) l (app1 f i k t)
def applyT (t : Table) (f : Found) : Table := appL f 0 f.record.keys t
theorem z03u (f : Found) (i : Nat) (k : Int) (t : Table) : (app1 f i k t).map.length = t.map.length /\ (app1 f i k t).by_.length = t.by_.length := by
 unfold app1; split
 · split
   · simp
   · split <;> simp
 · simp
theorem zww (f : Found) : ∀ (l : List Int) (i : Nat) (t : Table), (appL f i l t).map.length = t.map.length /\ (appL f i l t).by_.length = t.by_.length
 | [], i, t => ⟨rfl, rfl⟩
 | k :: l, i, t => by
   unfold appL; obtain ⟨h1, h2⟩ := zww f l (i + 1) (app1 f i k t); obtain ⟨h3, h4⟩ := z03u f i k t; exact ⟨h1.trans h3, h2.trans h4⟩
theorem zhc (t : Table) (f : Found) : (applyT t f).map.length = t.map.length /\ (applyT t f).by_.length = t.by_.length := zww f _ 0 t
theorem zwx {f : Found} (hk : f.record.keys.length < 4294967296) (hv : f.record.values.length < 4294967296) : ∀ (l : List Int) (N i : Nat) (ii : Int) (t : Table), f.record.keys.drop i = l -> ii = i -> TabOk t -> l.length < N -> zg z59 N (ii, f, t.map, t.by_) = some (appL f i l t)
 | l, 0, _, _, _, _, _, _, h => by omega
 | [], N + 1, i, ii, t, h1, h2, h3, _ => by
   have h4 := zh h1; rw [z6, z6s]; unfold z2j; simp only [appL]; rw [zF (by omega), zD]
 | k :: l, N + 1, i, ii, t, h1, h2, h3, h4 => by
   obtain ⟨g1, g2, g3⟩ := zf h1; subst h2; have e1 : w64 ((i : Int) + 1) = ((i + 1 : Nat) : Int) := by rw [zd (by omega) (by omega)]; rfl
   have ih := fun t' h => zwx hk hv l N (i + 1) _ t' g3 rfl h (by simp at h4; omega)
   have ihs := ih t h3; rw [z6, z6s]; unfold z2j; simp only [Int.toNat_natCast, g2, e1, appL]; rw [zT (show (i : Int) < f.record.keys.length by omega), zT (show (0 : Int) <= i by omega)]; simp only [zC]; unfold app1; by_cases c1 : k < 0
   · rw [zT c1, zC, if_neg (by omega)]; exact ihs
   · rw [zF c1, zD]; by_cases c2 : (t.map.length : Int) <= k
     · rw [zT c2, zC, if_neg (by omega)]; exact ihs
     · rw [zF c2, zD]; by_cases c3 : (t.by_.length : Int) <= k
       · rw [zT c3, zC, if_neg (by omega)]; exact ihs
       · rw [zF c3, zD, if_pos (by omega), zT (show 0 <= k by omega), zT (show k < t.map.length by omega), zT (show k.toNat < t.map.length by omega), zT (show k < t.by_.length by omega), zT (show k.toNat < t.by_.length by omega)]; simp only [zC]; by_cases c4 : f.record.kind = 1
         · rw [zT c4, zC, if_pos c4]; exact ih ⟨t.map.set k.toNat f.place, t.by_.set k.toNat f.place⟩ ⟨by simpa using h3.1, by simpa using h3.2⟩
         · rw [zF c4, zD, if_neg c4]; by_cases c5 : f.record.kind = 2
           · rw [zT c5, zC]; by_cases c6 : i < f.record.values.length
             · rw [zT (show (i : Int) < f.record.values.length by omega), zC, zC, if_pos ⟨c5, c6⟩]; exact ih ⟨t.map.set k.toNat (f.record.values.getD i 0), t.by_.set k.toNat f.place⟩ ⟨by simpa using h3.1, by simpa using h3.2⟩
             · rw [zF (show ¬ (i : Int) < f.record.values.length by omega), zD, if_neg (fun h => c6 h.2)]; exact ihs
           · rw [zF c5, zD, if_neg (fun h => c5 h.1)]; exact ihs
theorem zpg {t : Table} {f : Found} (ht : TabOk t) (hr : RecOk f.record) : za2 (t, f) = some (applyT t f) := by
 have h1 := ht.1; have h2 := ht.2; have h3 := hr.1; refine z04 4294967297 fun N hN => ?_
 show z5l N t f = _; unfold z5l; rw [zT (by omega), zC, zT (by omega), zC, zT (by omega), zC, zT (by omega), zC]; exact zwx h3 hr.2 _ N 0 0 t rfl rfl ht (by omega)
theorem zs9 {f : Found} (hk : f.record.keys.length < 4294967296) (hv : f.record.values.length < 4294967296) : ∀ (l : List Int) (N i : Nat) (ii : Int) (t : Table), f.record.keys.drop i = l -> ii = i -> TabOk t -> l.length < N -> zg z0d N (f.record.keys, (f.record.keys.length : Int), ii, f, t.map, t.by_) = some (appL f i l t)
 | l, 0, _, _, _, _, _, _, h => by omega
 | [], N + 1, i, ii, t, h1, h2, h3, _ => by
   have h4 := zh h1; rw [z6, z5h]; unfold z1y; simp only [appL]; rw [zF (by omega), zD]
 | k :: l, N + 1, i, ii, t, h1, h2, h3, h4 => by
   obtain ⟨g1, g2, g3⟩ := zf h1; subst h2; have e1 : w64 ((i : Int) + 1) = ((i + 1 : Nat) : Int) := by rw [zd (by omega) (by omega)]; rfl
   have ih := fun t' h => zs9 hk hv l N (i + 1) _ t' g3 rfl h (by simp at h4; omega)
   have ihs := ih t h3; have hval : z8t (f, (i : Int)) = some (if f.record.kind = 1 then (f.place, true) else if f.record.kind = 2 /\ i < f.record.values.length then (f.record.values.getD i 0, true) else (-1, false)) := by
    show z4p f i = _; unfold z4p; by_cases c4 : f.record.kind = 1
    · rw [zT c4, zC, if_pos c4]
    · rw [zF c4, zD, if_neg c4]; by_cases c5 : f.record.kind = 2
      · rw [zT c5, zC]; by_cases c6 : i < f.record.values.length
        · rw [zT (show (i : Int) < f.record.values.length by omega), zC, if_pos ⟨c5, c6⟩, zT (show (0 : Int) <= i by omega), zC, zC, Int.toNat_natCast]
        · rw [zF (show ¬ (i : Int) < f.record.values.length by omega), zD, if_neg (fun h => c6 h.2)]
      · rw [zF c5, zD, if_neg (fun h => c5 h.1)]
   rw [z6, z5h]; unfold z1y; simp only [Int.toNat_natCast, g2, e1, appL, hval, z7]; rw [zT (show (i : Int) < f.record.keys.length by omega), zT (show (0 : Int) <= i by omega)]; simp only [zC]; have hin : ∀ (v : Int) (X : Table), (0 <= k /\ k < t.map.length /\ k < t.by_.length -> X = ⟨t.map.set k.toNat v, t.by_.set k.toNat f.place⟩) -> (¬ (0 <= k /\ k < t.map.length /\ k < t.by_.length) -> X = t) ->
    (cond (decide (k < 0)) (zg z0d N (f.record.keys, (f.record.keys.length : Int), ((i + 1 : Nat) : Int), f, t.map, t.by_))
    (cond (decide ((min (t.map.length : Int) (t.by_.length : Int)) <= k)) (zg z0d N (f.record.keys, (f.record.keys.length : Int), ((i + 1 : Nat) : Int), f, t.map, t.by_))
      (cond (decide (0 <= k)) (cond (decide (k < (t.map.length : Int))) (cond (decide (k.toNat < t.map.length)) (cond (decide (0 <= k)) (cond (decide (k < (t.by_.length : Int))) (cond (decide (k.toNat < t.by_.length)) (zg z0d N (f.record.keys, (f.record.keys.length : Int), ((i + 1 : Nat) : Int), f, t.map.set k.toNat v, t.by_.set k.toNat f.place)) none) none) none) none) none) none))) = some (appL f (i + 1) l X) := by
    intro v X hX1 hX2; by_cases c1 : k < 0
    · rw [zT c1, zC, hX2 (by omega)]; exact ihs
    · rw [zF c1, zD]; by_cases c2 : min (t.map.length : Int) (t.by_.length : Int) <= k
      · rw [zT c2, zC, hX2 (by omega)]; exact ihs
      · rw [zF c2, zD, zT (show 0 <= k by omega), zT (show k < t.map.length by omega), zT (show k.toNat < t.map.length by omega), zT (show k < t.by_.length by omega), zT (show k.toNat < t.by_.length by omega)]; simp only [zC]; rw [hX1 (by omega)]; exact ih ⟨t.map.set k.toNat v, t.by_.set k.toNat f.place⟩ ⟨by simpa using h3.1, by simpa using h3.2⟩
   by_cases c4 : f.record.kind = 1
   · rw [if_pos c4, Bool.not_true, zD]; exact hin f.place _ (fun h => by unfold app1; rw [if_pos h, if_pos c4]) (fun h => by unfold app1; rw [if_neg h])
   · rw [if_neg c4]; by_cases c5 : f.record.kind = 2 /\ i < f.record.values.length
     · rw [if_pos c5, Bool.not_true, zD]; exact hin (f.record.values.getD i 0) _ (fun h => by unfold app1; rw [if_pos h, if_neg c4, if_pos c5]) (fun h => by unfold app1; rw [if_neg h])
     · rw [if_neg c5, Bool.not_false, zC]; have : app1 f i k t = t := by
        unfold app1; split
        · first | rfl | rw [if_neg c4, if_neg c5]
        · rfl
       rw [this]; exact ihs
theorem zms {t : Table} {f : Found} (ht : TabOk t) (hr : RecOk f.record) : z8u (t, f) = some (applyT t f) := by
 have h1 := ht.1; have h2 := ht.2; have h3 := hr.1; refine z04 4294967297 fun N hN => ?_
 show z4q N t f = _; unfold z4q; rw [zT (by omega), zC, zT (by omega), zC, zT (by omega), zC, zT (by omega), zC]; exact zs9 h3 hr.2 _ N 0 0 t rfl rfl ht (by omega)
end Clk
namespace Clk
open Go
def repL : List Found -> Table -> Int -> Table × Int
 | [], t, s => (t, s)
 | f :: l, t, s => repL l (applyT t f) (max s (w64 (f.record.seq + 1)))
def replayT (c : Chip) (n : Int) : Table × Int := repL (allT c) (tabT n) 0
def z60 (l : List Found) : Prop := ∀ f ∈ l, RecOk f.record
theorem zcj {s : Str} (h : s.length < 4294967296) : (zb s).1.length < 4294967296 /\ (zb s).2.1.length < 4294967296 := by
 have := z0j s; omega
theorem z06e {tag data : Str} (h : tag.length < 4294967296) : RecOk (decT tag data).1 := by
 obtain ⟨h1, h2⟩ := zcj h; obtain ⟨h3, h4⟩ := zcj h2; obtain ⟨h5, h6⟩ := zcj h4; unfold decT; split
 · exact ⟨by simp [zRec], by simp [zRec]⟩
 · split
   · exact ⟨by simp [zRec], by simp [zRec]⟩
   · exact ⟨h3, by simp only [mvT, List.length_map]; exact h5⟩
theorem z03v {p : Page} (h : PageOk p) : RecOk (lookT p).2 := by
 unfold lookT; split
 · exact ⟨by simp [zRec], by simp [zRec]⟩
 · split
   · exact ⟨by simp [zRec], by simp [zRec]⟩
   · exact z06e h.1
theorem z01s : ∀ {l : List Found} {f : Found}, z60 l -> RecOk f.record -> z60 (insT l f)
 | [], f, _, h => by intro g hg; simp [insT] at hg; subst hg; exact h
 | x :: l, f, h1, h2 => by
   unfold insT; split
   · intro g hg; rcases List.mem_cons.1 hg with rfl | hg
     · exact h2
     · exact h1 g hg
   · intro g hg; rcases List.mem_cons.1 hg with rfl | hg
     · exact h1 _ List.mem_cons_self
     · exact z01s (fun g hg => h1 g (List.mem_cons_of_mem _ hg)) h2 g hg
theorem zsa (b : Nat) : ∀ (l : List Page) (p : Nat) (out : List Found), (∀ pg ∈ l, PageOk pg) -> z60 out -> z60 (pagesT b p l out)
 | [], p, out, _, h => h
 | pg :: l, p, out, h1, h2 => by
   unfold pagesT; refine zsa b l (p + 1) _ (fun q hq => h1 q (List.mem_cons_of_mem _ hq)) ?_; split
   · exact z01s h2 (z03v (h1 pg List.mem_cons_self))
   · exact h2
theorem zo6 : ∀ (l : List Block) (b : Nat) (out : List Found), (∀ x ∈ l, ∀ p ∈ x.pages, PageOk p) -> z60 out -> z60 (blocksT b l out)
 | [], b, out, _, h => h
 | x :: l, b, out, h1, h2 => by
   unfold blocksT; exact zo6 l (b + 1) _ (fun y hy => h1 y (List.mem_cons_of_mem _ hy)) (zsa b _ 0 out (h1 x List.mem_cons_self) h2)
theorem z01t {c : Chip} (h : PagesOk c) : z60 (allT c) := zo6 _ 0 [] h (fun _ h => by cases h)
theorem zwy : ∀ (l : List Found) (t : Table) (s : Int), (repL l t s).1.map.length = t.map.length /\ (repL l t s).1.by_.length = t.by_.length
 | [], t, s => ⟨rfl, rfl⟩
 | f :: l, t, s => by
   unfold repL; obtain ⟨h1, h2⟩ := zwy l (applyT t f) (max s (w64 (f.record.seq + 1))); obtain ⟨h3, h4⟩ := zhc t f; exact ⟨h1.trans h3, h2.trans h4⟩
theorem zsb {xs : List Found} (hs : xs.length < 4294967296) (hf : z60 xs) : ∀ (l : List Found) (N k : Nat) (i s : Int) (t : Table), xs.drop k = l -> i = k -> TabOk t -> l.length < N -> zg z3y N (xs, s, i, t) = some (repL l t s)
 | l, 0, _, _, _, _, _, _, _, h => by omega
 | [], N + 1, k, i, s, t, h1, h2, h3, _ => by
   have := zh h1; rw [z6, z5g]; unfold z1x; simp only [repL]; rw [zF (by omega), zD]
 | f :: l, N + 1, k, i, s, t, h1, h2, h3, h4 => by
   obtain ⟨g1, g2, g3⟩ := zf h1; subst h2; have hr : RecOk f.record := by rw [<- g2 default]; exact hf _ (z2f g1)
   obtain ⟨h5, h6⟩ := zhc t f; have h7 := h3.1; have h8 := h3.2; rw [z6, z5g]; unfold z1x; simp only [Int.toNat_natCast, g2, repL, zpg h3 hr, z7]; rw [zT (show (k : Int) < xs.length by omega), zT (show (0 : Int) <= k by omega)]; simp only [zC]; exact zsb hs hf l N (k + 1) _ _ _ g3 (by rw [zd (by omega) (by omega)]; omega) ⟨by omega, by omega⟩ (by simp at h4; omega)
theorem zut (n : Int) : TabOk (tabT n) := ⟨by simp [tabT]; omega, by simp [tabT]; omega⟩
theorem z03w {c : Chip} (hc : z0s c) (hp : PagesOk c) (n : Int) : z8n (c, n) = some (replayT c n) := by
 have := zwv c; refine z04 4294967297 fun N hN => ?_
 show z4j N c n = _; unfold z4j; rw [zus, z7, z08a hc hp, z7]; exact zsb (by omega) (z01t hp) _ N 0 0 0 _ rfl rfl (zut n) (by omega)
def anyW : List Page -> Bool
 | [] => false
 | p :: l => p.written || anyW l
def fcT (bl : Block) (l : List Page) : Int := cond (anyW l) 2 (if bl.next = 0 then 0 else 2)
def stateT (c : Chip) (opn b : Int) : Int :=
 if b < 0 \/ (c.blocks.length : Int) <= b then 3
 else if (c.blocks.getD b.toNat default).bad = true then 3
 else if b = opn /\ 0 <= (c.blocks.getD b.toNat default).next /\ (c.blocks.getD b.toNat default).next < (c.blocks.getD b.toNat default).pages.length then 1
 else fcT (c.blocks.getD b.toNat default) (c.blocks.getD b.toNat default).pages
def pickL (c : Chip) (o : Int) : Nat -> List Block -> Int -> Int
 | _, [], best => best
 | i, x :: l, best => pickL c o (i + 1) l (if stateT c o i = 0 /\ (best < 0 \/ x.erases < (c.blocks.getD best.toNat default).erases) then (i : Int) else best)
def fitsT (g : Geometry) : Bool :=
 decide (1 <= g.blocks) && decide (g.blocks <= 32) && decide (2 <= g.pages) && decide (g.pages <= 16) && decide (1 <= g.sectors) && decide (g.sectors <= 64) && decide (0 <= g.spare) && decide (g.spare <= 32) && decide (2 * g.sectors < (g.blocks - 2 * g.spare - 3) * g.pages)
theorem zwz (g : Geometry) : z1j g = some (fitsT g) := by
 show z2w g = _; unfold z2w fitsT; by_cases c1 : 1 <= g.blocks
 · by_cases c2 : g.blocks <= 32
   · by_cases c3 : 2 <= g.pages
     · by_cases c4 : g.pages <= 16
       · by_cases c5 : 1 <= g.sectors
         · by_cases c6 : g.sectors <= 64
           · by_cases c7 : 0 <= g.spare
             · by_cases c8 : g.spare <= 32
               · have hm : -16000 <= (g.blocks - 2 * g.spare - 3) * g.pages /\ (g.blocks - 2 * g.spare - 3) * g.pages <= 16000 := by
                  have h1 : -100 <= g.blocks - 2 * g.spare - 3 := by omega
                  have h2 : g.blocks - 2 * g.spare - 3 <= 100 := by omega
                  generalize g.blocks - 2 * g.spare - 3 = x at h1 h2; constructor
                  · have := Int.mul_le_mul_of_nonneg_right h1 (show 0 <= g.pages by omega); omega
                  · have := Int.mul_le_mul_of_nonneg_right h2 (show 0 <= g.pages by omega); omega
                 rw [zd (n := 2 * g.sectors) (by omega) (by omega), zd (n := 2 * g.spare) (by omega) (by omega), zd (n := g.blocks - 2 * g.spare) (by omega) (by omega), zd (n := g.blocks - 2 * g.spare - 3) (by omega) (by omega), zd (n := (g.blocks - 2 * g.spare - 3) * g.pages) (by omega) (by omega)]; simp only [zT c1, zT c2, zT c3, zT c4, zT c5, zT c6, zT c7, zT c8, zC, Bool.true_and]
               · simp [c1, c2, c3, c4, c5, c6, c7, c8]
             · simp [c1, c2, c3, c4, c5, c6, c7]
           · simp [c1, c2, c3, c4, c5, c6]
         · simp [c1, c2, c3, c4, c5]
       · simp [c1, c2, c3, c4]
     · simp [c1, c2, c3]
   · simp [c1, c2]
 · simp [c1]
def badsL : List Block -> Int
 | [] => 0
 | b :: l => (if b.bad = true then 1 else 0) + badsL l
def badsT (c : Chip) : Int := badsL c.blocks
theorem zx0 : ∀ (l : List Block), 0 <= badsL l /\ badsL l <= l.length
 | [] => by simp [badsL]
 | b :: l => by have := zx0 l; unfold badsL; simp only [List.length_cons]; split <;> omega
theorem z01u {c : Chip} (hc : z0s c) : ∀ (l : List Block) (N k : Nat) (i s : Int), c.blocks.drop k = l -> i = k -> 0 <= s -> s <= k -> l.length < N -> zg z74 N (s, i, c) = some (s + badsL l)
 | l, 0, _, _, _, _, _, _, _, h => by omega
 | [], N + 1, k, i, s, h1, h2, h3, h4, _ => by
   have := zh h1; rw [z6, z83]; unfold z3d; simp only [badsL, Int.add_zero]; rw [zF (by omega), zD]
 | x :: l, N + 1, k, i, s, h1, h2, h3, h4, h5 => by
   obtain ⟨g1, g2, g3⟩ := zf h1; have hl := hc.1; subst h2; have e1 : w64 ((k : Int) + 1) = ((k + 1 : Nat) : Int) := by rw [zd (by omega) (by omega)]; rfl
   have ih := fun s' h h' => z01u hc l N (k + 1) _ s' g3 rfl h h' (by simp at h5; omega)
   rw [z6, z83]; unfold z3d; simp only [Int.toNat_natCast, g2, badsL, e1]; rw [zT (show (k : Int) < c.blocks.length by omega), zT (show (0 : Int) <= k by omega)]; simp only [zC]; cases hb : x.bad with
   | true => rw [zC, if_pos rfl, zd (n := s + 1) (by omega) (by omega), ih (s + 1) (by omega) (by omega)]; congr 1; omega
   | false => rw [zD, if_neg (by simp), ih s (by omega) (by omega)]; congr 1; omega
theorem z07h {c : Chip} (hc : z0s c) : zcf c = some (badsT c) := by
 have := hc.1; refine z04 4294967297 fun N hN => ?_
 have := z01u hc c.blocks N 0 0 0 rfl rfl (by omega) (by omega) (by omega); rw [Int.zero_add] at this; exact this
def zDev : Device := ⟨⟨0, 0, 0, 0⟩, ⟨[], false, false, 0⟩, ⟨[], []⟩, 0, 0⟩
def mtL (g : Geometry) : Nat -> List Block -> Int -> Option Int
 | _, [], o => some o
 | i, b :: l, o => if (b.pages.length : Int) ≠ g.pages then none else mtL g (i + 1) l (if o < 0 /\ b.bad = false /\ 0 < b.next /\ b.next < g.pages then (i : Int) else o)
def mountT (g : Geometry) (c : Chip) : Device × Int :=
 if fitsT g = false \/ (c.blocks.length : Int) ≠ g.blocks then (zDev, 1)
 else match mtL g 0 c.blocks (-1) with
  | none => (zDev, 1)
  | some o => (⟨g, onT c, (replayT c g.sectors).1, (replayT c g.sectors).2, o⟩, 0)
theorem zx1 {g : Geometry} {c : Chip} (hc : z0s c) (hp : PagesOk c) : ∀ (l : List Block) (N k : Nat) (i o : Int), c.blocks.drop k = l -> i = k -> l.length < N -> zg z5b N (o, i, g, c) = some (match mtL g k l o with
 | none => (zDev, 1)
 | some o => (⟨g, onT c, (replayT c g.sectors).1, (replayT c g.sectors).2, o⟩, 0))
 | l, 0, _, _, _, _, _, h => by omega
 | [], N + 1, k, i, o, h1, h2, _ => by
   have := zh h1; rw [z6, z6y]; unfold z2l; simp only [mtL]; rw [zF (by omega), zD, z03w hc hp, z7, s_On hc, z7]
 | x :: l, N + 1, k, i, o, h1, h2, h3 => by
   obtain ⟨g1, g2, g3⟩ := zf h1; have hl := hc.1; subst h2; have e1 : w64 ((k : Int) + 1) = ((k + 1 : Nat) : Int) := by rw [zd (by omega) (by omega)]; rfl
   have ih := fun o' => zx1 (g := g) hc hp l N (k + 1) _ o' g3 rfl (by simp at h3; omega)
   rw [z6, z6y]; unfold z2l; simp only [Int.toNat_natCast, g2, mtL, e1]; rw [zT (show (k : Int) < c.blocks.length by omega), zT (show (0 : Int) <= k by omega)]; simp only [zC, ih]; by_cases c1 : (x.pages.length : Int) = g.pages
   · rw [zT c1, Bool.not_true, zD, if_neg (by simp [c1])]; by_cases c2 : o < 0
     · rw [zT c2, zC]; cases c3 : x.bad with
       | true => rw [Bool.not_true, zD, if_neg (by simp)]
       | false =>
         rw [Bool.not_false, zC]; by_cases c4 : 0 < x.next
         · rw [zT c4, zC]; by_cases c5 : x.next < g.pages
           · rw [zT c5, zC, if_pos ⟨c2, rfl, c4, c5⟩]
           · rw [zF c5, zD, if_neg (fun h => c5 h.2.2.2)]
         · rw [zF c4, zD, if_neg (fun h => c4 h.2.2.1)]
     · rw [zF c2, zD, if_neg (fun h => c2 h.1)]
   · rw [zF c1, Bool.not_false, zC, if_pos c1]; rfl
theorem z06f {g : Geometry} {c : Chip} (hc : z0s c) (hp : PagesOk c) : za9 (g, c) = some (mountT g c) := by
 have := hc.1; refine z04 4294967297 fun N hN => ?_
 show z5r N g c = _; unfold z5r mountT; rw [zwz, z7]; cases fitsT g with
 | false => rfl
 | true =>
   rw [Bool.not_true, zD]; by_cases c1 : (c.blocks.length : Int) = g.blocks
   · rw [zT c1, Bool.not_true, zD, if_neg (by simp [c1])]; exact zx1 hc hp c.blocks N 0 0 (-1) rfl rfl (by omega)
   · rw [zF c1, Bool.not_false, zC, if_pos (.inr c1)]; rfl
def formatT (g : Geometry) (bad : List Int) : Device × Int :=
 if fitsT g = false \/ (newT g.blocks g.pages bad).2 ≠ 0 \/ g.spare < badsT (newT g.blocks g.pages bad).1 then (zDev, 1) else mountT g (newT g.blocks g.pages bad).1
theorem zuu {n : Int} {m : Nat} : ∀ (l : List Int) (bs : List Block), (∀ b ∈ bs, b.pages.length <= 16 /\ ∀ p ∈ b.pages, p = zPage) -> bs.length = m -> (∀ b ∈ (newL n l bs).1.blocks, b.pages.length <= 16 /\ ∀ p ∈ b.pages, p = zPage) /\ ((newL n l bs).1.blocks.length = m \/ (newL n l bs).1.blocks.length = 0)
 | [], bs, h1, h2 => ⟨h1, .inl h2⟩
 | x :: l, bs, h1, h2 => by
   unfold newL; split
   · exact ⟨fun b hb => by simp [zChip] at hb, .inr rfl⟩
   · refine zuu l _ (fun b hb => ?_) (by unfold bBad; simpa using h2); unfold bBad at hb; by_cases hx : x.toNat < bs.length
     · rcases List.mem_or_eq_of_mem_set hb with h | rfl
       · exact h1 b h
       · exact h1 (bs.getD x.toNat default) (z2f hx)
     · rw [List.set_eq_of_length_le (by omega)] at hb; exact h1 b hb
theorem zuv (n p : Int) (bad : List Int) : z0s (newT n p bad).1 /\ PagesOk (newT n p bad).1 := by
 unfold newT; split
 · exact ⟨⟨by simp [zChip], fun b hb => by simp [zChip] at hb⟩, fun b hb => by simp [zChip] at hb⟩
 · rename_i h; obtain ⟨h1, h2⟩ := zuu (n := n) (m := n.toNat) bad (List.replicate n.toNat ⟨List.replicate p.toNat zPage, 0, 0, false⟩) (fun b hb => by
    obtain ⟨_, rfl⟩ := List.mem_replicate.1 hb; exact ⟨by simp; omega, fun q hq => (List.mem_replicate.1 hq).2⟩) (by simp)
   refine ⟨⟨by omega, fun b hb => by have := (h1 b hb).1; omega⟩, fun b hb q hq => ?_⟩; rw [(h1 b hb).2 q hq]; exact ⟨by simp [zPage], by simp [zPage]⟩
theorem z03x {g : Geometry} {bad : List Int} (hb : bad.length < 4294967296) : z2e (g, bad) = some (formatT g bad) := by
 obtain ⟨hc, hp⟩ := zuv g.blocks g.pages bad; show z4r g bad = _; unfold z4r formatT; rw [zwz, z7]; cases fitsT g with
 | false => rfl
 | true =>
   rw [Bool.not_true, zD, zur hb, z7]; by_cases c1 : (newT g.blocks g.pages bad).2 = 0
   · rw [zT c1, Bool.not_true, zD, z07h hc, z7]; by_cases c2 : g.spare < badsT (newT g.blocks g.pages bad).1
     · rw [zT c2, zC, if_pos (.inr (.inr c2))]; rfl
     · rw [zF c2, zD, if_neg (by simp [c1]; omega), z06f hc hp, z7]
   · rw [zF c1, Bool.not_false, zC, if_pos (.inr (.inl c1))]; rfl
def DevOk (d : Device) : Prop := z0s d.chip /\ TabOk d.table
theorem zsc {a b : Device} (ha : DevOk a) : z4x (a, b) = some (decide (a = b)) := by
 show z82 a b = _; unfold z82; rw [zs6 ha.1, zio ha.2.1, zio ha.2.2]; simp only [z7]; obtain ⟨⟨g1, g2, g3, g4⟩, c, ⟨m, by_⟩, s, o⟩ := a; obtain ⟨⟨g1', g2', g3', g4'⟩, c', ⟨m', by'⟩, s', o'⟩ := b; simp only [Device.mk.injEq, Geometry.mk.injEq, Table.mk.injEq]; by_cases c1 : g1 = g1' <;> by_cases c2 : g2 = g2' <;> by_cases c3 : g3 = g3' <;> by_cases c4 : g4 = g4' <;> simp [c1, c2, c3, c4]
 by_cases c5 : c = c'
 · by_cases c6 : m = m'
   · by_cases c7 : by_ = by'
     · by_cases c8 : s = s' <;> simp [c5, c6, c7, c8]
     · simp [c5, c6, c7]
   · simp [c5, c6]
 · simp [c5]
end Clk
namespace Clk
open Go
end Clk
namespace Clk
open Go
def smalls : List Geometry := [⟨8, 4, 5, 1⟩, ⟨5, 4, 3, 0⟩, ⟨12, 3, 5, 2⟩, ⟨6, 6, 8, 0⟩, ⟨16, 2, 4, 3⟩, ⟨10, 5, 12, 1⟩]
def smallT (n : Int) : Geometry := smalls.getD (n.toNat % 6) default
theorem z06g {n : Int} (h0 : 0 <= n) (h1 : n < 256) : zaa n = some (smallT n) := by
 show z5s n = _; unfold z5s; obtain ⟨k, rfl⟩ : ∃ k : Nat, n = k := ⟨n.toNat, by omega⟩; have e : Int.tmod (w64 (k : Int)) (([(Geometry.mk 8 4 5 1), (Geometry.mk 5 4 3 0), (Geometry.mk 12 3 5 2), (Geometry.mk 6 6 8 0), (Geometry.mk 16 2 4 3), (Geometry.mk 10 5 12 1)].length : Nat) : Int) = ((k % 6 : Nat) : Int) := by
  rw [zd (by omega) (by omega)]; exact zdp k 6
 rw [e, zF (by decide), Bool.not_false, zC, zT (show (0 : Int) <= ((k % 6 : Nat) : Int) by omega), zC, zT (by simp only [List.length_cons, List.length_nil]; omega), zC, zT (by simp only [List.length_cons, List.length_nil]; omega), zC]; rfl
end Clk
namespace Clk
open Go
theorem zyl (c : Chip) (n : Int) : TabOk (replayT c n).1 := by
 obtain ⟨h1, h2⟩ := zwy (allT c) (tabT n) 0; have := zut n; unfold replayT; exact ⟨by rw [h1]; exact this.1, by rw [h2]; exact this.2⟩
theorem z01v {g : Geometry} {c : Chip} (h : z0s c) : DevOk (mountT g c).1 := by
 unfold mountT; split
 · exact ⟨⟨by simp [zDev], fun b hb => by simp [zDev] at hb⟩, ⟨by simp [zDev], by simp [zDev]⟩⟩
 · split
   · exact ⟨⟨by simp [zDev], fun b hb => by simp [zDev] at hb⟩, ⟨by simp [zDev], by simp [zDev]⟩⟩
   · exact ⟨⟨h.1, h.2⟩, zyl c _⟩
theorem zo7 {g : Geometry} {bad : List Int} : DevOk (formatT g bad).1 := by
 unfold formatT; split
 · exact ⟨⟨by simp [zDev], fun b hb => by simp [zDev] at hb⟩, ⟨by simp [zDev], by simp [zDev]⟩⟩
 · exact z01v (zuv _ _ _).1
end Clk
namespace Clk
open Go
end Clk
namespace Clk
open Go
section
variable {H : Type} {enc : TypeId × Value -> H} {P : Program} {w : World} {base : Nat} {spare : Nat -> Bool} {held : Bool}
open Go.ChangeShapes Go.WideShapes
end
end Clk
namespace Clk
open Go
inductive Sh where
 | int (k : IntKind) | bool | str | sl (l : List Sh)
def flatFs (r : TypeId -> Option (List Sh)) (sz : TypeId -> Nat) : Nat -> List Field -> Option (List Sh)
 | _, [] => some []
 | off, f :: fs => match r f.type with
   | some l => if f.offset = off /\ l.length = sz f.type then match flatFs r sz (off + l.length) fs with | some m => some (l ++ m) | none => none else none
   | none => none
def flatT (P : Program) : Nat -> TypeId -> Option (List Sh)
 | 0, _ => none
 | n + 1, t => match P.underlying t with
   | some (.int k) => some [.int k]
   | some .bool => some [.bool]
   | some .string => some [.str]
   | some (.slice e) => match flatT P n e with
     | some l => if 0 < l.length /\ l.length = P.cellsOf e then some [.sl l] else none
     | none => none
   | some (.struct fs) => match flatFs (flatT P n) P.cellsOf 0 fs.toList with
     | some l => if l.length = P.cellsOf t then some l else none
     | none => none
   | _ => none
inductive ShA : Sh -> AV -> Prop
 | int {k : IntKind} {n : Int} (h : (Lit.int k n).wf = true) : ShA (.int k) (.int k n)
 | bool (b : Bool) : ShA .bool (.bool b)
 | str {s : ByteArray} (h : s.size <= maxLen) : ShA .str (.str s)
 | sl {sh : List Sh} {l : List (List AV)} (h : l.length <= maxLen) (hl : ∀ row ∈ l, row.length = sh.length) (hr : ∀ row ∈ l, ∀ (j : Nat) s a, sh[j]? = some s -> row[j]? = some a -> ShA s a) : ShA (.sl sh) (.rows l)
def ShL (sh : List Sh) (l : List AV) : Prop := l.length = sh.length /\ ∀ (j : Nat) s a, sh[j]? = some s -> l[j]? = some a -> ShA s a
theorem ShL.nil : ShL [] [] := ⟨rfl, fun _ _ _ h => by simp at h⟩
theorem ShL.single {s : Sh} {a : AV} (h : ShA s a) : ShL [s] [a] := ⟨rfl, fun j s' a' h1 h2 => by
 cases j with
 | zero => simp at h1 h2; subst h1; subst h2; exact h
 | succ j => simp at h1⟩
theorem ShL.append {s1 s2 : List Sh} {l1 l2 : List AV} (h1 : ShL s1 l1) (h2 : ShL s2 l2) : ShL (s1 ++ s2) (l1 ++ l2) := by
 refine ⟨by simp [h1.1, h2.1], fun j s a e1 e2 => ?_⟩; by_cases hj : j < s1.length
 · rw [List.getElem?_append_left hj] at e1; rw [List.getElem?_append_left (by rw [h1.1]; exact hj)] at e2; exact h1.2 j s a e1 e2
 · rw [List.getElem?_append_right (by omega)] at e1; rw [List.getElem?_append_right (by rw [h1.1]; omega), h1.1] at e2; exact h2.2 _ s a e1 e2
section
variable {H : Type} {enc : TypeId × Value -> H} {P : Program} {w : World} {base : Nat} {spare : Nat -> Bool} {held : Bool} {N : Nat -> Prop}
def CellsA (w : World) (N : Nat -> Prop) (sh : List Sh) (cs : List Value) : Prop := ∃ l, ShL sh l /\ cs.length = l.length /\ ∀ (j : Nat) a v, l[j]? = some a -> cs[j]? = some v -> RelI w N a v
theorem CellsA.single {s : Sh} {a : AV} {v : Value} (h : ShA s a) (hr : RelI w N a v) : CellsA w N [s] [v] :=
 ⟨[a], ShL.single h, rfl, fun j a' v' h1 h2 => by
  cases j with
  | zero => simp at h1 h2; subst h1; subst h2; exact hr
  | succ j => simp at h1⟩
theorem zuw {r : TypeId -> Option (List Sh)} {sz : TypeId -> Nat} {cs : List Value}
 (hr : ∀ t sh cs, r t = some sh -> (∃ fuel y, DataW.trod enc P w base spare held fuel t cs = some y) -> CellsA w N sh cs) :
 ∀ (fs : List Field) (off : Nat) (sh : List Sh), flatFs r sz off fs = some sh -> (∀ f ∈ fs, ∃ fuel y, DataW.trod enc P w base spare held fuel f.type ((cs.drop f.offset).take (sz f.type)) = some y) ->
  ∃ l, ShL sh l /\ ∀ (j : Nat) a v, l[j]? = some a -> cs[off + j]? = some v -> RelI w N a v := by
 intro fs; induction fs with
 | nil =>
   intro off sh h _; simp only [flatFs, Option.some.injEq] at h; subst h; exact ⟨[], ShL.nil, fun j a v h => by simp at h⟩
 | cons f fs ih =>
   intro off sh h hf; simp only [flatFs] at h; split at h
   · rename_i l1 hl1; split at h
     · rename_i hc; split at h
       · rename_i m hm; simp only [Option.some.injEq] at h; subst h; obtain ⟨la, ha1, ha2, ha3⟩ := hr _ _ _ hl1 (hf f (by simp)); obtain ⟨lb, hb1, hb2⟩ := ih _ _ hm (fun g hg => hf g (List.mem_cons_of_mem _ hg)); refine ⟨la ++ lb, ha1.append hb1, fun j a v e1 e2 => ?_⟩; have hlen := ha1.1; by_cases hj : j < la.length
         · rw [List.getElem?_append_left hj] at e1; refine ha3 j a v e1 ?_; rw [List.getElem?_take, if_pos (by omega), List.getElem?_drop, hc.1]; exact e2
         · rw [List.getElem?_append_right (by omega)] at e1; refine hb2 (j - la.length) a v e1 ?_; rw [<- e2]; congr 1
           omega
       · cases h
     · cases h
   · cases h
theorem z01w : ∀ (n : Nat) (t : TypeId) (sh : List Sh) (cs : List Value), flatT P n t = some sh -> (∃ fuel y, DataW.trod enc P w base spare held fuel t cs = some y) -> CellsA w (fun _ => False) sh cs := by
 intro n; induction n with
 | zero => intro t sh cs h; cases h
 | succ n ih =>
   intro t sh cs h hy; obtain ⟨fuel, x, hx⟩ := hy; unfold flatT at h; split at h
   · rename_i k hu; cases h; obtain ⟨n', rfl, _, hw⟩ := DataW.trod_int hu hx; exact CellsA.single (.int hw) (.int _ _)
   · rename_i hu; cases h; obtain ⟨b, rfl, _⟩ := DataW.trod_bool hu hx; exact CellsA.single (.bool b) (.bool _)
   · rename_i hu; cases h; obtain ⟨s, rfl, _, hs⟩ := DataW.trod_string hu hx; exact CellsA.single (.str hs) (.str _)
   · rename_i e hu; split at h
     · rename_i l hl; split at h
       · rename_i hc; cases h; rcases DataW.trod_slice hu hx with ⟨rfl, _⟩ | ⟨a, len, cap, elems, rest, m, rfl, rfl, _, hb, hlc, hm, hlen, hel, _, _⟩
         · refine CellsA.single (a := .rows []) (.sl (by simp) (fun _ h => absurd h List.not_mem_nil) (fun _ h => absurd h List.not_mem_nil)) ?_; exact RelI.rows (l := []) (k := 1) (u := fun _ _ => undef) (Nat.le_refl _) (fun _ _ h => by simp at h) (fun h => absurd h (by simp)) (fun _ _ _ _ _ _ h => by simp at h) (fun _ _ _ _ h => by simp at h)
         · have key : ∀ i, ∃ r : List Value × List AV, i < len -> w.cells? base (a.add (i * P.cellsOf e)) (P.cellsOf e) = some r.1 /\ ShL l r.2 /\ r.1.length = r.2.length /\ ∀ (j : Nat) x v, r.2[j]? = some x -> r.1[j]? = some v -> RelI w (fun _ => False) x v := fun i => by
            by_cases hi : i < len
            · have hi2 := hel i hi; rw [zH (by omega)] at hi2; obtain ⟨cs', hcs, hy⟩ := Option.bind_eq_some_iff.1 hi2; obtain ⟨lr, h1, h2, h3⟩ := ih e l cs' hl ⟨_, _, hy⟩; exact ⟨(cs', lr), fun _ => ⟨hcs, h1, h2, h3⟩⟩
            · exact ⟨([], []), fun h => absurd h hi⟩
           let f := fun i => Classical.choose (key i)
           have hf : ∀ i, i < len -> w.cells? base (a.add (i * P.cellsOf e)) (P.cellsOf e) = some (f i).1 /\ ShL l (f i).2 /\ (f i).1.length = (f i).2.length /\ ∀ (j : Nat) x v, (f i).2[j]? = some x -> (f i).1[j]? = some v -> RelI w (fun _ => False) x v := fun i hi => Classical.choose_spec (key i) hi
           have hget : ∀ (i : Nat) row, ((List.range len).map fun i => (f i).2)[i]? = some row -> i < len /\ row = (f i).2 := by
            intro i row q; simp only [List.getElem?_map, Option.map_eq_some_iff] at q; obtain ⟨j, q1, rfl⟩ := q; have hi := (zG.1 q1).1; simp only [List.length_range] at hi; rw [List.getElem?_range hi] at q1; cases q1; exact ⟨hi, rfl⟩
           have hlen' : ((List.range len).map fun i => (f i).2).length = len := by simp
           have hcell : ∀ i, i < len -> ∀ j, j < l.length -> w.cell? ((a.add (i * P.cellsOf e)).add j) = (f i).1[j]? := fun i hi j hj => (World.cells?_some (hf i hi).1).2.2 j (by rw [<- hc.2]; exact hj)
           have hspot : 0 < len -> a.spot = none /\ a.block < w.heap.size := by
            intro h0; have q := hcell 0 h0 0 hc.1; have hlt : 0 < (f 0).1.length := by rw [(hf 0 h0).2.2.1, (hf 0 h0).2.1.1]; exact hc.1
            rw [zH hlt] at q; have e0 : (a.add (0 * P.cellsOf e)).add 0 = a := by simp [Addr.add]
            rw [e0] at q; exact z00f q
           have hadd : ∀ i j, 0 < len -> (a.add (i * P.cellsOf e)).add j = ⟨a.block, a.off + (i * l.length + j), none⟩ := by
            intro i j h0; have hs0 := (hspot h0).1; obtain ⟨b, o, s⟩ := a; simp only at hs0; subst hs0; rw [Go.WideShapes.add_plain, Go.WideShapes.add_plain, hc.2, Nat.add_assoc]
           refine CellsA.single (a := .rows ((List.range len).map fun i => (f i).2)) (.sl (by rw [hlen']; omega) (fun row hr => ?_) (fun row hr => ?_)) ?_
           · obtain ⟨i, hi, rfl⟩ := List.mem_map.1 hr; exact (hf i (List.mem_range.1 hi)).2.1.1
           · obtain ⟨i, hi, rfl⟩ := List.mem_map.1 hr; exact (hf i (List.mem_range.1 hi)).2.1.2
           · have := RelI.rows (w := w) (N := fun _ => False) (l := (List.range len).map fun i => (f i).2) (a := some a) (c := cap) (k := l.length) (u := fun i j => ((f i).1[j]?).getD undef) (by omega)
              (fun i row q => by rw [(hget i row q).2]; exact (hf i (hget i row q).1).2.1.1)
              (fun h0 => by
                rw [hlen'] at h0; exact ⟨a, rfl, (hspot h0).1, fun h => h, (hspot h0).2⟩)
              (fun ad i row j y e1 q1 q2 => by
                cases e1; obtain ⟨hi, rfl⟩ := hget i row q1; have hj := (zG.1 q2).1; rw [<- hadd i j (by omega), hcell i hi j (by rw [<- (hf i hi).2.1.1]; exact hj)]; rw [zH (by rw [(hf i hi).2.2.1]; exact hj)]; rfl)
              (fun i row j y q1 q2 => by
                obtain ⟨hi, rfl⟩ := hget i row q1; have hj := (zG.1 q2).1; refine (hf i hi).2.2.2 j y _ q2 ?_; rw [zH (by rw [(hf i hi).2.2.1]; exact hj)]; rfl)
             rw [hlen'] at this; exact this
       · cases h
     · cases h
   · rename_i fs hu; split at h
     · rename_i l hl; split at h
       · rename_i hc; cases h; obtain ⟨xs, m, rfl, _, hlen, hxl, hf⟩ := DataW.trod_struct hu hx; obtain ⟨l', h1, h2⟩ := zuw (enc := enc) (base := base) (spare := spare) (held := held) (N := fun _ => False) (w := w) (cs := cs) (fun t sh cs a b => ih t sh cs a b) fs.toList 0 sh hl (fun f hfm => by
          obtain ⟨i, hi⟩ := List.getElem?_of_mem hfm; have hi' : fs[i]? = some f := by simpa using hi
          have := hf i f hi'; have hlt : i < fs.size := (Array.getElem?_eq_some_iff.1 hi').1; rw [zH (by omega)] at this; exact ⟨_, _, this⟩)
         exact ⟨l', h1, by rw [hlen, <- hc, h1.1], fun j a v e1 e2 => h2 j a v e1 (by simpa using e2)⟩
       · cases h
     · cases h
   · cases h
end
end Clk
namespace Clk
open Go
def shI : Sh := .int .i64
def shInts : Sh := .sl [shI]
def shStrs : Sh := .sl [.str]
def shPage : List Sh := [.bool, .str, .str]
def shBlock : List Sh := [.sl shPage, shI, shI, .bool]
def shFate : List Sh := [shI, .str, .str, shI]
def zjo : List Sh := [shI, shI, shInts, shInts]
def zle : List Sh := [shI, shI, shI, shStrs]
def TC.sh : TC -> List Sh
 | .int k => [.int k]
 | .bool => [.bool]
 | .str => [.str]
 | .list c => [.sl c.sh]
 | .page => shPage
 | .block => shBlock
 | .chip => [.sl shBlock, .bool, .bool, shI]
 | .fate => shFate
 | .record => zjo
 | .found => shI :: zjo
 | .table => [shInts, shInts]
 | .slot => [shI, shI, shI]
 | .write => .str :: zjo
 | .command => zle
 | .geometry => [shI, shI, shI, shI]
 | .device => [shI, shI, shI, shI, .sl shBlock, .bool, .bool, shI, shInts, shInts, shI, shI]
 | .answer => [shI, shStrs]
 | .event => zle ++ [.sl shFate]
 | .report => [shI, shI, shI, shI, shI, shI, .bool]
 | .rank => [shI, shI]
theorem ShL.cons_inv {s : Sh} {sh : List Sh} {l : List AV} (h : ShL (s :: sh) l) : ∃ a l', l = a :: l' /\ ShA s a /\ ShL sh l' := by
 cases l with
 | nil => cases h.1
 | cons a l' => exact ⟨a, l', rfl, h.2 0 s a rfl rfl, by have := h.1; simp at this; exact this, fun j s' a' h1 h2 => h.2 (j + 1) s' a' (by simpa using h1) (by simpa using h2)⟩
theorem ShL.nil_inv {l : List AV} (h : ShL [] l) : l = [] := List.eq_nil_of_length_eq_zero h.1
theorem ShA.int_inv {k : IntKind} {a : AV} (h : ShA (.int k) a) : ∃ n, a = .int k n /\ (Lit.int k n).wf = true := by cases h with | int h => exact ⟨_, rfl, h⟩
theorem ShA.bool_inv {a : AV} (h : ShA .bool a) : ∃ b, a = .bool b := by cases h with | bool b => exact ⟨_, rfl⟩
theorem ShA.str_inv {a : AV} (h : ShA .str a) : ∃ s : Str, a = sA s /\ s.length <= maxLen := by
 cases h with
 | @str s h => exact ⟨s.data.toList, by simp [sA], by simpa using h⟩
theorem zo8 {α : Type} {f : α -> List AV} : ∀ {l : List (List AV)}, (∀ row ∈ l, ∃ x, f x = row) -> ∃ xs : List α, xs.map f = l
 | [], _ => ⟨[], rfl⟩
 | r :: l, h => by
   obtain ⟨x, hx⟩ := h r (by simp); obtain ⟨xs, hxs⟩ := zo8 (l := l) (fun row hr => h row (List.mem_cons_of_mem _ hr)); exact ⟨x :: xs, by simp [hx, hxs]⟩
theorem ShA.sl_inv {α : Type} {f : α -> List AV} {sh : List Sh} {a : AV} (hd : ∀ l, ShL sh l -> ∃ x : α, f x = l) (h : ShA (.sl sh) a) : ∃ xs : List α, a = .rows (xs.map f) := by
 cases h with
 | sl h hl hr =>
   obtain ⟨xs, hxs⟩ := zo8 (fun row hm => hd row ⟨hl row hm, hr row hm⟩); exact ⟨xs, by rw [hxs]⟩
theorem z06h {l : List AV} (h : ShL [shI] l) : ∃ n : Int, [iA n] = l := by
 obtain ⟨a, l, rfl, ha, h1⟩ := h.cons_inv; have := h1.nil_inv; subst this; obtain ⟨n, rfl, _⟩ := ha.int_inv; exact ⟨n, rfl⟩
theorem z01x {l : List AV} (h : ShL [.str] l) : ∃ n : Str, [sA n] = l := by
 obtain ⟨a, l, rfl, ha, h1⟩ := h.cons_inv; have := h1.nil_inv; subst this; obtain ⟨n, rfl, _⟩ := ha.str_inv; exact ⟨n, rfl⟩
theorem ShA.ints_inv {a : AV} (h : ShA shInts a) : ∃ ns : List Int, a = eInts ns := ShA.sl_inv (fun _ h => z06h h) h
theorem ShA.strs_inv {a : AV} (h : ShA shStrs a) : ∃ ns : List Str, a = eStrs ns := ShA.sl_inv (fun _ h => z01x h) h
theorem ShA.i_inv {a : AV} (h : ShA shI a) : ∃ n, a = iA n := by obtain ⟨n, e, _⟩ := h.int_inv; exact ⟨n, e⟩
theorem zx2 {l : List AV} (h : ShL shPage l) : ∃ p : Page, ePage p = l := by
 obtain ⟨a, l, rfl, ha, h1⟩ := h.cons_inv; obtain ⟨b, l, rfl, hb, h2⟩ := h1.cons_inv; obtain ⟨c, l, rfl, hc, h3⟩ := h2.cons_inv; have := h3.nil_inv; subst this; obtain ⟨x, rfl⟩ := ha.bool_inv; obtain ⟨y, rfl, _⟩ := hb.str_inv; obtain ⟨z, rfl, _⟩ := hc.str_inv; exact ⟨⟨x, y, z⟩, rfl⟩
theorem zlf {l : List AV} (h : ShL shBlock l) : ∃ p : Block, eBlock p = l := by
 obtain ⟨a, l, rfl, ha, h1⟩ := h.cons_inv; obtain ⟨b, l, rfl, hb, h2⟩ := h1.cons_inv; obtain ⟨c, l, rfl, hc, h3⟩ := h2.cons_inv; obtain ⟨d, l, rfl, hd, h4⟩ := h3.cons_inv; have := h4.nil_inv; subst this; obtain ⟨x, rfl⟩ := ha.sl_inv (fun _ h => zx2 h); obtain ⟨y, rfl⟩ := hb.i_inv; obtain ⟨z, rfl⟩ := hc.i_inv; obtain ⟨u, rfl⟩ := hd.bool_inv; exact ⟨⟨x, y, z, u⟩, rfl⟩
theorem zx3 {l : List AV} (h : ShL shFate l) : ∃ p : Fate, eFate p = l := by
 obtain ⟨a, l, rfl, ha, h1⟩ := h.cons_inv; obtain ⟨b, l, rfl, hb, h2⟩ := h1.cons_inv; obtain ⟨c, l, rfl, hc, h3⟩ := h2.cons_inv; obtain ⟨d, l, rfl, hd, h4⟩ := h3.cons_inv; have := h4.nil_inv; subst this; obtain ⟨x, rfl⟩ := ha.i_inv; obtain ⟨y, rfl, _⟩ := hb.str_inv; obtain ⟨z, rfl, _⟩ := hc.str_inv; obtain ⟨u, rfl⟩ := hd.i_inv; exact ⟨⟨x, y, z, u⟩, rfl⟩
theorem zhd {l : List AV} (h : ShL zjo l) : ∃ p : Record, eRecord p = l := by
 obtain ⟨a, l, rfl, ha, h1⟩ := h.cons_inv; obtain ⟨b, l, rfl, hb, h2⟩ := h1.cons_inv; obtain ⟨c, l, rfl, hc, h3⟩ := h2.cons_inv; obtain ⟨d, l, rfl, hd, h4⟩ := h3.cons_inv; have := h4.nil_inv; subst this; obtain ⟨x, rfl⟩ := ha.i_inv; obtain ⟨y, rfl⟩ := hb.i_inv; obtain ⟨z, rfl⟩ := hc.ints_inv; obtain ⟨u, rfl⟩ := hd.ints_inv; exact ⟨⟨x, y, z, u⟩, rfl⟩
theorem zlg {l l' : List AV} {sh : List Sh} (h : ShL (zle ++ sh) l) : ∃ (p : Command) (l' : List AV), l = z7k p ++ l' /\ ShL sh l' := by
 obtain ⟨a, l, rfl, ha, h1⟩ := ShL.cons_inv h; obtain ⟨b, l, rfl, hb, h2⟩ := ShL.cons_inv h1; obtain ⟨c, l, rfl, hc, h3⟩ := ShL.cons_inv h2; obtain ⟨d, l, rfl, hd, h4⟩ := ShL.cons_inv h3; obtain ⟨x, rfl⟩ := ha.i_inv; obtain ⟨y, rfl⟩ := hb.i_inv; obtain ⟨z, rfl⟩ := hc.i_inv; obtain ⟨u, rfl⟩ := hd.strs_inv; exact ⟨⟨x, y, z, u⟩, l, rfl, h4⟩
theorem dec : ∀ (c : TC) {l : List AV}, ShL c.sh l -> ∃ x : c.den, z7l c x = l
 | .int k, l, h => by
   obtain ⟨a, l, rfl, ha, h1⟩ := h.cons_inv; have := h1.nil_inv; subst this; obtain ⟨n, rfl, _⟩ := ha.int_inv; exact ⟨n, rfl⟩
 | .bool, l, h => by
   obtain ⟨a, l, rfl, ha, h1⟩ := h.cons_inv; have := h1.nil_inv; subst this; obtain ⟨n, rfl⟩ := ha.bool_inv; exact ⟨n, rfl⟩
 | .str, l, h => z01x h
 | .list c, l, h => by
   obtain ⟨a, l, rfl, ha, h1⟩ := h.cons_inv; have := h1.nil_inv; subst this; obtain ⟨xs, rfl⟩ := ha.sl_inv (fun _ h => dec c h); exact ⟨xs, rfl⟩
 | .page, l, h => zx2 h
 | .block, l, h => zlf h
 | .chip, l, h => by
   obtain ⟨a, l, rfl, ha, h1⟩ := h.cons_inv; obtain ⟨b, l, rfl, hb, h2⟩ := h1.cons_inv; obtain ⟨c, l, rfl, hc, h3⟩ := h2.cons_inv; obtain ⟨d, l, rfl, hd, h4⟩ := h3.cons_inv; have := h4.nil_inv; subst this; obtain ⟨x, rfl⟩ := ha.sl_inv (fun _ h => zlf h); obtain ⟨y, rfl⟩ := hb.bool_inv; obtain ⟨z, rfl⟩ := hc.bool_inv; obtain ⟨u, rfl⟩ := hd.i_inv; exact ⟨⟨x, y, z, u⟩, rfl⟩
 | .fate, l, h => zx3 h
 | .record, l, h => zhd h
 | .found, l, h => by
   obtain ⟨a, l, rfl, ha, h1⟩ := h.cons_inv; obtain ⟨x, rfl⟩ := ha.i_inv; obtain ⟨r, rfl⟩ := zhd h1; exact ⟨⟨x, r⟩, rfl⟩
 | .table, l, h => by
   obtain ⟨a, l, rfl, ha, h1⟩ := h.cons_inv; obtain ⟨b, l, rfl, hb, h2⟩ := h1.cons_inv; have := h2.nil_inv; subst this; obtain ⟨x, rfl⟩ := ha.ints_inv; obtain ⟨y, rfl⟩ := hb.ints_inv; exact ⟨⟨x, y⟩, rfl⟩
 | .slot, l, h => by
   obtain ⟨a, l, rfl, ha, h1⟩ := h.cons_inv; obtain ⟨b, l, rfl, hb, h2⟩ := h1.cons_inv; obtain ⟨c, l, rfl, hc, h3⟩ := h2.cons_inv; have := h3.nil_inv; subst this; obtain ⟨x, rfl⟩ := ha.i_inv; obtain ⟨y, rfl⟩ := hb.i_inv; obtain ⟨z, rfl⟩ := hc.i_inv; exact ⟨⟨x, y, z⟩, rfl⟩
 | .write, l, h => by
   obtain ⟨a, l, rfl, ha, h1⟩ := h.cons_inv; obtain ⟨x, rfl, _⟩ := ha.str_inv; obtain ⟨r, rfl⟩ := zhd h1; exact ⟨⟨x, r⟩, rfl⟩
 | .command, l, h => by
   obtain ⟨p, l', rfl, h1⟩ := zlg (sh := []) (l' := []) (by rw [List.append_nil]; exact h); have := h1.nil_inv; subst this; exact ⟨p, by simp [z7l]⟩
 | .geometry, l, h => by
   obtain ⟨a, l, rfl, ha, h1⟩ := h.cons_inv; obtain ⟨b, l, rfl, hb, h2⟩ := h1.cons_inv; obtain ⟨c, l, rfl, hc, h3⟩ := h2.cons_inv; obtain ⟨d, l, rfl, hd, h4⟩ := h3.cons_inv; have := h4.nil_inv; subst this; obtain ⟨x, rfl⟩ := ha.i_inv; obtain ⟨y, rfl⟩ := hb.i_inv; obtain ⟨z, rfl⟩ := hc.i_inv; obtain ⟨u, rfl⟩ := hd.i_inv; exact ⟨⟨x, y, z, u⟩, rfl⟩
 | .device, l, h => by
   obtain ⟨a, l, rfl, ha, h1⟩ := h.cons_inv; obtain ⟨b, l, rfl, hb, h2⟩ := h1.cons_inv; obtain ⟨c, l, rfl, hc, h3⟩ := h2.cons_inv; obtain ⟨d, l, rfl, hd, h4⟩ := h3.cons_inv; obtain ⟨x, rfl⟩ := ha.i_inv; obtain ⟨y, rfl⟩ := hb.i_inv; obtain ⟨z, rfl⟩ := hc.i_inv; obtain ⟨u, rfl⟩ := hd.i_inv; obtain ⟨a, l, rfl, ha, h5⟩ := h4.cons_inv; obtain ⟨b, l, rfl, hb, h6⟩ := h5.cons_inv; obtain ⟨c, l, rfl, hc, h7⟩ := h6.cons_inv; obtain ⟨d, l, rfl, hd, h8⟩ := h7.cons_inv; obtain ⟨x2, rfl⟩ := ha.sl_inv (fun _ h => zlf h); obtain ⟨y2, rfl⟩ := hb.bool_inv; obtain ⟨z2, rfl⟩ := hc.bool_inv; obtain ⟨u2, rfl⟩ := hd.i_inv; obtain ⟨a, l, rfl, ha, h9⟩ := h8.cons_inv; obtain ⟨b, l, rfl, hb, h10⟩ := h9.cons_inv; obtain ⟨c, l, rfl, hc, h11⟩ := h10.cons_inv; obtain ⟨d, l, rfl, hd, h12⟩ := h11.cons_inv; have := h12.nil_inv; subst this; obtain ⟨x3, rfl⟩ := ha.ints_inv; obtain ⟨y3, rfl⟩ := hb.ints_inv; obtain ⟨z3, rfl⟩ := hc.i_inv; obtain ⟨u3, rfl⟩ := hd.i_inv; exact ⟨⟨⟨x, y, z, u⟩, ⟨x2, y2, z2, u2⟩, ⟨x3, y3⟩, z3, u3⟩, rfl⟩
 | .answer, l, h => by
   obtain ⟨a, l, rfl, ha, h1⟩ := h.cons_inv; obtain ⟨b, l, rfl, hb, h2⟩ := h1.cons_inv; have := h2.nil_inv; subst this; obtain ⟨x, rfl⟩ := ha.i_inv; obtain ⟨y, rfl⟩ := hb.strs_inv; exact ⟨⟨x, y⟩, rfl⟩
 | .event, l, h => by
   obtain ⟨p, l', rfl, h1⟩ := zlg (l' := []) h; obtain ⟨a, l, rfl, ha, h2⟩ := h1.cons_inv; have := h2.nil_inv; subst this; obtain ⟨x, rfl⟩ := ha.sl_inv (fun _ h => zx3 h); exact ⟨⟨p, x⟩, rfl⟩
 | .report, l, h => by
   obtain ⟨a, l, rfl, ha, h1⟩ := h.cons_inv; obtain ⟨b, l, rfl, hb, h2⟩ := h1.cons_inv; obtain ⟨c, l, rfl, hc, h3⟩ := h2.cons_inv; obtain ⟨d, l, rfl, hd, h4⟩ := h3.cons_inv; obtain ⟨x, rfl⟩ := ha.i_inv; obtain ⟨y, rfl⟩ := hb.i_inv; obtain ⟨z, rfl⟩ := hc.i_inv; obtain ⟨u, rfl⟩ := hd.i_inv; obtain ⟨a, l, rfl, ha, h5⟩ := h4.cons_inv; obtain ⟨b, l, rfl, hb, h6⟩ := h5.cons_inv; obtain ⟨c, l, rfl, hc, h7⟩ := h6.cons_inv; have := h7.nil_inv; subst this; obtain ⟨x2, rfl⟩ := ha.i_inv; obtain ⟨y2, rfl⟩ := hb.i_inv; obtain ⟨z2, rfl⟩ := hc.bool_inv; exact ⟨⟨x, y, z, u, x2, y2, z2⟩, rfl⟩
 | .rank, l, h => by
   obtain ⟨a, l, rfl, ha, h1⟩ := h.cons_inv; obtain ⟨b, l, rfl, hb, h2⟩ := h1.cons_inv; have := h2.nil_inv; subst this; obtain ⟨x, rfl⟩ := ha.i_inv; obtain ⟨y, rfl⟩ := hb.i_inv; exact ⟨⟨x, y⟩, rfl⟩
def IsArg (c : TC) (w : World) (v : Value) (x : c.den) : Prop := RelI w (fun _ => False) (encV c x) v /\ ShL c.sh (z7l c x)
section
variable {H : Type} {enc : TypeId × Value -> H} {P : Program} {w : World} {base : Nat} {spare : Nat -> Bool} {held : Bool}
theorem zg6 {c : TC} {n : Nat} {t : TypeId} {v : Value} {d : DataW H} {p : List MemPlace} (hf : flatT P n t = some c.sh) (hv : (c.agg = true /\ ∃ cs, v = .agg cs) \/ (c.agg = false /\ v.cells = #[v]))
 (hd : DataW.Trod enc P w base spare held t v d p) : ∃ x : c.den, IsArg c w v x := by
 obtain ⟨fuel, hd⟩ := hd; obtain ⟨l, h1, h2, h3⟩ := z01w n t c.sh _ hf ⟨_, _, hd⟩; obtain ⟨x, rfl⟩ := dec c h1; refine ⟨x, ?_, h1⟩; rcases hv with ⟨ha, cs, rfl⟩ | ⟨ha, hc⟩
 · simp only [encV, ha, if_true]; simp only [Value.cells] at h2 h3; exact .agg (by simpa using h2) (fun i a v e1 e2 => h3 i a v e1 (by simpa using e2))
 · rw [hc] at h2 h3; simp only [List.length_cons, List.length_nil] at h2; obtain ⟨a, hl⟩ : ∃ a, z7l c x = [a] := by
    match z7l c x, h2 with
    | [a], _ => exact ⟨a, rfl⟩
   have e : encV c x = a := by simp [encV, ha, hl]
   rw [e]; exact h3 0 a v (by rw [hl]; rfl) rfl
end
end Clk
namespace Clk
open Go
theorem zsd {P : Program} {l : List (FuncId × Spec)} (hl : zm P (zo l)) {f : FuncId} {s : Spec} (hb : Body P f)
 (h : ∀ x y, s.h x = some y -> ∀ (w : World) (N : Nat -> Prop) (vs : Array Value), (∀ r, N r -> r < w.heap.size) -> IRel w N (encL s.params x) vs -> Calls P f vs w (z9w w N (encRes s.res y))) : zm P (zo ((f, s) :: l)) := by
 rw [zo0]; intro g hg e; unfold addO at e; split at e
 · rename_i hgf; subst hgf; cases e; refine ⟨hb, fun args r e w N vs hN hr => callsIn_wide.2 ?_⟩; obtain ⟨x, y, rfl, h1, rfl⟩ := z04o e; exact h x y h1 w N vs hN hr
 · exact hl g hg e
theorem z01y {P : Program} {l : List (FuncId × Spec)} (hl : zm P (zo l)) {f : FuncId} {s : Spec} (hs : z0r l f = some s) {x : z3o s.params} {y : z3o s.res} (h : s.h x = some y) {w : World} {N : Nat -> Prop} {vs : Array Value}
 (hN : ∀ r, N r -> r < w.heap.size) (hr : IRel w N (encL s.params x) vs) : Calls P f vs w (z9w w N (encRes s.res y)) :=
 callsIn_wide.1 ((hl f (oS s) (by unfold zo; rw [hs]; rfl)).2 _ _ (zuk h) w N vs hN hr)
structure Gr (L : Nat -> Prop) (w w' : World) : Prop where
 os : w'.os = w.os
 tape : w'.tape = w.tape
 output : w'.output = w.output
 size : w.heap.size <= w'.heap.size
 same : ∀ r : Nat, r < w.heap.size -> ¬ L r -> w'.heap[r]? = w.heap[r]?
theorem Gr.refl (L : Nat -> Prop) (w : World) : Gr L w w := ⟨rfl, rfl, rfl, Nat.le_refl _, fun _ _ _ => rfl⟩
theorem Gr.trans {L : Nat -> Prop} {a b c : World} (h : Gr L a b) (k : Gr L b c) : Gr L a c :=
 ⟨k.os.trans h.os, k.tape.trans h.tape, k.output.trans h.output, Nat.le_trans h.size k.size, fun r hr hn => (k.same r (Nat.lt_of_lt_of_le hr h.size) hn).trans (h.same r hr hn)⟩
theorem Gr.wider {L L' : Nat -> Prop} {a b : World} (h : Gr L a b) (hl : ∀ r, L r -> L' r) : Gr L' a b :=
 ⟨h.os, h.tape, h.output, h.size, fun r hr hn => h.same r hr fun e => hn (hl r e)⟩
theorem Gr.rel {L N N' : Nat -> Prop} {w w' : World} (g : Gr L w w') (hL : ∀ r, L r -> N r) (hN : ∀ r, N' r -> N r) {x : AV} {v : Value} (h : RelI w N x v) : RelI w' N' x v :=
 h.mono g.size (fun r hr hn => g.same r hr fun e => hn (hL r e)) fun r _ e => hN r e
theorem Gr.rel' {L N : Nat -> Prop} {w w' : World} (g : Gr L w w') (hL : ∀ r, L r -> N r) {x : AV} {v : Value} (h : RelI w N x v) : RelI w' N x v := g.rel hL (fun _ h => h) h
theorem Gr.alloc (L : Nat -> Prop) (w : World) (o : Obj) : Gr L w (w.alloc o) :=
 ⟨rfl, rfl, rfl, by show _ <= (w.heap.push o).size; simp, fun r hr _ => by show (w.heap.push o)[r]? = _; rw [Array.getElem?_push, if_neg (by omega)]⟩
theorem z2x (w : World) (b o : Nat) (v : Value) (r : Nat) : (w.setCell ⟨b, o, none⟩ v).heap[r]? = if r = b then (w.heap[r]?).map (Sort.onCells (·.setIfInBounds o v)) else w.heap[r]? := by
 rw [Sort.setCell_eq]; show (w.heap.modify b _)[r]? = _; rw [Array.getElem?_modify]; by_cases h : b = r
 · subst h; simp
 · rw [if_neg h, if_neg fun e => h e.symm]
theorem Gr.setCell {L : Nat -> Prop} (w : World) (b o : Nat) (v : Value) (h : L b) : Gr L w (w.setCell ⟨b, o, none⟩ v) :=
 ⟨rfl, rfl, rfl, by rw [Sort.setCell_eq]; simp [Sort.mapBlock], fun r hr hn => by rw [z2x, if_neg (fun e => by subst e; exact hn h)]⟩
theorem Gr.of_ends {w w' : World} (h1 : w'.os = w.os) (h2 : w'.tape = w.tape) (h3 : w'.output = w.output) (h4 : w.heap.size <= w'.heap.size) (h5 : ∀ r : Nat, r < w.heap.size -> w'.heap[r]? = w.heap[r]?) (L : Nat -> Prop) : Gr L w w' :=
 ⟨h1, h2, h3, h4, fun r hr _ => h5 r hr⟩
theorem store4 (w : World) {p : Nat} {pc : Array Value} {T : TypeId} (hp : w.heap[p]? = some (.cells pc T (0, 0))) (hps : pc.size = 4) (a b c d : Value) :
 Gr (fun x => x = p) w ((((w.setCell ⟨p, 0, none⟩ a).setCell ⟨p, 1, none⟩ b).setCell ⟨p, 2, none⟩ c).setCell ⟨p, 3, none⟩ d) /\ ((((w.setCell ⟨p, 0, none⟩ a).setCell ⟨p, 1, none⟩ b).setCell ⟨p, 2, none⟩ c).setCell ⟨p, 3, none⟩ d).heap[p]? = some (.cells #[a, b, c, d] T (0, 0)) := by
 refine ⟨(((Gr.setCell (L := fun x => x = p) w p 0 a rfl).trans (Gr.setCell _ p 1 b rfl)).trans (Gr.setCell _ p 2 c rfl)).trans (Gr.setCell _ p 3 d rfl), ?_⟩; simp only [z2x, if_true, hp, Option.map_some, Sort.onCells]; obtain ⟨l⟩ := pc; match l, hps with
 | [_, _, _, _], _ => rfl
theorem store1 (w : World) {p : Nat} {x : Value} {T : TypeId} (hp : w.heap[p]? = some (.cells #[x] T (0, 0))) (a : Value) : Gr (fun x => x = p) w (w.setCell ⟨p, 0, none⟩ a) /\ (w.setCell ⟨p, 0, none⟩ a).heap[p]? = some (.cells #[a] T (0, 0)) := by
 refine ⟨Gr.setCell (L := fun x => x = p) w p 0 a rfl, ?_⟩; rw [z2x, if_pos rfl, hp]; rfl
theorem Gr.drew {L : Nat -> Prop} {w w' : World} (h : Gr L w w') : Gr L w w'.drew := ⟨h.os, h.tape, h.output, h.size, h.same⟩
theorem alloc3 (w : World) (o1 o2 o3 : Obj) : Gr (fun _ => False) w (((w.alloc o1).alloc o2).alloc o3) /\ (((w.alloc o1).alloc o2).alloc o3).heap[w.heap.size]? = some o1 /\ (((w.alloc o1).alloc o2).alloc o3).heap[w.heap.size + 1]? = some o2 /\ (((w.alloc o1).alloc o2).alloc o3).heap[w.heap.size + 1 + 1]? = some o3 /\ (((w.alloc o1).alloc o2).alloc o3).heap.size = w.heap.size + 3 := by
 refine ⟨((Gr.alloc _ w o1).trans (Gr.alloc _ _ o2)).trans (Gr.alloc _ _ o3), ?_, ?_, ?_, ?_⟩
 · show (((w.heap.push o1).push o2).push o3)[w.heap.size]? = _; rw [Array.getElem?_push, if_neg (by simp; omega), Array.getElem?_push, if_neg (by simp), Array.getElem?_push, if_pos rfl]
 · show (((w.heap.push o1).push o2).push o3)[w.heap.size + 1]? = _; rw [Array.getElem?_push, if_neg (by simp), Array.getElem?_push, if_pos (by simp)]
 · show (((w.heap.push o1).push o2).push o3)[w.heap.size + 1 + 1]? = _; rw [Array.getElem?_push, if_pos (by simp)]
 · show (((w.heap.push o1).push o2).push o3).size = _; simp
theorem cells4 {W : World} {b : Nat} {a0 a1 a2 a3 : Value} {t : TypeId} (h : W.heap[b]? = some (.cells #[a0, a1, a2, a3] t (0, 0))) : W.cell? ⟨b, 0, none⟩ = some a0 /\ W.cell? ⟨b, 1, none⟩ = some a1 /\ W.cell? ⟨b, 2, none⟩ = some a2 /\ W.cell? ⟨b, 3, none⟩ = some a3 /\ W.frozen? ⟨b, 0, none⟩ = false /\ W.frozen? ⟨b, 1, none⟩ = false /\ W.frozen? ⟨b, 2, none⟩ = false /\ W.frozen? ⟨b, 3, none⟩ = false := by
 unfold World.cell? World.frozen?; rw [h]; simp
theorem cells1 {W : World} {b : Nat} {a0 : Value} {t : TypeId} (h : W.heap[b]? = some (.cells #[a0] t (0, 0))) : W.cell? ⟨b, 0, none⟩ = some a0 /\ W.frozen? ⟨b, 0, none⟩ = false := by
 unfold World.cell? World.frozen?; rw [h]; simp
theorem Gr.hide {L : Nat -> Prop} {w a b : World} (h : Gr (fun _ => False) w a) (k : Gr L a b) (hl : ∀ r, L r -> w.heap.size <= r) : Gr (fun _ => False) w b :=
 ⟨k.os.trans h.os, k.tape.trans h.tape, k.output.trans h.output, Nat.le_trans h.size k.size, fun r hr _ => (k.same r (Nat.lt_of_lt_of_le hr h.size) fun e => by have := hl r e; omega).trans (h.same r hr id)⟩
theorem zjp {w : World} {N : Nat -> Prop} {l : List Int} {v : Value} (h : RelI w N (eInts l) v) : ∃ a c, v = .slice a l.length c /\ (∀ i (hi : i < l.length), ∃ ad : Addr, a = some ad /\ ad.spot = none /\ ¬ N ad.block /\ ad.block < w.heap.size /\ w.cell? ⟨ad.block, ad.off + i, none⟩ = some (.int .i64 l[i])) := by
 unfold eInts at h; generalize hm : l.map (fun n => [iA n]) = m at h; cases h with
 | @rows _ a c k u hc hk ha hu hr =>
   have hlen : m.length = l.length := by rw [<- hm]; simp
   refine ⟨a, c, by rw [hlen], fun i hi => ?_⟩; have hrow : m[i]? = some [iA l[i]] := by rw [<- hm, List.getElem?_map, zH hi]; rfl
   obtain ⟨ad, e1, e2, e3, e4⟩ := ha (by omega); have hk1 : k = 1 := by have := hk i _ hrow; simpa using this.symm
   subst hk1; have := hu ad i _ 0 _ e1 hrow rfl; rw [Nat.mul_one, Nat.add_zero] at this; have hv := hr i _ 0 _ hrow rfl; unfold iA at hv; generalize u i 0 = x at this hv; cases hv; exact ⟨ad, e1, e2, e3, e4, this⟩
theorem zlh (w : World) (b o : Nat) (v : Value) (b' i : Nat) (h : b' ≠ b) : (w.setCell ⟨b, o, none⟩ v).cell? ⟨b', i, none⟩ = w.cell? ⟨b', i, none⟩ := z2s (by rw [z2x, if_neg h])
theorem store3 (w : World) {p : Nat} {a b c d : Value} {T : TypeId} (hp : w.heap[p]? = some (.cells #[a, b, c, d] T (0, 0))) (x : Value) : Gr (fun r => r = p) w (w.setCell ⟨p, 3, none⟩ x) /\ (w.setCell ⟨p, 3, none⟩ x).heap[p]? = some (.cells #[a, b, c, x] T (0, 0)) := by
 refine ⟨Gr.setCell (L := fun r => r = p) w p 3 x rfl, ?_⟩; rw [z2x, if_pos rfl, hp]; rfl
theorem zph {w : World} {N : Nat -> Prop} {a b : Int} {l m : List Int} {u v : Value} (hu : RelI w N (eInts l) u) (hv : RelI w N (eInts m) v) : RelI w N (.agg (eRecord ⟨a, b, l, m⟩)) (.agg #[.int .i64 a, .int .i64 b, u, v]) := by
 refine .agg rfl fun i x y h1 h2 => ?_
 match i, h1, h2 with
 | 0, h1, h2 => cases h1; cases h2; exact .int _ _
 | 1, h1, h2 => cases h1; cases h2; exact .int _ _
 | 2, h1, h2 => cases h1; cases h2; exact hu
 | 3, h1, h2 => cases h1; cases h2; exact hv
 | i + 4, h1, h2 => simp [eRecord] at h1
theorem zhe {w : World} {N : Nat -> Prop} : RelI w N (eInts []) (.slice none 0 0) :=
 RelI.rows (l := []) (k := 1) (u := fun _ _ => undef) (Nat.le_refl _) (fun _ _ h => by simp at h) (fun h => absurd h (by simp)) (fun _ _ _ _ _ _ h => by simp at h) (fun _ _ _ _ h => by simp at h)
theorem z01z {w : World} {N : Nat -> Prop} {a b c : AV} {v : Value} (h : RelI w N (.tup [a, b, c]) v) : ∃ x y z, v = .tuple #[x, y, z] /\ RelI w N a x /\ RelI w N b y /\ RelI w N c z := by
 cases h with
 | @tup _ vs h hc =>
   obtain ⟨l⟩ := vs; match l, h with
   | [x, y, z], _ => exact ⟨x, y, z, rfl, hc 0 a x rfl rfl, hc 1 b y rfl rfl, hc 2 c z rfl rfl⟩
theorem zx4 {w : World} {N : Nat -> Prop} {s : ByteArray} {v : Value} (h : RelI w N (.str s) v) : v = .string s := by cases h; rfl
theorem z03y {w : World} {N : Nat -> Prop} {k : IntKind} {n : Int} {v : Value} (h : RelI w N (.int k n) v) : v = .int k n := by cases h; rfl
end Clk
namespace Clk
open Go
def readF (U : Str -> Option (List Int × Str × Int)) (M : List Int -> Option (List Int)) (s : Str) : Option (Record × Int) := match U s with
 | none => none
 | some (l1, r1, e1) => cond (decide (e1 = 0)) (cond (decide (l1.length = 2)) (match U r1 with
   | none => none
   | some (l2, r2, e2) => cond (decide (e2 = 0)) (match U r2 with
     | none => none
     | some (l3, _, e3) => cond (decide (e3 = 0)) (match M l3 with
       | none => none
       | some l4 => some (⟨l1.getD 0 0, l1.getD 1 0, l2, l4⟩, 0)) (some (⟨0, 0, [], []⟩, 30))) none) (some (⟨0, 0, [], []⟩, 30))) (some (⟨0, 0, [], []⟩, 30))
def zal (P : Program) (f : Nat) (U : Str -> Option (List Int × Str × Int)) : Prop := ∀ (s : Str) (l : List Int) (r : Str) (e : Int), U s = some (l, r, e) -> ∀ (w : World) (N : Nat -> Prop), (∀ b, N b -> b < w.heap.size) ->
 Calls P f #[.string ⟨s.toArray⟩] w fun en w' => ∃ v, en = .returned (.tuple #[v, .string ⟨r.toArray⟩, .int .i64 e]) /\ Gr (fun _ => False) w w' /\ RelI w' N (eInts l) v
def MovedAt (P : Program) (f : Nat) (M : List Int -> Option (List Int)) : Prop := ∀ (l l' : List Int), M l = some l' -> ∀ (w : World) (N : Nat -> Prop) (v : Value), (∀ b, N b -> b < w.heap.size) -> RelI w N (eInts l) v ->
 Calls P f #[v, .int .i64 (-1)] w fun en w' => ∃ v', en = .returned v' /\ Gr (fun _ => False) w w' /\ RelI w' N (eInts l') v'
def ReadAt (P : Program) (f : Nat) (U : Str -> Option (List Int × Str × Int)) (M : List Int -> Option (List Int)) : Prop := ∀ (s : Str) (r : Record) (e : Int), readF U M s = some (r, e) -> ∀ w : World,
 Calls P f #[.string ⟨s.toArray⟩] w fun en w' => ∃ v, en = .returned (.tuple #[v, .int .i64 e]) /\ Gr (fun _ => False) w w' /\ RelI w' (fun x => x < w.heap.size) (.agg (eRecord r)) v
theorem zo9 {w : World} {N : Nat -> Prop} {r : AV} {e : Ending} {w' : World} (h : z9w w N r e w') : ∃ v, e = .returned v /\ Gr (fun _ => False) w w' /\ RelI w' N r v := by
 obtain ⟨v, h1, h2, h3, h4, h5, h6, h7⟩ := h; exact ⟨v, h1, Gr.of_ends h2 h3 h4 h5 h6 _, h7⟩
theorem zym {w w' : World} {N : Nat -> Prop} {r : AV} {v : Value} (g : Gr (fun _ => False) w w') (h : RelI w' N r v) : z9w w N r (.returned v) w' :=
 ⟨v, rfl, g.os, g.tape, g.output, g.size, fun r hr => g.same r hr id, h⟩
theorem z020 {P : Program} {l : List (FuncId × Spec)} (hl : zm P (zo l)) {f : FuncId} {h : Str -> Option (List Int × Str × Int)} (hs : z0r l f = some ⟨[.str], [.list .i, .str, .i], h⟩) : zal P f h := by
 intro s xs r e hu w N hN; refine (z01y (s := ⟨[.str], [.list .i, .str, .i], h⟩) hl hs (x := s) (y := (xs, r, e)) hu hN ⟨rfl, fun i a v h1 h2 => ?_⟩).mono fun en w' he => ?_
 · match i, h1, h2 with
   | 0, h1, h2 => cases h1; cases h2; exact .str _
   | i + 1, h1, h2 => simp [encL] at h1
 · obtain ⟨v, e1, g, hv⟩ := zo9 he; obtain ⟨x, y, z, rfl, hx, hy, hz⟩ := z01z (a := eInts xs) (b := sA r) (c := iA e) hv; have hy := zx4 hy; have hz := z03y hz; subst hy hz; exact ⟨x, e1, g, hx⟩
theorem z03z {P : Program} {l : List (FuncId × Spec)} (hl : zm P (zo l)) {f : FuncId} {h : List Int × Int -> Option (List Int)} (hs : z0r l f = some ⟨[.list .i, .i], [.list .i], h⟩) : MovedAt P f (fun xs => h (xs, -1)) := by
 intro xs ys hm w N v hN hv; refine (z01y (s := ⟨[.list .i, .i], [.list .i], h⟩) hl hs (x := (xs, -1)) (y := ys) hm hN ⟨rfl, fun i a u h1 h2 => ?_⟩).mono fun en w' he => ?_
 · match i, h1, h2 with
   | 0, h1, h2 => cases h1; cases h2; exact hv
   | 1, h1, h2 => cases h1; cases h2; exact .int _ _
   | i + 2, h1, h2 => simp [encL] at h1
 · obtain ⟨u, e1, g, hu⟩ := zo9 he; exact ⟨u, e1, g, hu⟩
theorem z021 {P : Program} {l : List (FuncId × Spec)} (hl : zm P (zo l)) {f : FuncId} (hb : Body P f) {U : Str -> Option (List Int × Str × Int)} {M : List Int -> Option (List Int)} (R : ReadAt P f U M) : zm P (zo ((f, ⟨[.str], [.record, .i], readF U M⟩) :: l)) := by
 refine zsd hl hb fun (x : Str) y hxy w N vs hN hr => ?_
 obtain ⟨r, e⟩ := y; obtain ⟨hsz, hc⟩ := hr; obtain ⟨u0, rfl⟩ : ∃ u0, vs = #[u0] := by
  obtain ⟨k⟩ := vs; match k, hsz with
  | [a], _ => exact ⟨a, rfl⟩
 have h0 := zx4 (hc 0 _ u0 rfl rfl); subst h0; refine (R x r e hxy w).mono fun en w' ⟨v, he, g, hv⟩ => ?_
 subst he; refine zym g (.tup rfl fun i a u h1 h2 => ?_); match i, h1, h2 with
 | 0, h1, h2 => cases h1; cases h2; exact (Gr.refl (fun _ => False) w').rel (fun _ h => h.elim) (fun r h => hN r h) hv
 | 1, h1, h2 => cases h1; cases h2; exact .int _ _
 | i + 2, h1, h2 => simp [encL] at h1
end Clk
namespace Clk
open Go
noncomputable def z9r (a0 : Int) (a1 : Int) : Option (Int × Int) :=
 some ((Go.IntKind.u64.wrap ((Go.IntKind.u64.wrap ((Go.IntKind.u64.wrap ((Int.fdiv a0 (2 ^ (min 32 64))) * (Int.fdiv a1 (2 ^ (min 32 64))))) + (Int.fdiv (Go.IntKind.u64.wrap ((Go.IntKind.u64.wrap ((Int.fdiv a0 (2 ^ (min 32 64))) * (Go.IntKind.u64.wrap (bAnd .u64 a1 4294967295)))) + (Int.fdiv (Go.IntKind.u64.wrap ((Go.IntKind.u64.wrap (bAnd .u64 a0 4294967295)) * (Go.IntKind.u64.wrap (bAnd .u64 a1 4294967295)))) (2 ^ (min 32 64))))) (2 ^ (min 32 64))))) + (Int.fdiv (Go.IntKind.u64.wrap ((Go.IntKind.u64.wrap (bAnd .u64 (Go.IntKind.u64.wrap ((Go.IntKind.u64.wrap ((Int.fdiv a0 (2 ^ (min 32 64))) * (Go.IntKind.u64.wrap (bAnd .u64 a1 4294967295)))) + (Int.fdiv (Go.IntKind.u64.wrap ((Go.IntKind.u64.wrap (bAnd .u64 a0 4294967295)) * (Go.IntKind.u64.wrap (bAnd .u64 a1 4294967295)))) (2 ^ (min 32 64))))) 4294967295)) + (Go.IntKind.u64.wrap ((Go.IntKind.u64.wrap (bAnd .u64 a0 4294967295)) * (Int.fdiv a1 (2 ^ (min 32 64))))))) (2 ^ (min 32 64))))), (Go.IntKind.u64.wrap (a0 * a1)))
noncomputable def z9s (x : Int × Int) : Option (Int × Int) := z9r x.1 x.2
noncomputable def zck (a0 : Int) (a1 : Int) : Option (Int × Int) :=
 Option.bind (z9s (a0, a1)) fun r1 =>
 some (r1.1, r1.2)
noncomputable def zcl (x : Int × Int) : Option (Int × Int) := zck x.1 x.2
noncomputable def zg7 (ih0 : (Int × (List Int)) -> Option ((List Int))) (v1 : Int) (v2 : (List Int)) : Option ((List Int)) :=
 cond (decide (v1 < (v2.length : Int)))
  (cond (decide (0 <= v1)) (cond (decide (v1 <= (v2.length : Int))) (cond (decide (0 <= v1)) (cond (decide (v1 <= (v2.length : Int))) (ih0 ((w64 (v1 + (((min ((v2.drop 0).take v1.toNat).length (v2.length - v1.toNat)) : Nat) : Int))), (v2.take v1.toNat ++ ((v2.drop 0).take v1.toNat).take (min ((v2.drop 0).take v1.toNat).length (v2.length - v1.toNat)) ++ v2.drop (v1.toNat + (min ((v2.drop 0).take v1.toNat).length (v2.length - v1.toNat)))))) none) none) none) none)
  (some v2)
noncomputable def zg8 := fun ih (x : (Int × (List Int))) => zg7 ih x.1 x.2
noncomputable def z75 (N : Nat) (a0 : (List Int)) (a1 : Int) : Option ((List Int)) :=
 cond (decide (a1 < 0))
  (none)
  (Option.bind (zcl ((Go.IntKind.u64.wrap (a0.length : Int)), (Go.IntKind.u64.wrap a1))) fun r1 =>
  cond (decide (0 < r1.1))
   (none)
   (cond (decide (9223372036854775807 < r1.2))
     (none)
     (cond (decide (0 <= (w64 r1.2))) (cond (decide ((w64 r1.2) <= (w64 r1.2))) (cond (decide (((w64 r1.2) * 8) <= 70368744177664)) (cond (decide ((w64 r1.2) <= 70368744177664)) (zg zg8 N ((((min a0.length (List.replicate (Int.toNat (w64 r1.2)) (0 : Int)).length) : Nat) : Int), (a0.take (List.replicate (Int.toNat (w64 r1.2)) (0 : Int)).length ++ (List.replicate (Int.toNat (w64 r1.2)) (0 : Int)).drop a0.length))) none) none) none) none)))
noncomputable def z3f (x : (List Int) × Int) : Option ((List Int)) := lim fun N => z75 N x.1 x.2
noncomputable def z84 (a0 : Int) : Option Table :=
 Option.bind (z3f ([(-1)], (min (max a0 0) 64))) fun r1 =>
 Option.bind (z3f ([(-1)], (min (max a0 0) 64))) fun r2 =>
 some (Table.mk r1 r2)
noncomputable def zcm (x : Int) : Option Table := z84 x
noncomputable def z61 (a0 : Int) (a1 : Str) (a2 : Bool) : Option (Int × Str × Bool) :=
 cond (!a2)
  (some (0, [], false))
  (cond (decide (1099511627776 < a0))
    (some (0, [], false))
    (some (a0, a1, true)))
noncomputable def z62 (x : Int × Str × Bool) : Option (Int × Str × Bool) := z61 x.1 x.2.1 x.2.2
noncomputable def z2g (ih0 : (Str × Int × Int × Int) -> Option (Int × Str × Bool)) (v1 : Str) (v2 : Int) (v3 : Int) (v4 : Int) : Option (Int × Str × Bool) :=
 cond (decide (v4 < v3))
  (cond (decide (0 <= v4)) (cond (decide (v4 < (v1.length : Int))) (cond (decide (0 <= (w64 (7 * v4)))) (cond (decide ((w64 ((v1.getD v4.toNat 0).toNat : Int)) < 128))
    (cond (decide (0 <= (w64 (v4 + 1)))) (cond (decide ((w64 (v4 + 1)) <= (v1.length : Int))) (cond (decide (v4 = 0))
      (Option.bind (z62 ((w64 (bOr .i64 v2 (w64 ((w64 (bAndNot .i64 (w64 ((v1.getD v4.toNat 0).toNat : Int)) 128)) * 2 ^ (min (Int.toNat (w64 (7 * v4))) 64))))), (v1.drop (Int.toNat (w64 (v4 + 1)))), true)) fun r5 =>
      some (r5.1, r5.2.1, r5.2.2))
      (Option.bind (z62 ((w64 (bOr .i64 v2 (w64 ((w64 (bAndNot .i64 (w64 ((v1.getD v4.toNat 0).toNat : Int)) 128)) * 2 ^ (min (Int.toNat (w64 (7 * v4))) 64))))), (v1.drop (Int.toNat (w64 (v4 + 1)))), (decide (0 < (w64 ((v1.getD v4.toNat 0).toNat : Int)))))) fun r6 =>
      some (r6.1, r6.2.1, r6.2.2))) none) none)
    (ih0 (v1, (w64 (bOr .i64 v2 (w64 ((w64 (bAndNot .i64 (w64 ((v1.getD v4.toNat 0).toNat : Int)) 128)) * 2 ^ (min (Int.toNat (w64 (7 * v4))) 64))))), v3, (w64 (v4 + 1))))) none) none) none)
  (some (0, [], false))
noncomputable def z8w := fun ih (x : (Str × Int × Int × Int)) => z2g ih x.1 x.2.1 x.2.2.1 x.2.2.2
theorem z41 (ih) (x) : z8w ih x = z2g ih x.1 x.2.1 x.2.2.1 x.2.2.2 := rfl
noncomputable def zli (N : Nat) (a0 : Str) : Option (Int × Str × Bool) :=
 zg z8w N (a0, 0, (min (a0.length : Int) 6), 0)
noncomputable def zam (x : Str) : Option (Int × Str × Bool) := lim fun N => zli N x
noncomputable def z2m (ih0 : (Str × Int × Int × (List Int)) -> Option ((List Int) × Str × Int)) (v1 : Str) (v2 : Int) (v3 : Int) (v4 : (List Int)) : Option ((List Int) × Str × Int) :=
 cond (decide (v3 < v2))
  (Option.bind (zam v1) fun r5 =>
  cond (!r5.2.2)
   (some ([], [], 20))
   (cond (decide ((v4.length + [r5.1].length) * 8 <= 70368744177664)) (cond (decide (v4.length + [r5.1].length <= 70368744177664)) (ih0 (r5.2.1, v2, (w64 (v3 + 1)), (v4 ++ [r5.1]))) none) none))
  (some (v4, v1, 0))
noncomputable def z5c := fun ih (x : (Str × Int × Int × (List Int))) => z2m ih x.1 x.2.1 x.2.2.1 x.2.2.2
theorem z78 (ih) (x) : z5c ih x = z2m ih x.1 x.2.1 x.2.2.1 x.2.2.2 := rfl
noncomputable def z63 (N : Nat) (a0 : Str) : Option ((List Int) × Str × Int) :=
 Option.bind (zam a0) fun r1 =>
 cond (!r1.2.2)
  (some ([], [], 20))
  (cond (decide (((r1.2.1.length : Nat) : Int) < r1.1))
    (some ([], [], 20))
    (zg z5c N (r1.2.1, r1.1, 0, [])))
noncomputable def z3g (x : Str) : Option ((List Int) × Str × Int) := lim fun N => z63 N x
noncomputable def zhf (x : Str) : Option (Record × Int) := readF z3g (fun l => z2p (l, -1)) x
noncomputable def z85 (a0 : Str) (a1 : Str) : Option (Record × Int) :=
 Option.bind (zhf a0) fun r1 =>
 cond (!(decide (r1.2 = 0)))
  (some ((Record.mk 0 0 [] []), r1.2))
  (Option.bind (zcc (r1.1, a1)) fun r2 =>
  cond (!(decide (r2.2 = 0)))
   (some ((Record.mk 0 0 [] []), 30))
   (cond (!(decide (r2.1 = a0)))
     (some ((Record.mk 0 0 [] []), 30))
     (some (r1.1, 0))))
noncomputable def zcn (x : Str × Str) : Option (Record × Int) := z85 x.1 x.2
noncomputable def zan (a0 : Page) : Option (Int × Record) :=
 cond (!a0.written)
  (some (0, (Record.mk 0 0 [] [])))
  (Option.bind (zcn (a0.tag, a0.data)) fun r1 =>
  cond (decide (r1.2 = 0))
   (some (1, r1.1))
   (some (2, (Record.mk 0 0 [] []))))
noncomputable def zew (x : Page) : Option (Int × Record) := zan x
noncomputable def z64 (ih0 : ((List Block) × Int × Int × (List Found)) -> Option ((List Found))) (ih1 : (Int × (List Block) × Int × Int × (List Page) × Int × Int × (List Found)) -> Option ((List Found))) (v2 : Int) (v3 : (List Block)) (v4 : Int) (v5 : Int) (v6 : (List Page)) (v7 : Int) (v8 : Int) (v9 : (List Found)) : Option ((List Found)) :=
 cond (decide (v8 < v7))
  (cond (decide (0 <= v8)) (cond (decide (v8 < (v6.length : Int))) (Option.bind (zcd (v2, v8)) fun r10 =>
  cond (decide (0 <= r10))
   (Option.bind (zew (v6.getD v8.toNat default)) fun r11 =>
   cond (decide (r11.1 = 1))
    (cond (decide ((v9.length + [(Found.mk r10 r11.2)].length) * 72 <= 70368744177664)) (cond (decide (v9.length + [(Found.mk r10 r11.2)].length <= 70368744177664)) (ih1 (v2, v3, v4, v5, v6, v7, (w64 (v8 + 1)), (v9 ++ [(Found.mk r10 r11.2)]))) none) none)
    (ih1 (v2, v3, v4, v5, v6, v7, (w64 (v8 + 1)), v9)))
   (ih1 (v2, v3, v4, v5, v6, v7, (w64 (v8 + 1)), v9))) none) none)
  (ih0 (v3, v4, (w64 (v5 + 1)), v9))
noncomputable def zao (ih5 : ((List Block) × Int × Int × (List Found)) -> Option ((List Found))) := fun ih (x : (Int × (List Block) × Int × Int × (List Page) × Int × Int × (List Found))) => z64 ih5 ih x.1 x.2.1 x.2.2.1 x.2.2.2.1 x.2.2.2.2.1 x.2.2.2.2.2.1 x.2.2.2.2.2.2.1 x.2.2.2.2.2.2.2
theorem zbj (ih5 : ((List Block) × Int × Int × (List Found)) -> Option ((List Found))) (ih) (x) : zao ih5 ih x = z64 ih5 ih x.1 x.2.1 x.2.2.1 x.2.2.2.1 x.2.2.2.2.1 x.2.2.2.2.2.1 x.2.2.2.2.2.2.1 x.2.2.2.2.2.2.2 := rfl
noncomputable def z65 (N : Nat) (ih0 : ((List Block) × Int × Int × (List Found)) -> Option ((List Found))) (v1 : (List Block)) (v2 : Int) (v3 : Int) (v4 : (List Found)) : Option ((List Found)) :=
 cond (decide (v3 < v2))
  (cond (decide (0 <= v3)) (cond (decide (v3 < (v1.length : Int))) (zg (zao ih0) N (v3, v1, v2, v3, (v1.getD v3.toNat default).pages, (((v1.getD v3.toNat default).pages.length : Nat) : Int), 0, v4)) none) none)
  (cond (distF v4) (cond (decide (v4.length <= 70368744177664)) (some (sortF v4)) none) none)
noncomputable def zap (N : Nat) := fun ih (x : ((List Block) × Int × Int × (List Found))) => z65 N ih x.1 x.2.1 x.2.2.1 x.2.2.2
theorem zbk (N : Nat) (ih) (x) : zap N ih x = z65 N ih x.1 x.2.1 x.2.2.1 x.2.2.2 := rfl
noncomputable def zdr (N : Nat) (a0 : Chip) : Option ((List Found)) :=
 zg (zap N) N (a0.blocks, (a0.blocks.length : Int), 0, [])
noncomputable def zhg (x : Chip) : Option ((List Found)) := lim fun N => zdr N x
noncomputable def z1a (v0 : Table) (ih1 : (Int × (List Found) × Int × Int) -> Option (Table × Int)) (v2 : Int) (v3 : (List Found)) (v4 : Int) (v5 : Int) : Option (Table × Int) :=
 cond (decide (v5 < v4))
  (cond (decide (0 <= v5)) (cond (decide (v5 < (v3.length : Int))) (ih1 ((max v2 (w64 ((v3.getD v5.toNat default).record.seq + 1))), v3, v4, (w64 (v5 + 1)))) none) none)
  (some (v0, v2))
noncomputable def z3h (v6 : Table) := fun ih (x : (Int × (List Found) × Int × Int)) => z1a v6 ih x.1 x.2.1 x.2.2.1 x.2.2.2
theorem z4z (v6 : Table) (ih) (x) : z3h v6 ih x = z1a v6 ih x.1 x.2.1 x.2.2.1 x.2.2.2 := rfl
noncomputable def z1b (N : Nat) (r0 : (List Found)) (ih1 : ((List Found) × Int × Int × Table) -> Option (Table × Int)) (v2 : (List Found)) (v3 : Int) (v4 : Int) (v5 : Table) : Option (Table × Int) :=
 cond (decide (v4 < v3))
  (cond (decide (0 <= v4)) (cond (decide (v4 < (v2.length : Int))) (Option.bind (z8u (v5, (v2.getD v4.toNat default))) fun r6 =>
  ih1 (v2, v3, (w64 (v4 + 1)), r6)) none) none)
  (zg (z3h v5) N (0, r0, (r0.length : Int), 0))
noncomputable def z3i (N : Nat) (r1 : (List Found)) := fun ih (x : ((List Found) × Int × Int × Table)) => z1b N r1 ih x.1 x.2.1 x.2.2.1 x.2.2.2
theorem z51 (N : Nat) (r1 : (List Found)) (ih) (x) : z3i N r1 ih x = z1b N r1 ih x.1 x.2.1 x.2.2.1 x.2.2.2 := rfl
noncomputable def z3j (N : Nat) (a0 : Chip) (a1 : Int) : Option (Table × Int) :=
 Option.bind (zhg a0) fun r1 =>
 Option.bind (zcm a1) fun r2 =>
 zg (z3i N r1) N (r1, (r1.length : Int), 0, r2)
noncomputable def z1l (x : Chip × Int) : Option (Table × Int) := lim fun N => z3j N x.1 x.2
end Clk
namespace Clk
open Go
noncomputable def zaq (a0 : Chip) (a1 : Int) : Option (Page × Bool) :=
 cond (decide (a1 < 0))
  (some ((Page.mk false [] []), false))
  (cond (decide ((min (a0.blocks.length : Int) 32) <= (w64 (Int.tdiv a1 16))))
    (some ((Page.mk false [] []), false))
    (cond (decide (0 <= (w64 (Int.tdiv a1 16)))) (cond (decide ((w64 (Int.tdiv a1 16)) < (a0.blocks.length : Int))) (cond (decide ((((a0.blocks.getD (Int.toNat (w64 (Int.tdiv a1 16))) default).pages.length : Nat) : Int) <= (Int.tmod a1 16)))
      (some ((Page.mk false [] []), false))
      (cond (decide (0 <= (w64 (Int.tdiv a1 16)))) (cond (decide ((w64 (Int.tdiv a1 16)) < (a0.blocks.length : Int))) (cond (decide (0 <= (Int.tmod a1 16))) (cond (decide ((Int.tmod a1 16) < (((a0.blocks.getD (Int.toNat (w64 (Int.tdiv a1 16))) default).pages.length : Nat) : Int))) (some (((a0.blocks.getD (Int.toNat (w64 (Int.tdiv a1 16))) default).pages.getD (Int.toNat (Int.tmod a1 16)) default), true)) none) none) none) none)) none) none))
noncomputable def zex (x : Chip × Int) : Option (Page × Bool) := zaq x.1 x.2
end Clk
namespace Clk
open Go
end Clk
namespace Clk
open Go
noncomputable def z0e (ih0 : ((List Bool) × Bool × Int × Int) -> Option Int) (v1 : (List Bool)) (v2 : Bool) (v3 : Int) (v4 : Int) : Option Int :=
 cond (decide (v4 < v3))
  (cond (decide (0 <= v4)) (cond (decide (v4 < (v1.length : Int))) (cond (v2 == (v1.getD v4.toNat false))
    (some v4)
    (ih0 (v1, v2, v3, (w64 (v4 + 1))))) none) none)
  (some (-1))
noncomputable def z0f := fun ih (x : ((List Bool) × Bool × Int × Int)) => z0e ih x.1 x.2.1 x.2.2.1 x.2.2.2
theorem z05 (ih) (x) : z0f ih x = z0e ih x.1 x.2.1 x.2.2.1 x.2.2.2 := rfl
noncomputable def ze1 (N : Nat) (a0 : (List Bool)) (a1 : Bool) : Option Int :=
 zg z0f N (a0, a1, (a0.length : Int), 0)
noncomputable def z8x (x : (List Bool) × Bool) : Option Int := lim fun N => ze1 N x.1 x.2
noncomputable def z1z (a0 : (List Bool)) (a1 : Bool) : Option Bool :=
 Option.bind (z8x (a0, a1)) fun r1 =>
 some (decide (0 <= r1))
noncomputable def z42 (x : (List Bool) × Bool) : Option Bool := z1z x.1 x.2
noncomputable def zds (a0 : (List Bool)) : Option Bool :=
 Option.bind (z42 (a0, false)) fun r1 =>
 some (!r1)
noncomputable def zhh (x : (List Bool)) : Option Bool := zds x
noncomputable def z67 (a0 : Int) (a1 : Int) (a2 : Int) : Option Bool :=
 cond (decide (a1 <= a0))
  (some (decide (a0 <= a2)))
  (some false)
noncomputable def z20 (x : Int × Int × Int) : Option Bool := z67 x.1 x.2.1 x.2.2
noncomputable def zar (a0 : Geometry) : Option Bool :=
 Option.bind (z20 (a0.blocks, 1, 32)) fun r1 =>
 Option.bind (z20 (a0.pages, 2, 16)) fun r2 =>
 Option.bind (z20 (a0.sectors, 1, 64)) fun r3 =>
 Option.bind (z20 (a0.spare, 0, 32)) fun r4 =>
 Option.bind (zhh [r1, r2, r3, r4]) fun r5 =>
 cond (!r5)
  (some false)
  (some (decide ((w64 (2 * a0.sectors)) < (w64 ((w64 ((w64 (a0.blocks - (w64 (2 * a0.spare)))) - 3)) * a0.pages)))))
noncomputable def z0w (x : Geometry) : Option Bool := zar x
noncomputable def zse (a0 : Chip) : Option Chip :=
 some (Chip.mk a0.blocks a0.broken false a0.ops)
noncomputable def zco (x : Chip) : Option Chip := zse x
noncomputable def z3k (ih0 : ((List Block) × Int × Int × Geometry × Device) -> Option (Device × Int)) (v1 : (List Block)) (v2 : Int) (v3 : Int) (v4 : Geometry) (v5 : Device) : Option (Device × Int) :=
 cond (decide (v3 < v2))
  (cond (decide (0 <= v3)) (cond (decide (v3 < (v1.length : Int))) (cond (!(v1.getD v3.toNat default).bad)
    (cond (decide (0 < (v1.getD v3.toNat default).next))
      (cond (decide ((v1.getD v3.toNat default).next < v4.pages))
        (some ((Device.mk v5.geometry v5.chip v5.table v5.seq v3), 0))
        (ih0 (v1, v2, (w64 (v3 + 1)), v4, v5)))
      (ih0 (v1, v2, (w64 (v3 + 1)), v4, v5)))
    (ih0 (v1, v2, (w64 (v3 + 1)), v4, v5))) none) none)
  (some ((Device.mk v5.geometry v5.chip v5.table v5.seq (-1)), 0))
noncomputable def z1m := fun ih (x : ((List Block) × Int × Int × Geometry × Device)) => z3k ih x.1 x.2.1 x.2.2.1 x.2.2.2.1 x.2.2.2.2
theorem z86 (ih) (x) : z1m ih x = z3k ih x.1 x.2.1 x.2.2.1 x.2.2.2.1 x.2.2.2.2 := rfl
noncomputable def z3l (N : Nat) (ih0 : ((List Block) × Int × Int × Geometry × Chip) -> Option (Device × Int)) (v1 : (List Block)) (v2 : Int) (v3 : Int) (v4 : Geometry) (v5 : Chip) : Option (Device × Int) :=
 cond (decide (v3 < v2))
  (cond (decide (0 <= v3)) (cond (decide (v3 < (v1.length : Int))) (cond (!(decide ((((v1.getD v3.toNat default).pages.length : Nat) : Int) = v4.pages)))
    (cond (decide (0 <= v3))
      (some ((Device.mk (Geometry.mk 0 0 0 0) (Chip.mk [] false false 0) (Table.mk [] []) 0 0), 1))
      (Option.bind (zco v5) fun r6 =>
      Option.bind (z1l (v5, v4.sectors)) fun r7 =>
      zg z1m N (v5.blocks, (v5.blocks.length : Int), 0, v4, (Device.mk v4 r6 r7.1 r7.2 (-1)))))
    (ih0 (v1, v2, (w64 (v3 + 1)), v4, v5))) none) none)
  (Option.bind (zco v5) fun r8 =>
  Option.bind (z1l (v5, v4.sectors)) fun r9 =>
  zg z1m N (v5.blocks, (v5.blocks.length : Int), 0, v4, (Device.mk v4 r8 r9.1 r9.2 (-1))))
noncomputable def z79 (N : Nat) := fun ih (x : ((List Block) × Int × Int × Geometry × Chip)) => z3l N ih x.1 x.2.1 x.2.2.1 x.2.2.2.1 x.2.2.2.2
theorem z87 (N : Nat) (ih) (x) : z79 N ih x = z3l N ih x.1 x.2.1 x.2.2.1 x.2.2.2.1 x.2.2.2.2 := rfl
noncomputable def z88 (N : Nat) (a0 : Geometry) (a1 : Chip) : Option (Device × Int) :=
 Option.bind (z0w a0) fun r1 =>
 cond (!r1)
  (some ((Device.mk (Geometry.mk 0 0 0 0) (Chip.mk [] false false 0) (Table.mk [] []) 0 0), 1))
  (cond (!(decide ((a1.blocks.length : Int) = a0.blocks)))
    (some ((Device.mk (Geometry.mk 0 0 0 0) (Chip.mk [] false false 0) (Table.mk [] []) 0 0), 1))
    (zg (z79 N) N (a1.blocks, (a1.blocks.length : Int), 0, a0, a1)))
noncomputable def z89 (x : Geometry × Chip) : Option (Device × Int) := lim fun N => z88 N x.1 x.2
noncomputable def z68 (ih0 : ((List Int) × Int × Int × (List Block) × Bool × Bool × Int) -> Option (Chip × Int)) (v1 : (List Int)) (v2 : Int) (v3 : Int) (v4 : (List Block)) (v5 : Bool) (v6 : Bool) (v7 : Int) : Option (Chip × Int) :=
 cond (decide (v3 < v2))
  (cond (decide (0 <= v3)) (cond (decide (v3 < (v1.length : Int))) (cond (decide (0 <= (v1.getD v3.toNat 0))) (cond (decide ((v1.getD v3.toNat 0) < (v4.length : Int))) (cond (decide ((Int.toNat (v1.getD v3.toNat 0)) < v4.length)) (ih0 (v1, v2, (w64 (v3 + 1)), (bBad v4 (Int.toNat (v1.getD v3.toNat 0)) true), v5, v6, v7)) none) none) none) none) none)
  (some ((Chip.mk v4 v5 v6 v7), 0))
noncomputable def zas := fun ih (x : ((List Int) × Int × Int × (List Block) × Bool × Bool × Int)) => z68 ih x.1 x.2.1 x.2.2.1 x.2.2.2.1 x.2.2.2.2.1 x.2.2.2.2.2.1 x.2.2.2.2.2.2
theorem zbl (ih) (x) : zas ih x = z68 ih x.1 x.2.1 x.2.2.1 x.2.2.2.1 x.2.2.2.2.1 x.2.2.2.2.2.1 x.2.2.2.2.2.2 := rfl
noncomputable def z69 (N : Nat) (ih0 : (Int × (List Int) × Int × Int × (List Block) × Bool × Bool × Int) -> Option (Chip × Int)) (v1 : Int) (v2 : (List Int)) (v3 : Int) (v4 : Int) (v5 : (List Block)) (v6 : Bool) (v7 : Bool) (v8 : Int) : Option (Chip × Int) :=
 cond (decide (v4 < v3))
  (cond (decide (0 <= v1)) (cond (decide (v1 <= v1)) (cond (decide ((v1 * 40) <= 70368744177664)) (cond (decide (v1 <= 70368744177664)) (cond (decide (0 <= v4)) (cond (decide (v4 < (v5.length : Int))) (cond (decide (v4.toNat < v5.length)) (ih0 (v1, v2, v3, (w64 (v4 + 1)), (bPages v5 v4.toNat (List.replicate v1.toNat (default : Page))), v6, v7, v8)) none) none) none) none) none) none) none)
  (zg zas N (v2, (v2.length : Int), 0, v5, v6, v7, v8))
noncomputable def z3m (N : Nat) := fun ih (x : (Int × (List Int) × Int × Int × (List Block) × Bool × Bool × Int)) => z69 N ih x.1 x.2.1 x.2.2.1 x.2.2.2.1 x.2.2.2.2.1 x.2.2.2.2.2.1 x.2.2.2.2.2.2.1 x.2.2.2.2.2.2.2
theorem zbm (N : Nat) (ih) (x) : z3m N ih x = z69 N ih x.1 x.2.1 x.2.2.1 x.2.2.2.1 x.2.2.2.2.1 x.2.2.2.2.2.1 x.2.2.2.2.2.2.1 x.2.2.2.2.2.2.2 := rfl
noncomputable def z6a (N : Nat) (a1 : Int) (a2 : (List Int)) (ih0 : ((List Int) × Int × Int × Int) -> Option (Chip × Int)) (v1 : (List Int)) (v2 : Int) (v3 : Int) (v4 : Int) : Option (Chip × Int) :=
 cond (decide (v3 < v2))
  (cond (decide (0 <= v3)) (cond (decide (v3 < (v1.length : Int))) (cond (decide ((v1.getD v3.toNat 0) < 0))
    (cond (decide (0 <= v3))
      (some ((Chip.mk [] false false 0), 1))
      (cond (decide (0 <= v4)) (cond (decide (v4 <= v4)) (cond (decide ((v4 * 48) <= 70368744177664)) (cond (decide (v4 <= 70368744177664)) (zg (z3m N) N (a1, a2, (((List.replicate v4.toNat (default : Block)).length : Nat) : Int), 0, (List.replicate v4.toNat (default : Block)), false, false, 0)) none) none) none) none))
    (cond (decide (v4 <= (v1.getD v3.toNat 0)))
      (cond (decide (0 <= v3))
        (some ((Chip.mk [] false false 0), 1))
        (cond (decide (0 <= v4)) (cond (decide (v4 <= v4)) (cond (decide ((v4 * 48) <= 70368744177664)) (cond (decide (v4 <= 70368744177664)) (zg (z3m N) N (a1, a2, (((List.replicate v4.toNat (default : Block)).length : Nat) : Int), 0, (List.replicate v4.toNat (default : Block)), false, false, 0)) none) none) none) none))
      (ih0 (v1, v2, (w64 (v3 + 1)), v4)))) none) none)
  (cond (decide (0 <= v4)) (cond (decide (v4 <= v4)) (cond (decide ((v4 * 48) <= 70368744177664)) (cond (decide (v4 <= 70368744177664)) (zg (z3m N) N (a1, a2, (((List.replicate v4.toNat (default : Block)).length : Nat) : Int), 0, (List.replicate v4.toNat (default : Block)), false, false, 0)) none) none) none) none)
noncomputable def zat (N : Nat) (a1 : Int) (a2 : (List Int)) := fun ih (x : ((List Int) × Int × Int × Int)) => z6a N a1 a2 ih x.1 x.2.1 x.2.2.1 x.2.2.2
theorem zbn (N : Nat) (a1 : Int) (a2 : (List Int)) (ih) (x) : zat N a1 a2 ih x = z6a N a1 a2 ih x.1 x.2.1 x.2.2.1 x.2.2.2 := rfl
noncomputable def zdt (N : Nat) (a0 : Int) (a1 : Int) (a2 : (List Int)) : Option (Chip × Int) :=
 cond (decide (a0 < 1))
  (some ((Chip.mk [] false false 0), 1))
  (cond (decide (32 < a0))
    (some ((Chip.mk [] false false 0), 1))
    (cond (decide (a1 < 1))
      (some ((Chip.mk [] false false 0), 1))
      (cond (decide (16 < a1))
        (some ((Chip.mk [] false false 0), 1))
        (zg (zat N a1 a2) N (a2, (a2.length : Int), 0, a0)))))
noncomputable def zhi (x : Int × Int × (List Int)) : Option (Chip × Int) := lim fun N => zdt N x.1 x.2.1 x.2.2
noncomputable def z4s (ih0 : (Int × (List Block) × Int × Int) -> Option Int) (v1 : Int) (v2 : (List Block)) (v3 : Int) (v4 : Int) : Option Int :=
 cond (decide (v4 < v3))
  (cond (decide (0 <= v4)) (cond (decide (v4 < (v2.length : Int))) (cond (v2.getD v4.toNat default).bad
    (ih0 ((w64 (v1 + 1)), v2, v3, (w64 (v4 + 1))))
    (ih0 (v1, v2, v3, (w64 (v4 + 1))))) none) none)
  (some v1)
noncomputable def z8y := fun ih (x : (Int × (List Block) × Int × Int)) => z4s ih x.1 x.2.1 x.2.2.1 x.2.2.2
theorem z9t (ih) (x) : z8y ih x = z4s ih x.1 x.2.1 x.2.2.1 x.2.2.2 := rfl
noncomputable def zlj (N : Nat) (a0 : Chip) : Option Int :=
 zg z8y N (0, a0.blocks, (a0.blocks.length : Int), 0)
noncomputable def zau (x : Chip) : Option Int := lim fun N => zlj N x
noncomputable def z6b (a0 : Geometry) (a1 : (List Int)) : Option (Device × Int) :=
 Option.bind (z0w a0) fun r1 =>
 cond (!r1)
  (some ((Device.mk (Geometry.mk 0 0 0 0) (Chip.mk [] false false 0) (Table.mk [] []) 0 0), 1))
  (Option.bind (zhi (a0.blocks, a0.pages, a1)) fun r2 =>
  cond (!(decide (r2.2 = 0)))
   (some ((Device.mk (Geometry.mk 0 0 0 0) (Chip.mk [] false false 0) (Table.mk [] []) 0 0), 1))
   (Option.bind (zau r2.1) fun r3 =>
   cond (decide (a0.spare < r3))
    (some ((Device.mk (Geometry.mk 0 0 0 0) (Chip.mk [] false false 0) (Table.mk [] []) 0 0), 1))
    (Option.bind (z89 (a0, r2.1)) fun r4 =>
    some (r4.1, r4.2))))
noncomputable def z0x (x : Geometry × (List Int)) : Option (Device × Int) := z6b x.1 x.2
noncomputable def zdu (a0 : Chip) (a1 : Table) (a2 : Int) : Option Str :=
 cond (decide (a2 < 0))
  (some [])
  (cond (decide ((a1.map.length : Int) <= a2))
    (some [])
    (cond (decide (0 <= a2)) (cond (decide (a2 < (a1.map.length : Int))) (Option.bind (zex (a0, (a1.map.getD a2.toNat 0))) fun r1 =>
    some r1.1.data) none) none))
noncomputable def zhj (x : Chip × Table × Int) : Option Str := zdu x.1 x.2.1 x.2.2
noncomputable def z6c (ih0 : (Int × Int × Device × (List Str)) -> Option ((List Str))) (v1 : Int) (v2 : Int) (v3 : Device) (v4 : (List Str)) : Option ((List Str)) :=
 cond (decide (v2 < v1))
  (Option.bind (zhj (v3.chip, v3.table, v2)) fun r5 =>
  cond (decide (0 <= v2)) (cond (decide (v2 < (v4.length : Int))) (cond (decide (v2.toNat < v4.length)) (ih0 (v1, (w64 (v2 + 1)), v3, (v4.set v2.toNat r5))) none) none) none)
  (some v4)
noncomputable def zav := fun ih (x : (Int × Int × Device × (List Str))) => z6c ih x.1 x.2.1 x.2.2.1 x.2.2.2
theorem zbo (ih) (x) : zav ih x = z6c ih x.1 x.2.1 x.2.2.1 x.2.2.2 := rfl
noncomputable def zdv (N : Nat) (a0 : Device) : Option ((List Str)) :=
 cond (decide (0 <= (a0.table.map.length : Int))) (cond (decide ((a0.table.map.length : Int) <= (a0.table.map.length : Int))) (cond (decide (((a0.table.map.length : Int) * 16) <= 70368744177664)) (cond (decide ((a0.table.map.length : Int) <= 70368744177664)) (zg zav N ((((List.replicate (Int.toNat (a0.table.map.length : Int)) ([] : Str)).length : Nat) : Int), 0, a0, (List.replicate (Int.toNat (a0.table.map.length : Int)) ([] : Str)))) none) none) none) none
noncomputable def zhk (x : Device) : Option ((List Str)) := lim fun N => zdv N x
noncomputable def z4t (a0 : Device) : Option Int :=
 Option.bind (zau a0.chip) fun r1 =>
 some (w64 (2 + (w64 (2 * (max (w64 (a0.geometry.spare - r1)) 0)))))
noncomputable def z8z (x : Device) : Option Int := z4t x
noncomputable def z6d : Option Bool :=
 Option.bind (zaa 0) fun r1 =>
 Option.bind (z0x (r1, [2])) fun r2 =>
 Option.bind (z0x (r1, [2, 3])) fun r3 =>
 Option.bind (z89 (r1, (Chip.mk [] false false 0))) fun r4 =>
 Option.bind (zhk r2.1) fun r5 =>
 Option.bind (z0w r1) fun r6 =>
 cond r6
  (Option.bind (z0w (Geometry.mk 0 0 0 0)) fun r7 =>
  cond (!r7)
   (cond (decide (r2.2 = 0))
     (cond (decide (r3.2 = 1))
       (cond (decide (r4.2 = 1))
         (cond (decide ((r5.length : Int) = 5))
           (cond (decide (0 < (r5.length : Int))) (cond (decide ((r5.getD 0 []) = []))
             (cond (decide (r2.1.opn = (-1)))
               (Option.bind (z8z r2.1) fun r8 =>
               cond (decide (r8 = 2))
                (some (decide (((r2.1.chip.blocks.length : Nat) : Int) = 8)))
                (some false))
               (some false))
             (some false)) none)
           (some false))
         (some false))
       (some false))
     (some false))
   (some false))
  (some false)
noncomputable def z3n (x : Unit) : Option Bool := z6d
noncomputable def z2q (ih0 : ((List Int) × Int × Geometry × (List Int)) -> Option Bool) (v1 : (List Int)) (v2 : Int) (v3 : Geometry) (v4 : (List Int)) : Option Bool :=
 cond (decide (v2 < (v1.length : Int)))
  (cond (decide (v2 < 6))
    (cond (decide (0 <= v2)) (cond (decide (v2 < (v1.length : Int))) (cond (decide ((v4.length + [(Int.tmod (w64 (v1.getD v2.toNat 0)) 33)].length) * 8 <= 70368744177664)) (cond (decide (v4.length + [(Int.tmod (w64 (v1.getD v2.toNat 0)) 33)].length <= 70368744177664)) (ih0 (v1, (w64 (v2 + 1)), v3, (v4 ++ [(Int.tmod (w64 (v1.getD v2.toNat 0)) 33)]))) none) none) none) none)
    (Option.bind (z0x (v3, v4)) fun r5 =>
    Option.bind (z2e (v3, v4)) fun r6 =>
    Option.bind (z3n ()) fun r7 =>
    cond r7
     (Option.bind (z0w v3) fun r8 =>
     Option.bind (z1j v3) fun r9 =>
     cond (r8 == r9)
      (Option.bind (z4x (r5.1, r6.1)) fun r10 =>
      cond r10
       (some (decide (r5.2 = r6.2)))
       (some false))
      (some false))
     (some false)))
  (Option.bind (z0x (v3, v4)) fun r11 =>
  Option.bind (z2e (v3, v4)) fun r12 =>
  Option.bind (z3n ()) fun r13 =>
  cond r13
   (Option.bind (z0w v3) fun r14 =>
   Option.bind (z1j v3) fun r15 =>
   cond (r14 == r15)
    (Option.bind (z4x (r11.1, r12.1)) fun r16 =>
    cond r16
     (some (decide (r11.2 = r12.2)))
     (some false))
    (some false))
   (some false))
noncomputable def z2r := fun ih (x : ((List Int) × Int × Geometry × (List Int))) => z2q ih x.1 x.2.1 x.2.2.1 x.2.2.2
theorem zbs (ih) (x) : z2r ih x = z2q ih x.1 x.2.1 x.2.2.1 x.2.2.2 := rfl
noncomputable def zbp (N : Nat) (a0 : Int) (a1 : Int) (a2 : Int) (a3 : Int) (a4 : (List Int)) : Option Bool :=
 zg z2r N (a4, 0, (Geometry.mk (Int.tmod (w64 a0) 34) (Int.tmod (w64 a1) 18) (Int.tmod (w64 a2) 67) (Int.tmod (w64 a3) 16)), [])
noncomputable def z5d (x : Int × Int × Int × Int × (List Int)) : Option Bool := lim fun N => zbp N x.1 x.2.1 x.2.2.1 x.2.2.2.1 x.2.2.2.2
end Clk
