/- A part of the proof of DiskMount: an evaluator of the program's code that the kernel runs, its soundness, what the functions compute. -/
import Derived.Test.YtpncgjcflkhemaaGreatPartD
import Derived.IntWalk
import Derived.KernelRfl
import Derived.ChangeSlices
import Derived.Sort.Row
set_option linter.unusedVariables false
set_option linter.unusedSimpArgs false
set_option maxRecDepth 1000000
namespace Clk
open Go
theorem z6 {X R : Type} (F : (X -> Option R) -> X -> Option R) (N : Nat) (x : X) : ze F (N + 1) x = F (ze F N) x := rfl
theorem zh {α : Type} {xs l : List α} {k : Nat} {a : α} (h : xs.drop k = a :: l) : k < xs.length /\ (∀ d, xs.getD k d = a) /\ xs.drop (k + 1) = l := by
 have hk : k < xs.length := by
  apply Nat.lt_of_not_le
  intro hn; rw [List.drop_eq_nil_of_le hn] at h; cases h
 rw [List.drop_eq_getElem_cons hk] at h; injection h with h1 h2
 exact ⟨hk, fun d => by rw [zI, zH hk, h1]; rfl, h2⟩
theorem zl {α : Type} {xs : List α} {k : Nat} (h : xs.drop k = []) : xs.length <= k := List.drop_eq_nil_iff.1 h
theorem zd {n : Int} (h1 : -9223372036854775808 <= n) (h2 : n < 9223372036854775808) : w64 n = n := Go.IntWalk.i64_in n ⟨h1, by omega⟩
theorem zr7 {n : Int} (h1 : 0 <= n) (h2 : n < 4294967296) : IntKind.u32.wrap n = n := Go.IntWalk.u32_in n ⟨h1, by omega⟩
theorem zpt {n : Int} (h1 : 0 <= n) (h2 : n < 256) : IntKind.u8.wrap n = n := Go.IntWalk.u8_in n ⟨h1, by omega⟩
theorem z7 {α β : Type} (a : α) (f : α -> Option β) : (some a).bind f = f a := rfl
theorem zft {k : IntKind} {n m : Nat} (hn : n < 2 ^ k.bits) (hm : m < 2 ^ k.bits) : bXor k n m = ((n ^^^ m : Nat) : Int) := by
 unfold bXor; simp only [BitVec.ofInt_natCast, BitVec.toNat_xor, BitVec.toNat_ofNat, Nat.mod_eq_of_lt hn, Nat.mod_eq_of_lt hm]
theorem z08j {k : IntKind} {n m : Nat} (hn : n < 2 ^ k.bits) (hm : m < 2 ^ k.bits) : bAnd k n m = ((n &&& m : Nat) : Int) := by
 unfold bAnd; simp only [BitVec.ofInt_natCast, BitVec.toNat_and, BitVec.toNat_ofNat, Nat.mod_eq_of_lt hn, Nat.mod_eq_of_lt hm]
theorem z05z {k : IntKind} {n m : Nat} (hn : n < 2 ^ k.bits) (hm : m < 2 ^ k.bits) : bOr k n m = ((n ||| m : Nat) : Int) := by
 unfold bOr; simp only [BitVec.ofInt_natCast, BitVec.toNat_or, BitVec.toNat_ofNat, Nat.mod_eq_of_lt hn, Nat.mod_eq_of_lt hm]
def stepN (c : Nat) : Nat := if c % 2 = 1 then (c / 2) ^^^ 3988292384 else c / 2
def stepsN : Nat -> Nat -> Nat
 | 0, c => c
 | k + 1, c => stepsN k (stepN c)
def crcL : Str -> Nat -> Nat
 | [], c => c
 | b :: l, c => crcL l (stepsN 8 (c ^^^ b.toNat))
def crcT (s : Str) : Nat := crcL s 4294967295 ^^^ 4294967295
theorem zik {a b : Nat} (ha : a < 4294967296) (hb : b < 4294967296) : a ^^^ b < 4294967296 := Nat.xor_lt_two_pow (n := 32) ha hb
theorem zso {c : Nat} (h : c < 4294967296) : stepN c < 4294967296 := by
 unfold stepN; split
 · exact zik (by omega) (by omega)
 · omega
theorem zil : ∀ (k : Nat) {c : Nat}, c < 4294967296 -> stepsN k c < 4294967296
 | 0, c, h => h
 | k + 1, c, h => zil k (zso h)
theorem z060 (b : UInt8) : b.toNat < 256 := b.toNat_lt
theorem z061 : ∀ (s : Str) {c : Nat}, c < 4294967296 -> crcL s c < 4294967296
 | [], c, h => h
 | b :: l, c, h => z061 l (zil 8 (zik h (by have := z060 b; omega)))
theorem z062 (s : Str) : crcT s < 4294967296 := zik (z061 s (by omega)) (by omega)
theorem zvk {c : Nat} (h : c < 4294967296) : z8z c = some ((stepN c : Nat) : Int) := by
 unfold z8z ze0 stepN; have h1 : Int.tmod (c : Int) 2 = ((c % 2 : Nat) : Int) := by rw [Int.tmod_eq_emod_of_nonneg (by omega)]; rfl
 have h2 : Int.tdiv (c : Int) 2 = ((c / 2 : Nat) : Int) := by rw [Int.tdiv_eq_ediv_of_nonneg (by omega)]; rfl
 rw [h1, h2, zd (n := ((c / 2 : Nat) : Int)) (by omega) (by omega), show (3988292384 : Int) = ((3988292384 : Nat) : Int) from rfl, zft (k := .i64) (Nat.lt_trans (show c / 2 < 4294967296 by omega) (by decide)) (by decide)]; have h3 := zik (show c / 2 < 4294967296 by omega) (show 3988292384 < 4294967296 by omega); rw [zd (n := ((c / 2 ^^^ 3988292384 : Nat) : Int)) (by omega) (by omega)]; by_cases h4 : c % 2 = 1
 · rw [if_pos h4, zT (by omega)]; rfl
 · rw [if_neg h4, zF (by omega)]; rfl
theorem z016 {ih0 : Str × Int × Int -> Option Int} {s : Str} {i : Int} (hi : w64 (i + 1) = i + 1) : ∀ (k N c : Nat) (j : Int), j = 8 - k -> k <= 8 -> c < 4294967296 -> k < N -> ze (z57 ih0) N (s, c, i, j) = ih0 (s, ((stepsN k c : Nat) : Int), i + 1)
 | 0, N + 1, c, j, h1, _, h2, _ => by
   rw [z6]; unfold z57 za0; simp only [hi]; rw [zF (by omega)]; rfl
 | k + 1, N + 1, c, j, h1, h3, h2, h4 => by
   rw [z6]; unfold z57 za0; simp only; rw [zT (show j < 8 by omega), zC, zvk h2, z7, zd (n := j + 1) (by omega) (by omega)]; exact z016 hi k N _ _ (by omega) (by omega) (zso h2) (by omega)
 | _, 0, _, _, _, _, _, h => by omega
theorem z017 {s : Str} (hs : s.length < 4294967296) : ∀ (l : Str) (N M k c : Nat) (i : Int), s.drop k = l -> i = k -> c < 4294967296 -> 8 < M -> l.length < N -> ze (z58 M) N (s, c, i) = some (((crcL l c ^^^ 4294967295 : Nat)) : Int)
 | [], N + 1, M, k, c, i, h1, h2, h3, h4, _ => by
   rw [z6]; unfold z58 za1; have := zl h1; simp only; rw [zF (by omega), zD, show (4294967295 : Int) = ((4294967295 : Nat) : Int) from rfl, zft (k := .i64) (Nat.lt_trans h3 (by decide)) (by decide), zd]
   · rfl
   · omega
   · have := zik h3 (show 4294967295 < 4294967296 by omega); omega
 | b :: l, N + 1, M, k, c, i, h1, h2, h3, h4, h5 => by
   rw [z6]; unfold z58 za1; obtain ⟨g1, g2, g3⟩ := zh h1; have hb := z060 b; have hx := zik h3 (show b.toNat < 4294967296 by omega); subst h2; simp only [Int.toNat_natCast, g2]; rw [zT (show (k : Int) < s.length by omega), zT (show (0 : Int) <= k by omega)]; simp only [zC]; rw [zd (n := (b.toNat : Int)) (by omega) (by omega), zft (k := .i64) (Nat.lt_trans h3 (by decide)) (Nat.lt_trans (show b.toNat < 4294967296 by omega) (by decide)), zd (n := ((c ^^^ b.toNat : Nat) : Int)) (by omega) (by omega)]; rw [z016 (zd (by omega) (by omega)) 8 M _ 0 (by omega) (by omega) hx h4]; exact z017 hs l N M (k + 1) _ _ g3 (by omega) (zil 8 hx) h4 (by simp at h5; omega)
 | _, 0, _, _, _, _, _, _, _, _, h => by omega
theorem zyv {s : Str} (hs : s.length < 4294967296) : zgy s = some ((crcT s : Nat) : Int) := by
 refine zy (s.length + 9) fun N hN => ?_
 exact z017 hs s N N 0 4294967295 0 rfl rfl (by omega) (by omega) (by omega)
theorem and1 (c : Nat) : c &&& 1 = c % 2 := Nat.and_one_is_mod c
theorem z09n {ih0 : Str × Int × Int × Int -> Option Int} {s : Str} {i n : Int} (hi : w64 (i + 1) = i + 1) : ∀ (k N c : Nat) (j : Int), j = 8 - k -> k <= 8 -> c < 4294967296 -> k < N -> ze (z98 ih0) N (s, c, n, i, j) = ih0 (s, ((stepsN k c : Nat) : Int), n, i + 1)
 | 0, N + 1, c, j, h1, _, h2, _ => by
   rw [z6]; unfold z98 ze6; simp only [hi]; rw [zF (by omega)]; rfl
 | k + 1, N + 1, c, j, h1, h3, h2, h4 => by
   rw [z6]; unfold z98 ze6; simp only; have e1 : bAnd .u32 (c : Int) 1 = ((c % 2 : Nat) : Int) := by
    rw [show (1 : Int) = ((1 : Nat) : Int) from rfl, z08j (k := .u32) h2 (by decide), and1]
   have e2 : Int.fdiv (c : Int) (2 ^ (min 1 32)) = ((c / 2 : Nat) : Int) := by
    rw [show (2 : Int) ^ (min 1 32) = 2 from rfl, Int.fdiv_eq_ediv_of_nonneg _ (by omega)]; rfl
   have h6 := zik (show c / 2 < 4294967296 by omega) (show 3988292384 < 4294967296 by omega); rw [zT (show j < 8 by omega), zC, e1, e2, zr7 (by omega) (by omega), show (3988292384 : Int) = ((3988292384 : Nat) : Int) from rfl, zft (k := .u32) (show c / 2 < 4294967296 by omega) (by decide), zr7 (n := ((c / 2 ^^^ 3988292384 : Nat) : Int)) (by omega) (by omega), zd (n := j + 1) (by omega) (by omega)]; have h5 := z09n (ih0 := ih0) (s := s) (i := i) (n := n) hi k N (stepN c) (j + 1) (by omega) (by omega) (zso h2) (by omega); unfold stepN at h5; show _ = ih0 (s, ((stepsN k (stepN c) : Nat) : Int), n, i + 1); unfold stepN; by_cases h7 : c % 2 = 1
   · rw [if_pos h7] at h5 ⊢; rw [zF (by omega), Bool.not_false, zC]; exact h5
   · rw [if_neg h7] at h5 ⊢; rw [zT (by omega), Bool.not_true, zD]; exact h5
 | _, 0, _, _, _, _, _, h => by omega
theorem z08k {c : Nat} (h : c < 4294967296) : bNot .u32 (c : Int) = ((c ^^^ 4294967295 : Nat) : Int) := by
 have := zft (k := .u32) (n := 4294967295) (m := c) (by decide) h; rw [Nat.xor_comm] at this; exact this
theorem z09o {s : Str} (hs : s.length < 4294967296) : ∀ (l : Str) (N M k c : Nat) (i : Int), s.drop k = l -> i = k -> c < 4294967296 -> 8 < M -> l.length < N -> ze (z99 M) N (s, c, (s.length : Int), i) = some (((crcL l c ^^^ 4294967295 : Nat)) : Int)
 | [], N + 1, M, k, c, i, h1, h2, h3, h4, _ => by
   rw [z6]; unfold z99 ze7; have := zl h1; have h5 := zik h3 (show 4294967295 < 4294967296 by omega); simp only; rw [zF (by omega), zD, z08k h3, zr7 (by omega) (by omega), zd (by omega) (by omega)]; rfl
 | b :: l, N + 1, M, k, c, i, h1, h2, h3, h4, h5 => by
   rw [z6]; unfold z99 ze7; obtain ⟨g1, g2, g3⟩ := zh h1; have hb := z060 b; have hx := zik h3 (show b.toNat < 4294967296 by omega); subst h2; simp only [Int.toNat_natCast, g2]; rw [zT (show (k : Int) < s.length by omega), zT (show (0 : Int) <= k by omega)]; simp only [zC]; rw [zr7 (n := (b.toNat : Int)) (by omega) (by omega), zft (k := .u32) h3 (show b.toNat < 4294967296 by omega), zr7 (n := ((c ^^^ b.toNat : Nat) : Int)) (by omega) (by omega)]; rw [z09n (zd (by omega) (by omega)) 8 M _ 0 (by omega) (by omega) hx h4]; exact z09o hs l N M (k + 1) _ _ g3 (by omega) (zil 8 hx) h4 (by simp at h5; omega)
 | _, 0, _, _, _, _, _, _, _, _, h => by omega
theorem z063 {s : Str} (hs : s.length < 4294967296) : zo2 s = some ((crcT s : Nat) : Int) := by
 refine zy (s.length + 9) fun N hN => ?_
 exact z09o hs s N N 0 4294967295 0 rfl rfl (by omega) (by omega) (by omega)
end Clk
namespace Clk
open Go
theorem zvl (n : Nat) : IntKind.u8.wrap (n : Int) = ((n % 256 : Nat) : Int) := by rw [IntKind.wrap_u8]; omega
theorem zvm (n : Nat) : UInt8.ofNat (n % 256) = UInt8.ofNat n := by
 apply UInt8.toNat_inj.1
 simp
def bytes4 (n : Nat) : Str := [UInt8.ofNat (n % 256), UInt8.ofNat (n / 256 % 256), UInt8.ofNat (n / 65536 % 256), UInt8.ofNat (n / 16777216)]
theorem zfu (n m : Nat) : Int.tdiv (n : Int) (m : Int) = ((n / m : Nat) : Int) := by rw [Int.tdiv_eq_ediv_of_nonneg (by omega)]; rfl
theorem z9k (n m : Nat) : Int.tmod (n : Int) (m : Int) = ((n % m : Nat) : Int) := by rw [Int.tmod_eq_emod_of_nonneg (by omega)]; rfl
theorem zim (n m : Nat) : Int.fdiv (n : Int) (m : Int) = ((n / m : Nat) : Int) := by rw [Int.fdiv_eq_ediv_of_nonneg _ (by omega)]; rfl
theorem zsp {n : Nat} (h : n < 4294967296) : z6k n = some (bytes4 n) := by
 unfold z6k zbu; rw [zF (show ¬ (n : Int) < 0 by omega), zF (show ¬ 4294967295 < (n : Int) by omega)]; simp only [zD]; have e1 : Int.tmod (n : Int) 256 = ((n % 256 : Nat) : Int) := z9k n 256; have e2 : Int.tdiv (n : Int) 256 = ((n / 256 : Nat) : Int) := zfu n 256; have e3 : Int.tdiv (n : Int) 65536 = ((n / 65536 : Nat) : Int) := zfu n 65536; have e4 : Int.tdiv (n : Int) 16777216 = ((n / 16777216 : Nat) : Int) := zfu n 16777216; have e5 : Int.tmod ((n / 256 : Nat) : Int) 256 = ((n / 256 % 256 : Nat) : Int) := z9k (n / 256) 256; have e6 : Int.tmod ((n / 65536 : Nat) : Int) 256 = ((n / 65536 % 256 : Nat) : Int) := z9k (n / 65536) 256; rw [e1, e2, e3, e4, zd (n := ((n / 256 : Nat) : Int)) (by omega) (by omega), zd (n := ((n / 65536 : Nat) : Int)) (by omega) (by omega), zd (n := ((n / 16777216 : Nat) : Int)) (by omega) (by omega), e5, e6]; rw [zpt (n := ((n % 256 : Nat) : Int)) (by omega) (by omega), zpt (n := ((n / 256 % 256 : Nat) : Int)) (by omega) (by omega), zpt (n := ((n / 65536 % 256 : Nat) : Int)) (by omega) (by omega), zpt (n := ((n / 16777216 : Nat) : Int)) (by omega) (by omega)]; rfl
theorem zvn (M : Nat) (c : Int) : ze zg8 (M + 5) (c, 0, [0, 0, 0, 0]) = some (z0d [IntKind.u8.wrap (Int.fdiv c 1), IntKind.u8.wrap (Int.fdiv c 256), IntKind.u8.wrap (Int.fdiv c 65536), IntKind.u8.wrap (Int.fdiv c 16777216)]) := by kernel_rfl
theorem zyw {n : Nat} (h : n < 4294967296) : zh6 n = some (bytes4 n) := by
 refine zy 5 fun N hN => ?_
 obtain ⟨M, rfl⟩ : ∃ M, N = M + 5 := ⟨N - 5, by omega⟩; unfold zh5; rw [zr7 (n := (n : Int)) (by omega) (by omega), zd (n := (n : Int)) (by omega) (by omega), zT rfl, Bool.not_true, zD, zvn]; have e1 : Int.fdiv (n : Int) 1 = (n : Int) := by have := zim n 1; rw [Nat.div_one] at this; exact this
 have e2 : Int.fdiv (n : Int) 256 = ((n / 256 : Nat) : Int) := zim n 256; have e3 : Int.fdiv (n : Int) 65536 = ((n / 65536 : Nat) : Int) := zim n 65536; have e4 : Int.fdiv (n : Int) 16777216 = ((n / 16777216 : Nat) : Int) := zim n 16777216; rw [e1, e2, e3, e4, zvl, zvl, zvl, zvl]; simp only [z0d, List.map_cons, List.map_nil, Int.toNat_natCast, bytes4]; rw [zvm (n / 16777216)]
def putN : Nat -> Nat -> Str
 | 0, n => [UInt8.ofNat n]
 | f + 1, n => if 127 < n then UInt8.ofNat (128 + n % 128) :: putN f (n / 128) else [UInt8.ofNat n]
def putV (n : Int) : Str := if n < 0 \/ 1099511627776 < n then [] else putN 5 n.toNat
theorem z018 : ∀ (f n : Nat), (putN f n).length <= f + 1
 | 0, n => Nat.le_refl _
 | f + 1, n => by
   unfold putN; split
   · have := z018 f (n / 128); simp; omega
   · simp
theorem zfv (n : Int) : (putV n).length <= 6 := by
 unfold putV; split
 · simp
 · exact z018 5 _
theorem zyx : ∀ (f n : Nat), putN f n ≠ []
 | 0, n => by simp [putN]
 | f + 1, n => by unfold putN; split <;> simp
theorem zlf : ∀ (f N n : Nat) (s : Str), n < 128 ^ (f + 1) -> n < 4611686018427387904 -> s.length + f < 1099511627776 -> f < N -> ze z9z N (n, s) = some (s ++ putN f n)
 | f, 0, n, s, _, _, _, h => by omega
 | 0, N + 1, n, s, h1, h5, h2, _ => by
   rw [z6]; rw [zb4]; unfold z56; simp only [putN]; rw [zF (by omega), zD, zpt (n := (n : Int)) (by omega) (by omega), zT (by simp [z0d]; omega), zC]; rfl
 | f + 1, N + 1, n, s, h1, h5, h2, h3 => by
   rw [z6]; rw [zb4]; unfold z56; simp only [putN]; have e1 : Int.tmod (n : Int) 128 = ((n % 128 : Nat) : Int) := z9k n 128; have e2 : Int.tdiv (n : Int) 128 = ((n / 128 : Nat) : Int) := zfu n 128; by_cases h4 : 127 < n
   · rw [zT (show (127 : Int) < n by omega), zC, if_pos h4, e1, e2, zd (n := 128 + ((n % 128 : Nat) : Int)) (by omega) (by omega), zpt (n := 128 + ((n % 128 : Nat) : Int)) (by omega) (by omega), zT (by simp [z0d]; omega), zC, zd (n := ((n / 128 : Nat) : Int)) (by omega) (by omega)]; have e3 : z0d [128 + ((n % 128 : Nat) : Int)] = [UInt8.ofNat (128 + n % 128)] := by simp only [z0d, List.map_cons, List.map_nil]; congr 2
     rw [e3, zlf f N (n / 128) _ (by rw [Nat.pow_succ] at h1; omega) (by omega) (by simp; omega) (by omega)]; simp
   · rw [zF (show ¬ (127 : Int) < n by omega), zD, if_neg h4, zpt (n := (n : Int)) (by omega) (by omega), zT (by simp [z0d]; omega), zC]; rfl
theorem zo3 (n : Int) : zbt n = some (putV n) := by
 refine zy 6 fun N hN => ?_
 unfold zgx putV; by_cases h1 : n < 0
 · rw [zT h1, zC, if_pos (.inl h1)]
 · by_cases h2 : 1099511627776 < n
   · rw [zF h1, zD, zT h2, zC, if_pos (.inr h2)]
   · rw [zF h1, zD, zF h2, zD, if_neg (by omega)]; obtain ⟨k, rfl⟩ : ∃ k : Nat, n = k := ⟨n.toNat, by omega⟩; have := zlf 5 N k [] (by simp; omega) (by omega) (by simp) (by omega); simpa using this
theorem or128 {x : Nat} (h : x < 256) : x ||| 128 = 128 + x % 128 := by
 have : ∀ x : Fin 256, x.val ||| 128 = 128 + x.val % 128 := by decide +kernel
 exact this ⟨x, h⟩
theorem zh7 (a b : List Int) : z0d (a ++ b) = z0d a ++ z0d b := by simp [z0d]
theorem zo4 : ∀ (f N n : Nat) (s : List Int), n < 128 ^ (f + 1) -> n < 4611686018427387904 -> s.length + f < 1099511627776 -> f < N -> ze zc8 N (n, s) = some (z0d s ++ putN f n)
 | f, 0, n, s, _, _, _, h => by omega
 | 0, N + 1, n, s, h1, h5, h2, _ => by
   rw [z6]; rw [zd9]; unfold z73; simp only [putN]; rw [zF (by omega), zD, zpt (n := (n : Int)) (by omega) (by omega), zT (by simp; omega), zC, zT (by simp; omega), zC, zh7]; rfl
 | f + 1, N + 1, n, s, h1, h5, h2, h3 => by
   rw [z6]; rw [zd9]; unfold z73; simp only [putN]; have e2 : Int.fdiv (n : Int) (2 ^ (min 7 64)) = ((n / 128 : Nat) : Int) := zim n 128; by_cases h4 : 127 < n
   · have e4 : IntKind.u8.wrap (bOr .u8 (IntKind.u8.wrap (n : Int)) 128) = 128 + ((n % 128 : Nat) : Int) := by
      rw [zvl, show (128 : Int) = ((128 : Nat) : Int) from rfl, z05z (k := .u8) (show n % 256 < 256 by omega) (by decide), or128 (by omega), zpt (by omega) (by omega)]; omega
     rw [zT (show (128 : Int) <= n by omega), zC, if_pos h4, e4, e2, zT (by simp; omega), zC, zT (by simp; omega), zC]; have e3 : z0d [128 + ((n % 128 : Nat) : Int)] = [UInt8.ofNat (128 + n % 128)] := by simp only [z0d, List.map_cons, List.map_nil]; congr 2
     rw [zo4 f N (n / 128) _ (by rw [Nat.pow_succ] at h1; omega) (by omega) (by simp; omega) (by omega), zh7, e3]; simp
   · rw [zF (show ¬ (128 : Int) <= n by omega), zD, if_neg h4, zpt (n := (n : Int)) (by omega) (by omega), zT (by simp; omega), zC, zT (by simp; omega), zC, zh7]; rfl
theorem zr8 (n : Int) : zfs n = some (putV n) := by
 refine zy 6 fun N hN => ?_
 unfold zk3 putV; by_cases h1 : n < 0
 · rw [zT h1, zC, if_pos (.inl h1)]
 · by_cases h2 : 1099511627776 < n
   · rw [zF h1, zD, zT h2, zC, if_pos (.inr h2)]
   · rw [zF h1, zD, zF h2, zD, if_neg (by omega)]; obtain ⟨k, rfl⟩ : ∃ k : Nat, n = k := ⟨n.toNat, by omega⟩; have := zo4 5 N k [] (by simp; omega) (by omega) (by simp) (by omega); simpa [z0d] using this
def packL : List Int -> Str -> Str × Int
 | [], s => (s, 0)
 | n :: l, s => if putV n = [] then ([], 1) else packL l (s ++ putV n)
def packT (l : List Int) : Str × Int := packL l (putV l.length)
theorem zin {xs : List Int} (hs : xs.length < 4294967296) : ∀ (l : List Int) (N k : Nat) (i : Int) (s : Str), xs.drop k = l -> i = k -> s.length + 6 * l.length < 1099511627776 -> l.length < N -> ze z80 N (xs, s, i) = some (packL l s)
 | l, 0, _, _, _, _, _, _, h => by omega
 | [], N + 1, k, i, s, h1, h2, h3, _ => by
   have := zl h1; rw [z6]; rw [z8x]; unfold z3r; simp only [packL]; rw [zF (by omega)]; rfl
 | n :: l, N + 1, k, i, s, h1, h2, h3, h4 => by
   obtain ⟨g1, g2, g3⟩ := zh h1; subst h2; rw [z6]; rw [z8x]; unfold z3r; simp only [Int.toNat_natCast, g2, packL, zo3, z7]; have hp := zfv n; simp only [List.length_cons] at h3 h4; rw [zT (show (k : Int) < xs.length by omega), zT (show (0 : Int) <= k by omega)]; simp only [zC]; by_cases h5 : putV n = []
   · rw [zT h5, if_pos h5]; rfl
   · rw [zF h5, if_neg h5, zD, zT (by omega), zC]; exact zin hs l N (k + 1) _ _ g3 (by rw [zd (by omega) (by omega)]; omega) (by simp; omega) (by omega)
theorem zeb {l : List Int} (hs : l.length < 4294967296) : z5t l = some (packT l) := by
 refine zy (l.length + 1) fun N hN => ?_
 unfold zdy; rw [zo3, z7]; have := zfv l.length; exact zin hs l N 0 0 _ rfl rfl (by omega) (by omega)
theorem zlg {xs : List Int} (hs : xs.length < 4294967296) : ∀ (l : List Int) (N k : Nat) (i : Int) (s : Str), xs.drop k = l -> i = k -> s.length + 6 * l.length < 1099511627776 -> l.length < N -> ze zab N (s, xs, (xs.length : Int), i) = some (packL l s)
 | l, 0, _, _, _, _, _, _, h => by omega
 | [], N + 1, k, i, s, h1, h2, h3, _ => by
   have := zl h1; rw [z6]; rw [zbb]; unfold z5k; simp only [packL]; rw [zF (by omega)]; rfl
 | n :: l, N + 1, k, i, s, h1, h2, h3, h4 => by
   obtain ⟨g1, g2, g3⟩ := zh h1; subst h2; rw [z6]; rw [zbb]; unfold z5k; simp only [Int.toNat_natCast, g2, packL, zr8, z7]; have hp := zfv n; simp only [List.length_cons] at h3 h4; rw [zT (show (k : Int) < xs.length by omega), zT (show (0 : Int) <= k by omega)]; simp only [zC]; by_cases h5 : putV n = []
   · rw [zT h5, if_pos h5]; rfl
   · rw [zF h5, if_neg h5, zD, zT (by omega), zC]; exact zlg hs l N (k + 1) _ _ g3 (by rw [zd (by omega) (by omega)]; omega) (by simp; omega) (by omega)
theorem zh8 {l : List Int} (hs : l.length < 4294967296) : z87 l = some (packT l) := by
 refine zy (l.length + 1) fun N hN => ?_
 unfold zh4; rw [zr8, z7]; have := zfv l.length; exact zlg hs l N 0 0 _ rfl rfl (by omega) (by omega)
def takeN : Nat -> Bool -> Nat -> Nat -> Str -> Int × Str × Bool
 | 0, _, _, _, _ => (0, [], false)
 | _ + 1, _, _, _, [] => (0, [], false)
 | f + 1, first, n, u, c :: l => if c.toNat < 128 then (if 1099511627776 < n + c.toNat * u \/ (first = false /\ c.toNat = 0) then (0, [], false) else (((n + c.toNat * u : Nat) : Int), l, true)) else takeN f false (n + c.toNat % 128 * u) (u * 128) l
def z4i (s : Str) : Int × Str × Bool := takeN 6 true 0 1 s
theorem zio {s : Str} (hs : s.length < 4294967296) : ∀ (f N : Nat) (l : Str) (n u k : Nat) (i : Int), s.drop k = l -> i = k -> k + f = 6 -> n < u -> u = 128 ^ k -> f < N -> ze z82 N (s, n, u, i) = some (takeN f (k == 0) n u l)
 | f, 0, _, _, _, _, _, _, _, _, _, _, h => by omega
 | 0, N + 1, l, n, u, k, i, h1, h2, h3, h4, h5, h6 => by
   rw [z6]; rw [z3t]; unfold z1x; simp only [takeN]; rw [zF (show ¬ i < 6 by omega), zD]; cases decide (i < (s.length : Int)) <;> rfl
 | f + 1, N + 1, [], n, u, k, i, h1, h2, h3, h4, h5, h6 => by
   have := zl h1; rw [z6]; rw [z3t]; unfold z1x; simp only [takeN]; rw [zF (show ¬ i < (s.length : Int) by omega), zD]
 | f + 1, N + 1, c :: l, n, u, k, i, h1, h2, h3, h4, h5, h6 => by
   obtain ⟨g1, g2, g3⟩ := zh h1; subst h2; have hc := z060 c; have hu : u <= 34359738368 := by
    rw [h5]; exact Nat.le_trans (Nat.pow_le_pow_right (by omega) (show k <= 5 by omega)) (by decide)
   have hm : c.toNat * u <= 256 * 34359738368 := Nat.mul_le_mul (by omega) hu; have hm2 : c.toNat % 128 * u <= 127 * u := Nat.mul_le_mul (by omega) (Nat.le_refl _); rw [z6]; rw [z3t]; unfold z1x; have e1 : Int.tmod (c.toNat : Int) 128 = ((c.toNat % 128 : Nat) : Int) := z9k c.toNat 128; simp only [Int.toNat_natCast, g2, takeN]; rw [zd (n := (c.toNat : Int)) (by omega) (by omega), e1]; have e2 : ((c.toNat % 128 : Nat) : Int) * (u : Int) = ((c.toNat % 128 * u : Nat) : Int) := by push_cast; rfl
   rw [e2, zd (n := ((c.toNat % 128 * u : Nat) : Int)) (by omega) (by omega), zd (n := (n : Int) + ((c.toNat % 128 * u : Nat) : Int)) (by omega) (by omega), zd (n := (k : Int) + 1) (by omega) (by omega)]; rw [zT (show (k : Int) < s.length by omega), zT (show (k : Int) < 6 by omega), zT (show (0 : Int) <= k by omega)]; simp only [zC]; by_cases h7 : c.toNat < 128
   · have e3 : c.toNat % 128 = c.toNat := Nat.mod_eq_of_lt h7; rw [e3, zT (show (c.toNat : Int) < 128 by omega), zC, if_pos h7]; by_cases h8 : 1099511627776 < n + c.toNat * u
     · rw [zT (by omega), zC, if_pos (.inl h8)]
     · rw [zF (show ¬ 1099511627776 < (n : Int) + ((c.toNat * u : Nat) : Int) by omega), zD]; have e4 : Int.toNat ((k : Int) + 1) = k + 1 := by omega
       rw [zT (show (0 : Int) <= (k : Int) + 1 by omega), zT (show (k : Int) + 1 <= s.length by omega), e4, g3]; simp only [zC]; by_cases h9 : k = 0
       · subst h9; rw [zF (by omega), zD, if_neg (by simp; omega)]; push_cast; rfl
       · rw [zT (show (0 : Int) < k by omega), zC]; by_cases h10 : c.toNat = 0
         · rw [zT (show (c.toNat : Int) = 0 by omega), zC, if_pos (.inr ⟨by simpa using h9, h10⟩)]
         · rw [zF (show ¬ (c.toNat : Int) = 0 by omega), zD, if_neg (by rintro (h | ⟨_, h⟩); exact h8 h; exact h10 h)]; push_cast; rfl
   · rw [zF (show ¬ (c.toNat : Int) < 128 by omega), zD, if_neg h7]; have e5 : (u : Int) * 128 = ((u * 128 : Nat) : Int) := by push_cast; rfl
     have e6 : (n : Int) + ((c.toNat % 128 * u : Nat) : Int) = ((n + c.toNat % 128 * u : Nat) : Int) := by push_cast; rfl
     rw [e5, zd (n := ((u * 128 : Nat) : Int)) (by omega) (by omega), e6]; have := zio hs f N l (n + c.toNat % 128 * u) (u * 128) (k + 1) ((k : Int) + 1) g3 (by omega) (by omega) (by omega) (by rw [h5, Nat.pow_succ]) (by omega); rw [this]; rfl
theorem zlh {s : Str} (hs : s.length < 4294967296) : z90 s = some (z4i s) := by
 refine zy 7 fun N hN => ?_
 exact zio hs 6 N s 0 1 0 0 rfl rfl (by omega) (by omega) rfl (by omega)
theorem zo5 : ∀ (f : Nat) (b : Bool) (n u : Nat) (s : Str), (takeN f b n u s).2.1.length <= s.length /\ 0 <= (takeN f b n u s).1
 | 0, b, n, u, s => by simp [takeN]
 | f + 1, b, n, u, [] => by simp [takeN]
 | f + 1, b, n, u, c :: l => by
   unfold takeN; split
   · split
     · simp
     · simp; omega
   · have := zo5 f false (n + c.toNat % 128 * u) (u * 128) l; simp; omega
theorem zbc (s : Str) : (z4i s).2.1.length <= s.length := (zo5 6 true 0 1 s).1
theorem z019 (s : Str) : 0 <= (z4i s).1 := (zo5 6 true 0 1 s).2
def unpackL : Nat -> Str -> List Int -> List Int × Str × Int
 | 0, s, acc => (acc, s, 0)
 | k + 1, s, acc => if (z4i s).2.2 = false then ([], [], 20) else unpackL k (z4i s).2.1 (acc ++ [(z4i s).1])
def zf (s : Str) : List Int × Str × Int := if (z4i s).2.2 = false \/ ((z4i s).2.1.length : Int) < (z4i s).1 then ([], [], 20) else unpackL (z4i s).1.toNat (z4i s).2.1 []
theorem zec {n : Int} (hn : n < 4294967296) : ∀ (m N k : Nat) (i : Int) (s : Str) (acc : List Int), (k : Int) + m = n -> i = k -> s.length < 4294967296 -> acc.length = k -> m < N -> ze z4p N (n, s, i, acc) = some (unpackL m s acc)
 | m, 0, _, _, _, _, _, _, _, _, h => by omega
 | 0, N + 1, k, i, s, acc, h1, h2, h3, h4, h5 => by
   rw [z6]; rw [z6b]; unfold z2a; simp only [unpackL]; rw [zF (by omega)]; rfl
 | m + 1, N + 1, k, i, s, acc, h1, h2, h3, h4, h5 => by
   rw [z6]; rw [z6b]; unfold z2a; simp only [unpackL, zlh h3, z7]; rw [zT (show i < n by omega), zC]; have hl := zbc s; cases hb : (z4i s).2.2 with
   | false => rfl
   | true =>
     rw [if_neg (by simp), Bool.not_true, zD]; rw [zT (by simp; omega), zC, zT (by simp; omega), zC]; exact zec hn m N (k + 1) _ _ _ (by omega) (by rw [zd (by omega) (by omega)]; omega) (by omega) (by simp; omega) (by omega)
theorem zaf {s : Str} (hs : s.length < 4294967296) : z2v s = some (zf s) := by
 refine zy (s.length + 1) fun N hN => ?_
 unfold za2 zf; simp only [zlh hs, z7]; have hl := zbc s; have hn := z019 s; cases hb : (z4i s).2.2 with
 | false => rfl
 | true =>
   rw [Bool.not_true, zD]; by_cases h1 : ((z4i s).2.1.length : Int) < (z4i s).1
   · rw [zT h1, zC, if_pos (.inr h1)]
   · rw [zF h1, zD, if_neg (by simp; omega)]; exact zec (by omega) _ N 0 0 _ _ (by omega) rfl (by omega) rfl (by omega)
theorem ziq {a b : List Int} (hs : a.length < 4294967296) (hab : a.length = b.length) : ∀ (l m : List Int) (N k : Nat) (i : Int), a.drop k = l -> b.drop k = m -> i = k -> l.length < N -> ze z88 N (a, b, i) = some (decide (l = m))
 | l, m, 0, _, _, _, _, _, h => by omega
 | [], m, N + 1, k, i, h1, h2, h3, h4 => by
   have h5 := zl h1; have h6 : m = [] := by rw [<- h2]; exact List.drop_eq_nil_of_le (by omega)
   rw [z6]; rw [z9b]; unfold z3y; simp only; rw [zF (by omega), zD, h6]; rfl
 | x :: l, m, N + 1, k, i, h1, h2, h3, h4 => by
   obtain ⟨g1, g2, g3⟩ := zh h1; subst h3; cases m with
   | nil => have := zl h2; omega
   | cons y m =>
     obtain ⟨e1, e2, e3⟩ := zh h2; rw [z6]; rw [z9b]; unfold z3y; simp only [Int.toNat_natCast, g2, e2]; rw [zT (show (k : Int) < a.length by omega), zT (show (0 : Int) <= k by omega), zT (show (k : Int) < b.length by omega)]; simp only [zC]; by_cases hxy : x = y
     · rw [zT hxy, Bool.not_true, zD]; have := ziq hs hab l m N (k + 1) (w64 (k + 1)) g3 e3 (by rw [zd (by omega) (by omega)]; omega) (by simp at h4; omega); rw [this]; simp [hxy]
     · rw [zF hxy, Bool.not_false, zC]; simp [hxy]
theorem zli {a b : List Int} (hs : a.length < 4294967296) : z9d (a, b) = some (decide (a = b)) := by
 refine zy (a.length + 1) fun N hN => ?_
 show z9c N a b = _; unfold z9c; by_cases h : a.length = b.length
 · rw [zT (by omega), Bool.not_true, zD]; exact ziq hs h a b N 0 0 rfl rfl rfl (by omega)
 · rw [zF (by omega), Bool.not_false, zC, zF (fun e => h (by rw [e]))]
end Clk
namespace Clk
open Go
def inr (n : Int) : Bool := decide (0 <= n) && decide (n < 64)
def chkL : Option Int -> List Int -> Bool
 | _, [] => true
 | p, a :: l => inr a && (match p with | none => true | some q => decide (q < a)) && chkL (some a) l
def keysT (l : List Int) : Bool := chkL none l && decide (0 < l.length) && decide (l.length <= 8)
theorem zir {xs : List Int} (hs : xs.length < 4294967296) : ∀ (l : List Int) (N k : Nat) (i : Int) (p : Option Int), xs.drop k = l -> i = k -> (k = 0 -> p = none) -> (∀ j, k = j + 1 -> p = some (xs.getD j 0)) -> l.length < N -> ze z7y N (xs, i) = some (chkL p l && decide (0 < xs.length) && decide (xs.length <= 8))
 | l, 0, _, _, _, _, _, _, _, h => by omega
 | [], N + 1, k, i, p, h1, h2, _, _, _ => by
   have := zl h1; rw [z6, z8w]; unfold z3q; simp only [chkL, Bool.true_and]; rw [zF (by omega), zD]; by_cases h : 0 < xs.length
   · rw [zT (show (0 : Int) < (xs.length : Int) by omega), zC, zT h, Bool.true_and]; congr 1; rw [Bool.eq_iff_iff]; simp; omega
   · rw [zF (show ¬ (0 : Int) < (xs.length : Int) by omega), zD, zF h]; rfl
 | a :: l, N + 1, k, i, p, h1, h2, h3, h4, h5 => by
   obtain ⟨g1, g2, g3⟩ := zh h1; subst h2; have ih := zir hs l N (k + 1) (w64 (k + 1)) (some a) g3 (by rw [zd (by omega) (by omega)]; omega) (by omega) (fun j hj => by rw [show j = k by omega, g2]) (by simp at h5; omega); rw [z6, z8w]; unfold z3q; simp only [Int.toNat_natCast, g2, chkL, inr, ih]; rw [zT (show (k : Int) < xs.length by omega), zT (show (0 : Int) <= k by omega)]; simp only [zC]; by_cases c1 : a < 0
   · rw [zT c1, zF (show ¬ 0 <= a by omega)]; simp
   · rw [zF c1, zT (show 0 <= a by omega), zD]; by_cases c2 : 64 <= a
     · rw [zT c2, zF (show ¬ a < 64 by omega)]; simp
     · rw [zF c2, zT (show a < 64 by omega), zD]; cases k with
       | zero => rw [h3 rfl, zF (by omega), zD]; simp
       | succ j =>
         have e1 : w64 (((j + 1 : Nat) : Int) - 1) = (j : Int) := by rw [zd (by omega) (by omega)]; omega
         rw [h4 j rfl, zT (show (0 : Int) < ((j + 1 : Nat) : Int) by omega), e1, zT (show (0 : Int) <= j by omega), zT (show (j : Int) < xs.length by omega)]; simp only [zC, Int.toNat_natCast]; by_cases c3 : xs.getD j 0 < a
         · rw [zF (show ¬ a <= xs.getD j 0 by omega), zT c3, zD]; simp
         · rw [zT (show a <= xs.getD j 0 by omega), zF c3, zC]; simp
theorem zvo {l : List Int} (hs : l.length < 4294967296) : zdx l = some (keysT l) := by
 refine zy (l.length + 1) fun N hN => ?_
 exact zir hs l N 0 0 none rfl rfl (fun _ => rfl) (by omega) (by omega)
def nd : List Int -> Bool
 | a :: b :: l => decide (a <= b) && nd (b :: l)
 | _ => true
def noEq : List Int -> Bool
 | a :: b :: l => decide (a ≠ b) && noEq (b :: l)
 | _ => true
theorem z01a : ∀ (l : List Int) (q : Int), chkL (some q) l = (l.all inr && nd (q :: l) && noEq (q :: l))
 | [], q => rfl
 | a :: l, q => by
   simp only [chkL, z01a l a, List.all_cons, nd, noEq]; by_cases h1 : q < a
   · rw [zT h1, zT (show q <= a by omega), zT (show q ≠ a by omega)]; cases inr a <;> simp
   · by_cases h2 : q = a
     · subst h2; simp
     · rw [zF h1, zF (show ¬ q <= a by omega)]; simp
theorem z08l (l : List Int) : chkL none l = (l.all inr && nd l && noEq l) := by
 cases l with
 | nil => rfl
 | cons a l => simp only [chkL, z01a, List.all_cons]; cases inr a <;> simp
theorem z09p : ∀ (l : List Int), nd l = true ↔ ∀ j, j + 1 < l.length -> l.getD j 0 <= l.getD (j + 1) 0
 | [] => by simp [nd]
 | [a] => by simp [nd]
 | a :: b :: l => by
   simp only [nd, Bool.and_eq_true, decide_eq_true_eq, z09p (b :: l)]; constructor
   · rintro ⟨h1, h2⟩ j hj
     cases j with
     | zero => exact h1
     | succ j => exact h2 j (by simpa using hj)
   · intro h; exact ⟨h 0 (by simp), fun j hj => h (j + 1) (by simpa using hj)⟩
theorem z035 (a b : Int) : zk0 (a, b) = some (decide (a < b)) := by
 show zfr a b = _; unfold zfr zc0 zh1; simp
theorem zvp {xs : List Int} (hs : xs.length < 4294967296) : ∀ (k N : Nat) (i : Int), i = k -> (k = 0 \/ k < xs.length) -> k < N -> ∃ b : Bool, ze z2r N (xs, i) = some b /\ (b = true ↔ ∀ j, j < k -> xs.getD j 0 <= xs.getD (j + 1) 0)
 | k, 0, _, _, _, h => by omega
 | 0, N + 1, i, h1, _, _ => by
   rw [z6, z3x]; unfold z0z; simp only; rw [zF (by omega), zD]; exact ⟨true, rfl, by simp⟩
 | k + 1, N + 1, i, h1, h2, h3 => by
   subst h1; have e1 : w64 (((k + 1 : Nat) : Int) - 1) = (k : Int) := by rw [zd (by omega) (by omega)]; omega
   obtain ⟨b, g1, g2⟩ := zvp hs k N (k : Int) rfl (by omega) (by omega); rw [z6, z3x]; unfold z0z; simp only [e1, Int.toNat_natCast, z035, z7, g1]; rw [zT (show (0 : Int) < ((k + 1 : Nat) : Int) by omega), zT (show (0 : Int) <= ((k + 1 : Nat) : Int) by omega), zT (show ((k + 1 : Nat) : Int) < xs.length by omega), zT (show (0 : Int) <= k by omega), zT (show (k : Int) < xs.length by omega)]; simp only [zC]; by_cases hc : xs.getD (k + 1) 0 < xs.getD k 0
   · rw [zT hc, zC]; refine ⟨false, rfl, ?_⟩; simp only [Bool.false_eq_true, false_iff]; intro h; have := h k (by omega); omega
   · rw [zF hc, zD]; refine ⟨b, rfl, g2.trans ⟨fun h j hj => ?_, fun h j hj => h j (by omega)⟩⟩; by_cases hjk : j = k
     · subst hjk; omega
     · exact h j (by omega)
theorem z036 {l : List Int} (hs : l.length < 4294967296) : z4t l = some (nd l) := by
 refine zy (l.length + 1) fun N hN => ?_
 unfold z4s; by_cases h0 : l.length = 0
 · have : l = [] := List.eq_nil_of_length_eq_zero h0; subst this; obtain ⟨M, rfl⟩ : ∃ M, N = M + 1 := ⟨N - 1, by omega⟩; rfl
 · obtain ⟨b, g1, g2⟩ := zvp hs (l.length - 1) N (w64 ((l.length : Int) - 1)) (by rw [zd (by omega) (by omega)]; omega) (by omega) (by omega); rw [g1]; congr 1
   rw [Bool.eq_iff_iff, g2, z09p]; exact ⟨fun h j hj => h j (by omega), fun h j hj => h j (by omega)⟩
theorem z064 {a0 xs : List Int} (hs : xs.length < 4294967296) : ∀ (l : List Int) (N k : Nat) (i : Int) (ys : List Int), xs.drop k = l -> i = k -> l.length < N -> ze (zc1 a0) N (xs, (xs.length : Int), i, ys) = some (l.all inr)
 | l, 0, _, _, _, _, _, h => by omega
 | [], N + 1, k, i, ys, h1, h2, _ => by
   have := zl h1; rw [z6, zd3]; unfold z6w; simp only [List.all_nil]; rw [zF (by omega), zD]; rfl
 | a :: l, N + 1, k, i, ys, h1, h2, h3 => by
   obtain ⟨g1, g2, g3⟩ := zh h1; subst h2; have ih := z064 (a0 := a0) hs l N (k + 1) (w64 (k + 1)) ys g3 (by rw [zd (by omega) (by omega)]; omega) (by simp at h3; omega); rw [z6, zd3]; unfold z6w; simp only [Int.toNat_natCast, g2, ih, List.all_cons, inr]; rw [zT (show (k : Int) < xs.length by omega), zT (show (0 : Int) <= k by omega)]; simp only [zC, Bool.not_true, zD]; by_cases c1 : a < 0
   · rw [zT c1, zF (show ¬ 0 <= a by omega)]; simp
   · rw [zF c1, zT (show 0 <= a by omega), zD]; by_cases c2 : 64 <= a
     · rw [zT c2, zF (show ¬ a < 64 by omega)]; simp
     · rw [zF c2, zT (show a < 64 by omega), zD]; simp
theorem z065 {a0 v0 xs : List Int} (hv : v0.length = a0.length) (hs : xs.length < 4294967296) : ∀ (l : List Int) (N k : Nat) (i : Int) (ys : List Int), xs.drop k = l -> i = k -> l.length < N -> ze (zc4 a0 v0) N (xs, (xs.length : Int), i, ys) = some (l.all inr)
 | l, 0, _, _, _, _, _, h => by omega
 | [], N + 1, k, i, ys, h1, h2, _ => by
   have := zl h1; rw [z6, zd6]; unfold z6z; simp only [List.all_nil]; rw [zF (by omega), zD, zT (by omega)]
 | a :: l, N + 1, k, i, ys, h1, h2, h3 => by
   obtain ⟨g1, g2, g3⟩ := zh h1; subst h2; have ih := z065 hv hs l N (k + 1) (w64 (k + 1)) ys g3 (by rw [zd (by omega) (by omega)]; omega) (by simp at h3; omega); rw [z6, zd6]; unfold z6z; simp only [Int.toNat_natCast, g2, ih, List.all_cons, inr]; rw [zT (show (k : Int) < xs.length by omega), zT (show (0 : Int) <= k by omega)]; simp only [zC, Bool.not_true, zD]; by_cases c1 : a < 0
   · rw [zT c1, zF (show ¬ 0 <= a by omega)]; simp
   · rw [zF c1, zT (show 0 <= a by omega), zD]; by_cases c2 : 64 <= a
     · rw [zT c2, zF (show ¬ a < 64 by omega)]; simp
     · rw [zF c2, zT (show a < 64 by omega), zD]; simp
theorem z066 {a0 xs : List Int} {v0 : Int} (hv : ((v0.toNat : Nat) : Int) ≠ a0.length) (hs : xs.length < 4294967296) : ∀ (l : List Int) (N k : Nat) (i : Int) (ys : List Int), xs.drop k = l -> i = k -> l.length < N -> ze (zc2 a0 v0) N (xs, (xs.length : Int), i, ys) = some false
 | l, 0, _, _, _, _, _, h => by omega
 | [], N + 1, k, i, ys, h1, h2, _ => by
   have := zl h1; rw [z6, zd4]; unfold z6x; simp only; rw [zF (by omega), zD, zF hv]
 | a :: l, N + 1, k, i, ys, h1, h2, h3 => by
   obtain ⟨g1, g2, g3⟩ := zh h1; subst h2; have ih := z066 hv hs l N (k + 1) (w64 (k + 1)) ys g3 (by rw [zd (by omega) (by omega)]; omega) (by simp at h3; omega); rw [z6, zd4]; unfold z6x; simp only [Int.toNat_natCast, g2, ih]; rw [zT (show (k : Int) < xs.length by omega), zT (show (0 : Int) <= k by omega)]; simp only [zC, Bool.not_true, zD]; cases decide (a < 0) <;> cases decide (64 <= a) <;> rfl
theorem z067 {xs : List Int} (hs : xs.length < 4294967296) : ∀ (l : List Int) (N k : Nat) (i : Int), xs.drop k = l -> i = k -> l.length < N -> ze zc6 N (xs, (xs.length : Int), i) = some false
 | l, 0, _, _, _, _, h => by omega
 | [], N + 1, k, i, h1, h2, _ => by
   have := zl h1; rw [z6, zd8]; unfold z72; simp only; rw [zF (by omega), zD]
 | a :: l, N + 1, k, i, h1, h2, h3 => by
   obtain ⟨g1, g2, g3⟩ := zh h1; subst h2; have ih := z067 hs l N (k + 1) (w64 (k + 1)) g3 (by rw [zd (by omega) (by omega)]; omega) (by simp at h3; omega); rw [z6, zd8]; unfold z72; simp only [Int.toNat_natCast, g2, ih]; rw [zT (show (k : Int) < xs.length by omega), zT (show (0 : Int) <= k by omega)]; simp only [zC, Bool.not_true, zD]; cases decide (a < 0) <;> cases decide (64 <= a) <;> rfl
theorem zyy {a0 : List Int} (hs : a0.length < 4294967296) {M : Nat} (hM : a0.length < M) {b : Nat} (hb : b < a0.length) : ∀ (m N i k : Nat) (ys : List Int), k + m = a0.length - b -> 1 <= k -> i + 1 <= b + k -> ys.length = a0.length -> m < N -> ze (zc3 M a0) N ((i : Int), (b : Int), ((a0.length - b : Nat) : Int), (k : Int), ys) = some false
 | m, 0, _, _, _, _, _, _, _, h => by omega
 | 0, N + 1, i, k, ys, h1, h2, h3, h4, _ => by
   rw [z6, zd5]; unfold z6y; simp only [Int.toNat_natCast]; rw [zF (show ¬ (k : Int) < ((a0.length - b : Nat) : Int) by omega), zD]; rw [zT (show (0 : Int) <= i by omega), zT (show (i : Int) <= ys.length by omega), zT (show 0 < ys.length by omega)]; simp only [zC]; rw [zT (by simp; omega), zC]; by_cases c1 : 0 < a0.length
   · rw [zT (show (0 : Int) < (a0.length : Int) by omega), zC]; cases decide ((a0.length : Int) <= 8) with
     | false => rfl
     | true => rw [zC]; exact z066 (by simp; omega) hs a0 M 0 0 _ rfl rfl hM
   · omega
 | m + 1, N + 1, i, k, ys, h1, h2, h3, h4, h5 => by
   have e1 : w64 ((k : Int) - 1) = ((k - 1 : Nat) : Int) := by rw [zd (by omega) (by omega)]; omega
   have e2 : w64 ((k : Int) + 1) = ((k + 1 : Nat) : Int) := by rw [zd (by omega) (by omega)]; rfl
   have e3 : w64 ((i : Int) + 1) = ((i + 1 : Nat) : Int) := by rw [zd (by omega) (by omega)]; rfl
   rw [z6, zd5]; unfold z6y; simp only [Int.toNat_natCast, e1, e2, e3]; rw [zT (show (k : Int) < ((a0.length - b : Nat) : Int) by omega), zT (show (0 : Int) <= k by omega), zT (show b + k < ys.length by omega), zT (show (0 : Int) <= ((k - 1 : Nat) : Int) by omega), zT (show ((k - 1 : Nat) : Int) < ((a0.length - b : Nat) : Int) by omega), zT (show b + (k - 1) < ys.length by omega), zT (show (0 : Int) <= i by omega), zT (show (i : Int) < ys.length by omega), zT (show i < ys.length by omega)]; simp only [zC]; rw [zyy hs hM hb m N (i + 1) (k + 1) _ (by omega) (by omega) (by omega) (by simpa using h4) (by omega), zyy hs hM hb m N i (k + 1) _ (by omega) (by omega) (by omega) h4 (by omega)]; cases (!decide (ys.getD (b + k) 0 = ys.getD (b + (k - 1)) 0)) <;> rfl
theorem z068 {a0 : List Int} (hs : a0.length < 4294967296) {M : Nat} (hM : a0.length < M) : ∀ (l : List Int) (N k : Nat) (i : Int), a0.drop k = l -> i = ((k + 1 : Nat) : Int) -> k < a0.length -> l.length < N -> ze (zc5 M a0) N (i, a0) = some (noEq l && decide (0 < a0.length) && decide (a0.length <= 8) && a0.all inr)
 | l, 0, _, _, _, _, _, h => by omega
 | [], N + 1, k, i, h1, h2, h3, _ => by have := zl h1; omega
 | [a], N + 1, k, i, h1, h2, h3, _ => by
   obtain ⟨g1, g2, g3⟩ := zh h1; have := zl g3; rw [z6, zd7]; unfold z71; simp only [noEq, Bool.true_and]; rw [zF (show ¬ i < (a0.length : Int) by omega), zD]; rw [zT (show (0 : Int) < (a0.length : Int) by omega), zC, zT (show 0 < a0.length by omega), Bool.true_and]; by_cases c : a0.length <= 8
   · rw [zT (show (a0.length : Int) <= 8 by omega), zC, zT c, Bool.true_and]; exact z065 rfl hs a0 M 0 0 _ rfl rfl hM
   · rw [zF (show ¬ (a0.length : Int) <= 8 by omega), zD, zF c]; rfl
 | a :: b :: l, N + 1, k, i, h1, h2, h3, h4 => by
   obtain ⟨g1, g2, g3⟩ := zh h1; obtain ⟨g4, g5, g6⟩ := zh g3; subst h2; have e1 : w64 (((k + 1 : Nat) : Int) - 1) = (k : Int) := by rw [zd (by omega) (by omega)]; omega
   have ih := z068 hs hM (b :: l) N (k + 1) (w64 (((k + 1 : Nat) : Int) + 1)) g3 (by rw [zd (by omega) (by omega)]; omega) g4 (by simp at h4 ⊢; omega); rw [z6, zd7]; unfold z71; simp only [Int.toNat_natCast, e1, g2, g5, ih]; rw [zT (show ((k + 1 : Nat) : Int) < a0.length by omega), zT (show (0 : Int) <= ((k + 1 : Nat) : Int) by omega), zT (show k + 1 < a0.length by omega), zT (show (0 : Int) <= (k : Int) by omega), zT (show (k : Int) < a0.length by omega), zT (show k < a0.length by omega), zT (show ((k + 1 : Nat) : Int) <= a0.length by omega)]; simp only [zC, noEq]; by_cases c : a = b
   · subst c; rw [zT rfl, zC]; rw [show (1 : Int) = ((1 : Nat) : Int) from rfl, zyy hs hM g4 (a0.length - (k + 1) - 1) M (k + 1) 1 _ (by omega) (by omega) (by omega) rfl (by omega)]; simp
   · rw [zF (fun e => c e.symm), zD, zT c]; simp
theorem z037 {l : List Int} (hs : l.length < 4294967296) : zk2 l = some (keysT l) := by
 refine zy (l.length + 1) fun N hN => ?_
 unfold zk1 keysT; rw [z036 hs, z7, z08l]; cases hnd : nd l with
 | false =>
   rw [zD]; have : (l.all inr && false && noEq l && decide (0 < l.length) && decide (l.length <= 8)) = false := by simp
   rw [this, z067 hs l N 0 0 rfl rfl (by omega)]; cases decide (0 < (l.length : Int)) <;> cases decide ((l.length : Int) <= 8) <;> rfl
 | true =>
   rw [zC, zT (show l.length * 8 <= 70368744177664 by omega), zC, zT (show l.length <= 70368744177664 by omega), zC]; by_cases h2 : l.length < 2
   · rw [zT (show (l.length : Int) < 2 by omega), zC, z064 hs l N 0 0 l rfl rfl (by omega)]; have hq : noEq l = true := by
      cases l with
      | nil => rfl
      | cons a l => cases l with
        | nil => rfl
        | cons => simp only [List.length_cons] at h2; omega
     rw [hq, Bool.and_true, Bool.and_true]; by_cases c1 : 0 < l.length
     · rw [zT (show (0 : Int) < (l.length : Int) by omega), zC, zT c1, zT (show (l.length : Int) <= 8 by omega), zC, zT (show l.length <= 8 by omega)]; simp
     · rw [zF (show ¬ (0 : Int) < (l.length : Int) by omega), zD, zF c1]; simp
   · rw [zF (show ¬ (l.length : Int) < 2 by omega), zD]; have hl0 : 0 < l.length := by omega
     rw [z068 hs (M := N) (by omega) l N 0 1 rfl rfl hl0 (by omega)]; congr 1
     cases l.all inr <;> cases noEq l <;> cases decide (0 < l.length) <;> cases decide (l.length <= 8) <;> rfl
end Clk
namespace Clk
open Go
def vr (n : Int) : Bool := decide (-1 <= n) && decide (n < 512)
def z2w (r : Record) : Bool :=
 decide (0 <= r.seq) && decide (r.seq <= 1099511627776) && keysT r.keys && (if r.kind = 1 then decide (r.values = []) else r.values.all vr && decide (r.kind = 2) && decide (r.values.length = r.keys.length))
def RecOk (r : Record) : Prop := r.keys.length < 4294967296 /\ r.values.length < 4294967296
theorem zga {r : Record} (hr : RecOk r) : ∀ (l : List Int) (N k : Nat) (i : Int), r.values.drop k = l -> i = k -> l.length < N -> ze z67 N (i, r) = some (l.all vr && decide (r.kind = 2) && decide (r.values.length = r.keys.length))
 | l, 0, _, _, _, _, h => by omega
 | [], N + 1, k, i, h1, h2, _ => by
   have := zl h1; rw [z6, z7z]; unfold z31; simp only [List.all_nil, Bool.true_and]; rw [zF (by omega), zD]; by_cases c : r.kind = 2
   · rw [zT c, zC, Bool.true_and]; congr 1; rw [Bool.eq_iff_iff]; simp only [decide_eq_true_eq]; omega
   · rw [zF c, zD]; rfl
 | a :: l, N + 1, k, i, h1, h2, h3 => by
   obtain ⟨g1, g2, g3⟩ := zh h1; have hv := hr.2; subst h2; have ih := zga hr l N (k + 1) (w64 (k + 1)) g3 (by rw [zd (by omega) (by omega)]; omega) (by simp at h3; omega); rw [z6, z7z]; unfold z31; simp only [Int.toNat_natCast, g2, ih, List.all_cons, vr]; rw [zT (show (k : Int) < r.values.length by omega), zT (show (0 : Int) <= k by omega)]; simp only [zC]; by_cases c1 : a < -1
   · rw [zT c1, zF (show ¬ -1 <= a by omega)]; simp
   · rw [zF c1, zT (show -1 <= a by omega), zD]; by_cases c2 : 512 <= a
     · rw [zT c2, zF (show ¬ a < 512 by omega)]; simp
     · rw [zF c2, zT (show a < 512 by omega), zD]; simp
theorem zsq {r : Record} (hr : RecOk r) : zbs r = some (z2w r) := by
 refine zy (r.values.length + 1) fun N hN => ?_
 unfold zbr z2w; by_cases h1 : r.seq < 0
 · rw [zT h1, zC, zF (show ¬ 0 <= r.seq by omega)]; rfl
 · by_cases h2 : 1099511627776 < r.seq
   · rw [zF h1, zD, zT h2, zC, zF (show ¬ r.seq <= 1099511627776 by omega)]; simp
   · rw [zF h1, zD, zF h2, zD, zT (show 0 <= r.seq by omega), zT (show r.seq <= 1099511627776 by omega), zvo hr.1, z7]; cases keysT r.keys with
     | false => rfl
     | true =>
       simp only [Bool.not_true, zD, Bool.true_and]; by_cases h3 : r.kind = 1
       · rw [zT h3, zC, if_pos h3]; congr 1; rw [Bool.eq_iff_iff]; simp
       · rw [zF h3, zD, if_neg h3]; exact zga hr r.values N 0 0 rfl rfl (by omega)
theorem zlj {r : Record} (hr : RecOk r) : ∀ (l : List Int) (N k : Nat) (i : Int), r.values.drop k = l -> i = k -> l.length < N -> ze za9 N (r.values, (r.values.length : Int), i, r) = some (l.all vr && (if r.kind = 1 then decide (r.values = []) else decide (r.kind = 2) && decide (r.values.length = r.keys.length)))
 | l, 0, _, _, _, _, h => by omega
 | [], N + 1, k, i, h1, h2, _ => by
   have := zl h1; rw [z6, zb9]; unfold z5i; simp only [List.all_nil, Bool.true_and]; rw [zF (by omega), zD]; by_cases c1 : r.kind = 1
   · rw [zT c1, zC, if_pos c1]; congr 1; rw [Bool.eq_iff_iff]; simp
   · rw [zF c1, zD, if_neg c1]; by_cases c : r.kind = 2
     · rw [zT c, zC, Bool.true_and]; congr 1; rw [Bool.eq_iff_iff]; simp only [decide_eq_true_eq]; omega
     · rw [zF c, zD]; rfl
 | a :: l, N + 1, k, i, h1, h2, h3 => by
   obtain ⟨g1, g2, g3⟩ := zh h1; have hv := hr.2; subst h2; have ih := zlj hr l N (k + 1) (w64 (k + 1)) g3 (by rw [zd (by omega) (by omega)]; omega) (by simp at h3; omega); rw [z6, zb9]; unfold z5i; simp only [Int.toNat_natCast, g2, ih, List.all_cons, vr]; rw [zT (show (k : Int) < r.values.length by omega), zT (show (0 : Int) <= k by omega)]; simp only [zC]; by_cases c1 : a < -1
   · rw [zT c1, zF (show ¬ -1 <= a by omega)]; simp
   · rw [zF c1, zT (show -1 <= a by omega), zD]; by_cases c2 : 512 <= a
     · rw [zT c2, zF (show ¬ a < 512 by omega)]; simp
     · rw [zF c2, zT (show a < 512 by omega), zD]; simp
theorem zyz {r : Record} (hr : RecOk r) : zh3 r = some (z2w r) := by
 refine zy (r.values.length + 1) fun N hN => ?_
 unfold zh2 z2w; by_cases h1 : r.seq < 0
 · rw [zT h1, zC, zF (show ¬ 0 <= r.seq by omega)]; rfl
 · by_cases h2 : 1099511627776 < r.seq
   · rw [zF h1, zD, zT h2, zC, zF (show ¬ r.seq <= 1099511627776 by omega)]; simp
   · rw [zF h1, zD, zF h2, zD, zT (show 0 <= r.seq by omega), zT (show r.seq <= 1099511627776 by omega), z037 hr.1, z7]; cases keysT r.keys with
     | false => rfl
     | true =>
       simp only [Bool.not_true, zD, Bool.true_and]; rw [zlj hr r.values N 0 0 rfl rfl (by omega)]; by_cases h3 : r.kind = 1
       · rw [if_pos h3, if_pos h3]; congr 1
         cases hv : r.values with
         | nil => rfl
         | cons a l => simp
       · rw [if_neg h3, if_neg h3, Bool.and_assoc]
def zh9 (d : Int) (l : List Int) : List Int := l.map fun n => w64 (n + d)
def bodyT (r : Record) : Str := (packT [r.kind, r.seq]).1 ++ (packT r.keys).1 ++ (packT (zh9 1 r.values)).1
def encT (r : Record) (data : Str) : Str × Int := if z2w r = false \/ 16 < data.length then ([], 1) else (bodyT r ++ bytes4 (crcT (bodyT r ++ data)), 0)
theorem zvq : ∀ (l : List Int) (s : Str), (packL l s).1.length <= s.length + 6 * l.length
 | [], s => by simp [packL]
 | n :: l, s => by
   unfold packL; split
   · simp
   · have h1 := zvq l (s ++ putV n); have h2 := zfv n; simp at h1 ⊢; omega
theorem z42 (l : List Int) : (packT l).1.length <= 6 * l.length + 6 := by
 have h1 := zvq l (putV l.length); have h2 := zfv l.length; unfold packT; omega
theorem z069 {l : List Int} (h : keysT l = true) : 0 < l.length /\ l.length <= 8 := by
 unfold keysT at h; simp only [Bool.and_eq_true, decide_eq_true_eq] at h; exact ⟨h.1.2, h.2⟩
theorem zfw {r : Record} (h : z2w r = true) : 0 < r.keys.length /\ r.keys.length <= 8 /\ r.values.length <= 8 /\ 0 <= r.seq /\ r.seq <= 1099511627776 /\ (r.kind = 1 \/ r.kind = 2) /\ (r.values.all vr = true) /\ keysT r.keys = true := by
 unfold z2w at h; simp only [Bool.and_eq_true, decide_eq_true_eq] at h; obtain ⟨⟨⟨h1, h2⟩, h3⟩, h4⟩ := h; obtain ⟨k1, k2⟩ := z069 h3; split at h4
 · rename_i hk; have : r.values = [] := by simpa using h4
   rw [this]; exact ⟨k1, k2, by simp, h1, h2, .inl hk, rfl, h3⟩
 · simp only [Bool.and_eq_true, decide_eq_true_eq] at h4; exact ⟨k1, k2, by omega, h1, h2, .inr h4.1.2, h4.1.1, h3⟩
theorem zis {r : Record} (h8 : r.values.length <= 8) (hk : r.keys.length <= 8) : ∀ (l : List Int) (N k : Nat) (i : Int) (acc : List Int), r.values.drop k = l -> i = k -> acc.length = k -> k <= 8 -> l.length < N -> ze z81 N (i, r, [r.kind, r.seq], acc) = some ((packT [r.kind, r.seq]).1 ++ (packT r.keys).1 ++ (packT (acc ++ zh9 1 l)).1)
 | l, 0, _, _, _, _, _, _, _, h => by omega
 | [], N + 1, k, i, acc, h1, h2, h3, h6, _ => by
   have := zl h1; rw [z6, z8y]; unfold z3s; simp only [zh9, List.map_nil, List.append_nil]; rw [zF (by omega), zD, zeb (by simp), z7, zeb (by omega), z7, zeb (by omega), z7]; have q1 := z42 [r.kind, r.seq]; have q2 := z42 r.keys; have q3 := z42 acc; simp only [List.length_cons, List.length_nil] at q1; rw [zT (by omega), zC, zT (by rw [List.length_append]; omega), zC]
 | a :: l, N + 1, k, i, acc, h1, h2, h3, h6, h5 => by
   obtain ⟨g1, g2, g3⟩ := zh h1; subst h2; have ih := zis h8 hk l N (k + 1) (w64 (k + 1)) (acc ++ [w64 (a + 1)]) g3 (by rw [zd (by omega) (by omega)]; omega) (by simp; omega) (by omega) (by simp at h5; omega); rw [z6, z8y]; unfold z3s; simp only [Int.toNat_natCast, g2, ih]; rw [zT (show (k : Int) < r.values.length by omega), zT (show (0 : Int) <= k by omega)]; simp only [zC]; rw [zT (by simp; omega), zC, zT (by simp; omega), zC]; simp [zh9]
theorem zvr {r : Record} (h : z2w r = true) : zdz r = some (bodyT r) := by
 obtain ⟨_, h1, h2, _⟩ := zfw h; refine zy 9 fun N hN => ?_
 have := zis h2 h1 r.values N 0 0 [] rfl rfl rfl (by omega) (by omega); rw [List.nil_append] at this; exact this
theorem zo6 {r : Record} (h : z2w r = true) : (bodyT r).length <= 200 := by
 obtain ⟨_, h1, h2, _⟩ := zfw h; have q1 := z42 [r.kind, r.seq]; have q2 := z42 r.keys; have q3 := z42 (zh9 1 r.values); have q4 : (zh9 1 r.values).length = r.values.length := by simp [zh9]
 simp only [List.length_cons, List.length_nil] at q1; unfold bodyT; simp only [List.length_append]; omega
theorem zgb {r : Record} {data : Str} (hr : RecOk r) (hd : data.length < 4294967296) : z5a (r, data) = some (encT r data) := by
 show z59 r data = _; unfold z59 encT; rw [zsq hr, z7]; cases h : z2w r with
 | false => rfl
 | true =>
   rw [Bool.not_true, zD]; by_cases h2 : 16 < data.length
   · rw [zT (show (16 : Int) < data.length by omega), zC, if_pos (.inr h2)]
   · have hb := zo6 h; rw [zF (show ¬ (16 : Int) < data.length by omega), zD, if_neg (by simp; omega), zvr h, z7, zT (by omega), zC, zyv (by simp; omega), z7, zsp (z062 _), z7, zT (by simp [bytes4]; omega), zC]
theorem zmi : ∀ (l : List Int) (s : Str), (∀ n ∈ l, 0 <= n /\ n <= 1099511627776) -> (packL l s).2 = 0
 | [], s, _ => rfl
 | n :: l, s, h => by
   have h1 := h n List.mem_cons_self; unfold packL; have : putV n ≠ [] := by
    unfold putV; rw [if_neg (by omega)]; exact zyx 5 _
   rw [if_neg this]; exact zmi l _ fun m hm => h m (List.mem_cons_of_mem _ hm)
theorem zsr {l : List Int} (h : l.all vr = true) : ∀ n ∈ l, -1 <= n /\ n < 512 := by
 intro n hn; have := List.all_eq_true.1 h n hn; unfold vr at this; simpa using this
theorem zr9 : ∀ {l : List Int} {p : Option Int}, chkL p l = true -> ∀ n ∈ l, 0 <= n /\ n < 64
 | [], _, _, n, hn => by cases hn
 | a :: l, p, h, n, hn => by
   simp only [chkL, Bool.and_eq_true] at h; rcases List.mem_cons.1 hn with rfl | hn
   · have := h.1.1; unfold inr at this; simpa using this
   · exact zr9 h.2 n hn
theorem zo7 {l : List Int} (h : keysT l = true) : ∀ n ∈ l, 0 <= n /\ n < 64 := by
 unfold keysT at h; simp only [Bool.and_eq_true] at h; exact zr9 h.1.1
theorem zlk {d : Int} {n : Nat} (hs : n < 4294967296) : ∀ (l : List Int) (N k : Nat) (i : Int) (pre : List Int), pre.length = k -> k + l.length = n -> i = k -> l.length < N -> ze zaa N (d, (n : Int), i, pre ++ l) = some (pre ++ zh9 d l)
 | l, 0, _, _, _, _, _, _, h => by omega
 | [], N + 1, k, i, pre, h1, h2, h3, _ => by
   rw [z6, zba]; unfold z5j; simp only [List.length_nil] at h2; simp only [zh9, List.map_nil]; rw [zF (by omega), zD]
 | a :: l, N + 1, k, i, pre, h1, h2, h3, h4 => by
   subst h3; simp only [List.length_cons] at h2 h4; have g2 : ∀ d, (pre ++ a :: l).getD k d = a := fun d => by subst h1; simp [zI]
   have g3 : ∀ x, (pre ++ a :: l).set k x = (pre ++ [x]) ++ l := fun x => by subst h1; simp
   have ih := zlk (d := d) hs l N (k + 1) (w64 (k + 1)) (pre ++ [w64 (a + d)]) (by simp; omega) (by omega) (by rw [zd (by omega) (by omega)]; omega) (by omega); rw [z6, zba]; unfold z5j; simp only [Int.toNat_natCast, g2, g3, ih]; have hl : (pre ++ a :: l).length = n := by simp; omega
   rw [hl, zT (show (k : Int) < n by omega), zT (show (0 : Int) <= k by omega), zT (show k < n by omega)]; simp [zh9]
theorem zo8 {l : List Int} {d : Int} (hs : l.length < 4294967296) : z3c (l, d) = some (zh9 d l) := by
 refine zy (l.length + 1) fun N hN => ?_
 show zc7 N l d = _; unfold zc7; rw [zT (by omega), zC, zT (by omega), zC]; exact zlk hs l N 0 0 [] rfl (by simp) rfl (by omega)
theorem zvs {r : Record} {data : Str} (hr : RecOk r) (hd : data.length < 4294967296) : ze8 (r, data) = some (encT r data) := by
 show z9a r data = _; unfold z9a encT; rw [zyz hr, z7]; cases h : z2w r with
 | false => rfl
 | true =>
   rw [Bool.not_true, zD]; by_cases h2 : 16 < data.length
   · rw [zT (show (16 : Int) < data.length by omega), zC, if_pos (.inr h2)]
   · have hb := zo6 h; obtain ⟨_, k1, k2, k3, k4, k5, k6, k7⟩ := zfw h; have q1 := z42 [r.kind, r.seq]; have q2 := z42 r.keys; have q3 := z42 (zh9 1 r.values); have q4 : (zh9 1 r.values).length = r.values.length := by simp [zh9]
     have e1 : (packT [r.kind, r.seq]).2 = 0 := zmi _ _ (by intro n hn; simp at hn; rcases hn with rfl | rfl <;> omega); have e2 : (packT r.keys).2 = 0 := zmi _ _ (by intro n hn; have := zo7 k7 n hn; omega); have e3 : (packT (zh9 1 r.values)).2 = 0 := zmi _ _ (by
      intro n hn; unfold zh9 at hn; obtain ⟨m, hm, rfl⟩ := List.mem_map.1 hn; have := zsr k6 m hm; rw [zd (by omega) (by omega)]; omega)
     have hb' := hb; unfold bodyT at hb'; simp only [List.length_cons, List.length_nil] at q1; rw [zF (show ¬ (16 : Int) < data.length by omega), zD, if_neg (by simp; omega), zo8 (by omega), z7, zh8 (by simp), z7, e1, zT rfl, Bool.not_true, zD, zT (by omega), zC, zh8 (by omega), z7, e2, zT rfl, Bool.not_true, zD, zT (by omega), zC, zh8 (by omega), z7, e3, zT rfl, Bool.not_true, zD, zT (by rw [List.length_append]; omega), zC, zT (by omega), zC]; rw [z063 (by rw [List.length_append]; omega), z7, zyw (z062 _), z7, zT (by simp only [bytes4, List.length_cons, List.length_nil]; omega), zC]; rfl
def zRec : Record := ⟨0, 0, [], []⟩
def mvT (l : List Int) : List Int := l.map fun n => w64 (n - 1)
def decT (tag data : Str) : Record × Int :=
 if (zf tag).2.2 ≠ 0 \/ (zf (zf tag).2.1).2.2 ≠ 0 \/ (zf (zf (zf tag).2.1).2.1).2.2 ≠ 0 \/ (zf tag).1.length ≠ 2 then (zRec, 30)
 else
  if (encT ⟨(zf tag).1.getD 0 0, (zf tag).1.getD 1 0, (zf (zf tag).2.1).1, mvT (zf (zf (zf tag).2.1).2.1).1⟩ data).2 ≠ 0 \/
   (encT ⟨(zf tag).1.getD 0 0, (zf tag).1.getD 1 0, (zf (zf tag).2.1).1, mvT (zf (zf (zf tag).2.1).2.1).1⟩ data).1 ≠ tag then (zRec, 30)
  else (⟨(zf tag).1.getD 0 0, (zf tag).1.getD 1 0, (zf (zf tag).2.1).1, mvT (zf (zf (zf tag).2.1).2.1).1⟩, 0)
theorem zo9 : ∀ (k : Nat) (s : Str) (acc : List Int), (unpackL k s acc).2.1.length <= s.length /\ (unpackL k s acc).1.length <= acc.length + k
 | 0, s, acc => by simp [unpackL]
 | k + 1, s, acc => by
   unfold unpackL; split
   · simp
   · have h1 := zo9 k (z4i s).2.1 (acc ++ [(z4i s).1]); have h2 := zbc s; simp at h1 ⊢; omega
theorem z0w (s : Str) : (zf s).2.1.length <= s.length /\ (zf s).1.length <= s.length := by
 unfold zf; split
 · simp
 · rename_i h; have h1 := zo9 (z4i s).1.toNat (z4i s).2.1 []; have h2 := zbc s; have h3 : ¬ ((z4i s).2.1.length : Int) < (z4i s).1 := fun e => h (.inr e)
   simp at h1; omega
theorem zed {tag data : Str} {a b : Int} {ks vs : List Int} (hd : data.length < 4294967296) (hk : ks.length < 4294967296) (hv : vs.length < 4294967296) : ∀ (l : List Int) (N k : Nat) (i : Int) (acc : List Int), vs.drop k = l -> i = k -> acc.length = k -> k <= vs.length -> l.length < N ->
 ze z4q N (tag, data, vs, i, a, b, ks, acc) = some (if (encT ⟨a, b, ks, acc ++ mvT l⟩ data).2 ≠ 0 \/ (encT ⟨a, b, ks, acc ++ mvT l⟩ data).1 ≠ tag then (zRec, 30) else (⟨a, b, ks, acc ++ mvT l⟩, 0))
 | l, 0, _, _, _, _, _, _, _, h => by omega
 | [], N + 1, k, i, acc, h1, h2, h3, h6, _ => by
   have := zl h1; rw [z6, z6c]; unfold z2b; simp only [mvT, List.map_nil, List.append_nil]; rw [zF (by omega), zD, zgb ⟨hk, by simp; omega⟩ hd, z7]; generalize encT ⟨a, b, ks, acc⟩ data = x; by_cases c1 : x.2 = 0
   · rw [zT c1, Bool.not_true, zD]; by_cases c2 : x.1 = tag
     · rw [zT c2, Bool.not_true, zD, if_neg (by simp [c1, c2])]
     · rw [zF c2, Bool.not_false, zC, if_pos (.inr c2)]; rfl
   · rw [zF c1, Bool.not_false, zC, if_pos (.inl c1)]; rfl
 | x :: l, N + 1, k, i, acc, h1, h2, h3, h6, h5 => by
   obtain ⟨g1, g2, g3⟩ := zh h1; subst h2; have ih := zed (tag := tag) (a := a) (b := b) hd hk hv l N (k + 1) (w64 (k + 1)) (acc ++ [w64 (x - 1)]) g3 (by rw [zd (by omega) (by omega)]; omega) (by simp; omega) (by omega) (by simp at h5; omega); rw [z6, z6c]; unfold z2b; simp only [Int.toNat_natCast, g2, ih]; rw [zT (show (k : Int) < vs.length by omega), zT (show (0 : Int) <= k by omega)]; simp only [zC]; rw [zT (by simp; omega), zC, zT (by simp; omega), zC]; simp [mvT]
theorem zpu {tag data : Str} (ht : tag.length < 4294967296) (hd : data.length < 4294967296) : za3 (tag, data) = some (decT tag data) := by
 have q1 := z0w tag; have q2 := z0w (zf tag).2.1; have q3 := z0w (zf (zf tag).2.1).2.1; refine zy (tag.length + 1) fun N hN => ?_
 show z5b N tag data = _; unfold z5b decT; rw [zaf ht, z7, zaf (by omega), z7, zaf (by omega), z7]; generalize zf tag = u1 at *; generalize zf u1.2.1 = u2 at *; generalize zf u2.2.1 = u3 at *; by_cases c1 : u1.2.2 = 0
 · rw [zT c1, Bool.not_true, zD]; by_cases c2 : u2.2.2 = 0
   · rw [zT c2, Bool.not_true, zD]; by_cases c3 : u3.2.2 = 0
     · rw [zT c3, Bool.not_true, zD]; by_cases c4 : u1.1.length = 2
       · rw [zT (show (u1.1.length : Int) = 2 by omega), Bool.not_true, zD, if_neg (by simp [c1, c2, c3, c4]), zT (by omega), zC, zT (by omega), zC]; have := zed (tag := tag) (a := u1.1.getD 0 0) (b := u1.1.getD 1 0) (ks := u2.1) (vs := u3.1) hd (by omega) (by omega) u3.1 N 0 0 [] rfl rfl rfl (by omega) (by omega); simpa using this
       · rw [zF (show ¬ (u1.1.length : Int) = 2 by omega), Bool.not_false, zC, if_pos (.inr (.inr (.inr c4)))]; rfl
     · rw [zF c3, Bool.not_false, zC, if_pos (.inr (.inr (.inl c3)))]; rfl
   · rw [zF c2, Bool.not_false, zC, if_pos (.inr (.inl c2))]; rfl
 · rw [zF c1, Bool.not_false, zC, if_pos (.inl c1)]; rfl
def PageOk (p : Page) : Prop := p.tag.length < 4294967296 /\ p.data.length < 4294967296
def lookT (p : Page) : Int × Record := if p.written = false then (0, zRec) else if (decT p.tag p.data).2 ≠ 0 then (2, zRec) else (1, (decT p.tag p.data).1)
def makeT (w : Write) : Page × Int := if (encT w.record w.data).2 ≠ 0 then (⟨false, [], []⟩, (encT w.record w.data).2) else (⟨true, w.data, (encT w.record w.data).1⟩, 0)
theorem zvt {p : Page} (h : PageOk p) : ze1 p = some (lookT p) := by
 show z91 p = _; unfold z91 lookT; cases p.written with
 | false => rfl
 | true =>
   rw [Bool.not_true, zD, zpu h.1 h.2, z7, if_neg (by simp)]; by_cases c : (decT p.tag p.data).2 = 0
   · rw [zT c, Bool.not_true, zD, if_neg (by simp [c])]
   · rw [zF c, Bool.not_false, zC, if_pos c]; rfl
def WriteOk (w : Write) : Prop := RecOk w.record /\ w.data.length < 4294967296
theorem zvu {w : Write} (h : WriteOk w) : ze4 w = some (makeT w) := by
 show z93 w = _; unfold z93 makeT; rw [zgb h.1 h.2, z7]; by_cases c : (encT w.record w.data).2 = 0
 · rw [zT c, Bool.not_true, zD, if_neg (by simp [c])]
 · rw [zF c, Bool.not_false, zC, if_pos c]
end Clk
namespace Clk
open Go
def z02 (c : Chip) : Prop := c.blocks.length < 4294967296 /\ ∀ b ∈ c.blocks, b.pages.length < 4294967296
theorem z0a {α : Type} {l : List α} {i : Nat} {d : α} (h : i < l.length) : l.getD i d ∈ l := by
 rw [zI, zH h]; exact List.getElem_mem h
theorem z02.get {c : Chip} (h : z02 c) {i : Nat} (hi : i < c.blocks.length) (d : Block) : (c.blocks.getD i d).pages.length < 4294967296 := h.2 _ (z0a hi)
theorem zra (acc : List Block) (n e : Int) (b : Bool) (p q : List Page) : z0h (acc ++ [⟨q, n, e, b⟩]) acc.length p = acc ++ [⟨p, n, e, b⟩] := by
 unfold z0h; simp [zI]
theorem z06a {α : Type} {xs : List α} {k : Nat} {d : α} (h : k < xs.length) : xs.take k ++ [xs.getD k d] = xs.take (k + 1) := by
 rw [List.take_add_one, zH h, zI, zH h]; rfl
theorem zbd {R : Type} {c : Chip} (h : z02 c) {k : Nat} {i : Int} (hi : i = k) (hk : k < c.blocks.length) {ih : Int -> List Block -> Option R} {e : Option R} :
 cond (decide (i < (c.blocks.length : Int)))
  (cond (decide (0 <= i)) (cond (decide (i < (c.blocks.length : Int))) (cond (decide ((0 + (c.blocks.getD i.toNat default).pages.length) * 40 <= 70368744177664)) (cond (decide (0 + (c.blocks.getD i.toNat default).pages.length <= 70368744177664)) (cond (decide (((c.blocks.take k).length + 1) * 48 <= 70368744177664)) (cond (decide ((c.blocks.take k).length + 1 <= 70368744177664))
    (ih (w64 (i + 1)) (z0h (c.blocks.take k ++ [(Block.mk [] (c.blocks.getD i.toNat default).next (c.blocks.getD i.toNat default).erases (c.blocks.getD i.toNat default).bad)]) (c.blocks.take k).length ([] ++ (c.blocks.getD i.toNat default).pages))) none) none) none) none) none) none) e = ih ((k + 1 : Nat) : Int) (c.blocks.take (k + 1)) := by
 subst hi; have h1 := h.1; have h2 := h.get hk default; simp only [Int.toNat_natCast, zra, List.nil_append]; rw [zT (show (k : Int) < c.blocks.length by omega), zT (show (0 : Int) <= k by omega)]; simp only [zC]; rw [zT (by omega), zC, zT (by omega), zC, zT (by rw [List.length_take]; omega), zC, zT (by rw [List.length_take]; omega), zC, zd (by omega) (by omega), <- z06a (d := default) hk]; rfl
theorem zvv {c : Chip} (h : z02 c) : ∀ (m N k : Nat) (i : Int), k + m = c.blocks.length -> i = k -> m < N -> ze z2f N (i, c, c.blocks.take k) = some (⟨c.blocks, true, c.off, c.ops⟩, 1)
 | m, 0, _, _, _, _, h => by omega
 | 0, N + 1, k, i, h1, h2, _ => by
   rw [z6, z6e]; unfold z2e; simp only; rw [zF (by omega), zD, List.take_of_length_le (by omega)]
 | m + 1, N + 1, k, i, h1, h2, h3 => by
   rw [z6, z6e]; unfold z2e; rw [zbd (ih := fun i l => ze z2f N (i, c, l)) h h2 (by omega)]; exact zvv h m N (k + 1) _ (by omega) rfl (by omega)
def brkT (c : Chip) : Chip × Int := (⟨c.blocks, true, c.off, c.ops⟩, 1)
theorem z01b {c : Chip} (h : z02 c) : zx c = some (brkT c) := by
 refine zy (c.blocks.length + 1) fun N hN => ?_
 exact zvv h c.blocks.length N 0 0 (by omega) rfl (by omega)
theorem z0cf {c : Chip} (h : z02 c) : ∀ (m N k : Nat) (i : Int), k + m = c.blocks.length -> i = k -> m < N -> ze z6o N (i, c, c.blocks.take k) = some ⟨c.blocks, c.broken, false, c.ops⟩
 | m, 0, _, _, _, _, h => by omega
 | 0, N + 1, k, i, h1, h2, _ => by
   rw [z6, zd2]; unfold z6n; simp only; rw [zF (by omega), zD, List.take_of_length_le (by omega)]
 | m + 1, N + 1, k, i, h1, h2, h3 => by
   rw [z6, zd2]; unfold z6n; rw [zbd (ih := fun i l => ze z6o N (i, c, l)) h h2 (by omega)]; exact z0cf h m N (k + 1) _ (by omega) rfl (by omega)
def onT (c : Chip) : Chip := ⟨c.blocks, c.broken, false, c.ops⟩
theorem s_On {c : Chip} (h : z02 c) : zjz c = some (onT c) := by
 refine zy (c.blocks.length + 1) fun N hN => ?_
 exact z0cf h c.blocks.length N 0 0 (by omega) rfl (by omega)
def thereT (c : Chip) (b p : Int) : Bool := decide (0 <= b) && decide (b < c.blocks.length) && decide (0 <= p) && decide (p < (c.blocks.getD b.toNat default).pages.length)
theorem z0ba (c : Chip) (b p : Int) : zbx (c, b, p) = some (thereT c b p) := by
 show z6t c b p = _; unfold z6t thereT; cases decide (0 <= b) with
 | false => rfl
 | true => cases decide (b < (c.blocks.length : Int)) with
   | false => rfl
   | true => cases decide (0 <= p) <;> simp
def zit (bl : Block) (p : Int) (page : Page) (f : Fate) : Block :=
 ⟨bl.pages.set p.toNat (if f.kind = 0 then ⟨true, page.data, page.tag⟩ else ⟨true, f.data, f.tag⟩), w64 (bl.next + 1), bl.erases, decide (f.kind = 1)⟩
def canProg (c : Chip) (b p : Int) (f : Fate) : Bool :=
 thereT c b p && !(c.blocks.getD b.toNat default).bad && decide ((c.blocks.getD b.toNat default).next = p) && decide (0 <= f.kind) && decide (f.kind <= 2)
def progT (c : Chip) (b p : Int) (page : Page) (f : Fate) : Chip × Int :=
 if c.off then (c, 52) else if canProg c b p f then
  (⟨c.blocks.set b.toNat (zit (c.blocks.getD b.toNat default) p page f), c.broken, decide (f.kind = 2), w64 (c.ops + 1)⟩, if f.kind = 0 then 0 else if f.kind = 1 then 53 else 52)
 else brkT c
theorem z0u {α : Type} {l : List α} {i : Nat} {x d : α} (h : i < l.length) : (l.set i x).getD i d = x := by
 rw [zI, List.getElem?_set_self h]; rfl
theorem z8c {c : Chip} {b p : Int} {f : Fate} : canProg c b p f = true ↔ 0 <= b /\ b < c.blocks.length /\ 0 <= p /\ p < (c.blocks.getD b.toNat default).pages.length /\ (c.blocks.getD b.toNat default).bad = false /\ (c.blocks.getD b.toNat default).next = p /\ 0 <= f.kind /\ f.kind <= 2 := by
 unfold canProg thereT; simp only [Bool.and_eq_true, decide_eq_true_eq, Bool.not_eq_true']; constructor
 · rintro ⟨⟨⟨⟨⟨⟨⟨h1, h2⟩, h3⟩, h4⟩, h5⟩, h6⟩, h7⟩, h8⟩; exact ⟨h1, h2, h3, h4, h5, h6, h7, h8⟩
 · rintro ⟨h1, h2, h3, h4, h5, h6, h7, h8⟩; exact ⟨⟨⟨⟨⟨⟨⟨h1, h2⟩, h3⟩, h4⟩, h5⟩, h6⟩, h7⟩, h8⟩
theorem zz0 {c : Chip} {b p : Int} {page : Page} {f : Fate} (hoff : c.off = false) (hc : canProg c b p f = true) {ih} {i : Int} (hi : i = c.blocks.length) : z0t b p ih i page f c c.blocks = some (progT c b p page f) := by
 have hc' := hc; obtain ⟨h1, h2, h3, h4, h5, h6, h7, h8⟩ := z8c.1 hc; have hb : b.toNat < c.blocks.length := by omega
 have hp : p.toNat < (c.blocks.getD b.toNat default).pages.length := by omega
 unfold z0t progT; rw [zF (by omega), zD, hoff, if_neg (by simp), if_pos hc']; have hk : f.kind = 0 \/ f.kind = 1 \/ f.kind = 2 := by omega
 generalize hbl : c.blocks.getD b.toNat default = bl at *; have e1 : ∀ v, zz c.blocks b.toNat v = c.blocks.set b.toNat ⟨bl.pages, v, bl.erases, bl.bad⟩ := fun v => by unfold zz; rw [hbl]
 have e2 : ∀ v y, zb2 (c.blocks.set b.toNat y) b.toNat v = c.blocks.set b.toNat ⟨y.pages, y.next, y.erases, v⟩ := fun v y => by unfold zb2; rw [z0u hb, List.set_set]
 have e3 : ∀ v y, z0h (c.blocks.set b.toNat y) b.toNat v = c.blocks.set b.toNat ⟨v, y.next, y.erases, y.bad⟩ := fun v y => by unfold z0h; rw [z0u hb, List.set_set]
 simp only [e1, e2, e3, List.length_set, z0u hb, zT h1, zT h2, zT hb, zT h3, zT h4, zT hp, zC, decide_true]; rcases hk with hk | hk | hk <;> simp [hk, zit, h5, hoff]
theorem zrb {c : Chip} (h : z02 c) {b p : Int} {page : Page} {f : Fate} (hoff : c.off = false) (hc : canProg c b p f = true) : ∀ (m N k : Nat) (i : Int), k + m = c.blocks.length -> i = k -> m < N -> ze (z1o b p) N (i, page, f, c, c.blocks.take k) = some (progT c b p page f)
 | m, 0, _, _, _, _, h => by omega
 | 0, N + 1, k, i, h1, h2, _ => by
   rw [z6, z5v, List.take_of_length_le (by omega)]; exact zz0 hoff hc (by omega)
 | m + 1, N + 1, k, i, h1, h2, h3 => by
   rw [z6, z5v]; unfold z0t; rw [zbd (ih := fun i l => ze (z1o b p) N (i, page, f, c, l)) h h2 (by omega)]; exact zrb h hoff hc m N (k + 1) _ (by omega) rfl (by omega)
theorem zrc {c : Chip} (h : z02 c) : ∀ (m N k : Nat) (i : Int), k + m = c.blocks.length -> i = k -> m < N -> ze z1n N (i, c, c.blocks.take k) = some (⟨c.blocks, c.broken, c.off, c.ops⟩, 52)
 | m, 0, _, _, _, _, h => by omega
 | 0, N + 1, k, i, h1, h2, _ => by
   rw [z6, z5u]; unfold z1m; simp only; rw [zF (by omega), zD, List.take_of_length_le (by omega)]
 | m + 1, N + 1, k, i, h1, h2, h3 => by
   rw [z6, z5u]; unfold z1m; rw [zbd (ih := fun i l => ze z1n N (i, c, l)) h h2 (by omega)]; exact zrc h m N (k + 1) _ (by omega) rfl (by omega)
theorem zoa {c : Chip} (h : z02 c) (b p : Int) (page : Page) (f : Fate) : z0o (c, b, p, page, f) = some (progT c b p page f) := by
 refine zy (c.blocks.length + 1) fun N hN => ?_
 show z3u N c b p page f = _; unfold z3u; cases hoff : c.off with
 | true =>
   rw [zC]; have := zrc h c.blocks.length N 0 0 (by omega) rfl (by omega); rw [List.take_zero] at this; rw [this]; unfold progT; rw [if_pos hoff]
 | false =>
   rw [zD, z0ba, z7, z01b h]; simp only [z7]; have hbrk : canProg c b p f = false -> progT c b p page f = brkT c := fun hc => by unfold progT; rw [hoff, if_neg (by simp), hc]; rfl
   cases ht : thereT c b p with
   | false =>
     rw [hbrk (by unfold canProg; rw [ht]; rfl)] <;> rfl
   | true =>
     have ht' := ht; unfold thereT at ht'; simp only [Bool.and_eq_true, decide_eq_true_eq] at ht'; obtain ⟨⟨⟨h1, h2⟩, h3⟩, h4⟩ := ht'; rw [Bool.not_true, zD, zT h1, zT h2]; simp only [zC]; cases hbd : (c.blocks.getD b.toNat default).bad with
     | true =>
       rw [zC, hbrk (by unfold canProg; rw [hbd]; simp)] <;> rfl
     | false =>
       rw [zD]; by_cases hn : (c.blocks.getD b.toNat default).next = p
       · rw [zT hn, Bool.not_true, zD]; by_cases hk1 : f.kind < 0
         · rw [zT hk1, zC, hbrk (by unfold canProg; rw [zF (show ¬ 0 <= f.kind by omega)]; simp)] <;> rfl
         · rw [zF hk1, zD]; by_cases hk2 : 2 < f.kind
           · rw [zT hk2, zC, hbrk (by unfold canProg; rw [zF (show ¬ f.kind <= 2 by omega)]; simp)] <;> rfl
           · rw [zF hk2, zD]; have := zrb h (page := page) (f := f) hoff (z8c.2 ⟨h1, h2, h3, h4, hbd, hn, by omega, by omega⟩) c.blocks.length N 0 0 (by omega) rfl (by omega); rw [List.take_zero] at this; exact this
       · rw [zF hn, Bool.not_false, zC, hbrk (by unfold canProg; rw [zF hn]; simp)] <;> rfl
end Clk
namespace Clk
open Go
def zPage : Page := ⟨false, [], []⟩
def clrT (all : Bool) (n : Int) : Nat -> List Page -> List Page
 | _, [] => []
 | i, p :: l => (if all = true \/ (i : Int) < n then zPage else p) :: clrT all n (i + 1) l
def zfx (bl : Block) (f : Fate) : Block :=
 if f.kind = 1 then ⟨bl.pages, bl.next, bl.erases, true⟩
 else ⟨clrT (decide (f.kind = 0)) f.n 0 bl.pages, if f.kind = 2 then bl.pages.length else 0, w64 (bl.erases + 1), bl.bad⟩
def canEra (c : Chip) (b : Int) (f : Fate) : Bool :=
 decide (0 <= b) && decide (b < c.blocks.length) && !(c.blocks.getD b.toNat default).bad && decide (0 <= f.kind) && decide (f.kind <= 2)
def eraT (c : Chip) (b : Int) (f : Fate) : Chip × Int :=
 if c.off then (c, 52) else if canEra c b f then
  (⟨c.blocks.set b.toNat (zfx (c.blocks.getD b.toNat default) f), c.broken, decide (f.kind = 2), w64 (c.ops + 1)⟩, if f.kind = 0 then 0 else if f.kind = 1 then 53 else 52)
 else brkT c
theorem z01c (all : Bool) (n : Int) : ∀ (i : Nat) (l : List Page), (clrT all n i l).length = l.length
 | _, [] => rfl
 | i, p :: l => by simp [clrT, z01c all n (i + 1) l]
theorem z01d {C : List Block} {b : Nat} (hb : b < C.length) {f : Fate} (hk : f.kind = 0 \/ f.kind = 2) {nx e : Int} {bd brk off : Bool} {ops : Int} : ∀ (l : List Page) (N k : Nat) (i : Int) (pre : List Page), pre.length = k -> i = k -> k + l.length < 4294967296 -> l.length < N ->
 ze z36 N ((b : Int), i, f, C.set b ⟨pre ++ l, nx, e, bd⟩, brk, off, ops) =
  some (⟨C.set b ⟨pre ++ clrT (decide (f.kind = 0)) f.n k l, if f.kind = 2 then ((k + l.length : Nat) : Int) else 0, e, bd⟩, brk, off || decide (f.kind = 2), ops⟩, if f.kind = 2 then 52 else 0)
 | l, 0, _, _, _, _, _, _, h => by omega
 | [], N + 1, k, i, pre, h1, h2, h3, _ => by
   rw [z6, z85]; unfold z35; simp only [Int.toNat_natCast, List.length_set, z0u hb, zT hb, zC, decide_true, List.append_nil]; rw [zF (show ¬ i < (pre.length : Int) by omega), zD]; have e1 : ∀ v y, zz (C.set b y) b v = C.set b ⟨y.pages, v, y.erases, y.bad⟩ := fun v y => by unfold zz; rw [z0u hb, List.set_set]
   have e3 : ∀ v y, z0h (C.set b y) b v = C.set b ⟨v, y.next, y.erases, y.bad⟩ := fun v y => by unfold z0h; rw [z0u hb, List.set_set]
   simp only [e1, e3, List.length_set, zT hb, zC, clrT, List.append_nil, List.length_nil, Nat.add_zero]; rcases hk with hk | hk <;> simp [hk, h1]
 | p :: l, N + 1, k, i, pre, h1, h2, h3, h4 => by
   subst h2; simp only [List.length_cons] at h3 h4; have hl : (pre ++ p :: l).length = k + (l.length + 1) := by simp [h1]
   have g3 : ∀ x, (pre ++ p :: l).set k x = (pre ++ [x]) ++ l := fun x => by subst h1; simp
   have e3 : ∀ v y, z0h (C.set b y) b v = C.set b ⟨v, y.next, y.erases, y.bad⟩ := fun v y => by unfold z0h; rw [z0u hb, List.set_set]
   have ih := fun x => z01d hb hk (nx := nx) (e := e) (bd := bd) (brk := brk) (off := off) (ops := ops) l N (k + 1) (w64 (k + 1)) (pre ++ [x]) (by simp [h1]) (by rw [zd (by omega) (by omega)]; omega) (by omega) (by omega)
   rw [z6, z85]; unfold z35; simp only [Int.toNat_natCast, List.length_set, z0u hb, zT hb, zC, decide_true, e3, g3, hl]; rw [zT (show (k : Int) < ((k + (l.length + 1) : Nat) : Int) by omega), zT (show (0 : Int) <= k by omega), zT (show k < k + (l.length + 1) by omega)]; simp only [zC]; have hp0 : pre ++ p :: l = (pre ++ [p]) ++ l := by simp
   rw [hp0, ih p]; have hz : ze z36 N ((b : Int), w64 (k + 1), f, C.set b ⟨pre ++ [Page.mk false [] []] ++ l, nx, e, bd⟩, brk, off, ops) = _ := ih zPage; rw [hz]; rcases hk with hk | hk
   · simp [hk, clrT]
   · by_cases hn : (k : Int) < f.n
     · have hkl : k + 1 + l.length = k + (l.length + 1) := by omega
       rw [hkl]; simp [hk, clrT, hn]
     · have hkl : k + 1 + l.length = k + (l.length + 1) := by omega
       rw [hkl]; simp [hk, clrT, hn]
theorem z06b {c : Chip} (h : z02 c) {b : Int} {f : Fate} (hoff : c.off = false) (hc : canEra c b f = true) {M : Nat} (hM : ∀ b ∈ c.blocks, b.pages.length < M) {ih} {i : Int} (hi : i = c.blocks.length) : z1c M b ih i f c c.blocks = some (eraT c b f) := by
 have hc' := hc; unfold canEra at hc; simp only [Bool.and_eq_true, decide_eq_true_eq, Bool.not_eq_true'] at hc; obtain ⟨⟨⟨⟨h1, h2⟩, h5⟩, h7⟩, h8⟩ := hc; have hb : b.toNat < c.blocks.length := by omega
 have hM' := hM _ (z0a (d := default) hb); have hl := h.get hb default; unfold z1c eraT; rw [zF (by omega), zD, hoff, if_neg (by simp), if_pos hc']; have hk : f.kind = 1 \/ (f.kind = 0 \/ f.kind = 2) := by omega
 generalize hbl : c.blocks.getD b.toNat default = bl at *; have e2 : ∀ v, zb2 c.blocks b.toNat v = c.blocks.set b.toNat ⟨bl.pages, bl.next, bl.erases, v⟩ := fun v => by unfold zb2; rw [hbl]
 have e3 : ∀ v, bErases c.blocks b.toNat v = c.blocks.set b.toNat ⟨bl.pages, bl.next, v, bl.bad⟩ := fun v => by unfold bErases; rw [hbl]
 simp only [e2, e3, zT h1, zT h2, zT hb, zC]; rcases hk with hk | hk
 · simp [hk, zfx, hoff]
 · rw [zF (show ¬ f.kind = 1 by omega), zD]; have := z01d hb hk (nx := bl.next) (e := w64 (bl.erases + 1)) (bd := bl.bad) (brk := c.broken) (off := false) (ops := w64 (c.ops + 1)) bl.pages M 0 0 [] rfl rfl (by omega) hM'; rw [List.nil_append] at this; rw [this]; have hk1 : ¬ f.kind = 1 := by omega
   rcases hk with hk | hk <;> simp [hk, zfx]
theorem z01e {c : Chip} (h : z02 c) {b : Int} {f : Fate} (hoff : c.off = false) (hc : canEra c b f = true) {M : Nat} (hM : ∀ b ∈ c.blocks, b.pages.length < M) : ∀ (m N k : Nat) (i : Int), k + m = c.blocks.length -> i = k -> m < N -> ze (z37 M b) N (i, f, c, c.blocks.take k) = some (eraT c b f)
 | m, 0, _, _, _, _, h => by omega
 | 0, N + 1, k, i, h1, h2, _ => by
   rw [z6, z86, List.take_of_length_le (by omega)]; exact z06b h hoff hc hM (by omega)
 | m + 1, N + 1, k, i, h1, h2, h3 => by
   rw [z6, z86]; unfold z1c; rw [zbd (ih := fun i l => ze (z37 M b) N (i, f, c, l)) h h2 (by omega)]; exact z01e h hoff hc hM m N (k + 1) _ (by omega) rfl (by omega)
theorem z01f {c : Chip} (h : z02 c) : ∀ (m N k : Nat) (i : Int), k + m = c.blocks.length -> i = k -> m < N -> ze z34 N (i, c, c.blocks.take k) = some (⟨c.blocks, c.broken, c.off, c.ops⟩, 52)
 | m, 0, _, _, _, _, h => by omega
 | 0, N + 1, k, i, h1, h2, _ => by
   rw [z6, z84]; unfold z33; simp only; rw [zF (by omega), zD, List.take_of_length_le (by omega)]
 | m + 1, N + 1, k, i, h1, h2, h3 => by
   rw [z6, z84]; unfold z33; rw [zbd (ih := fun i l => ze z34 N (i, c, l)) h h2 (by omega)]; exact z01f h m N (k + 1) _ (by omega) rfl (by omega)
theorem zss {c : Chip} (h : z02 c) (b : Int) (f : Fate) : z6v (c, b, f) = some (eraT c b f) := by
 refine zy (c.blocks.length + 4294967297) fun N hN => ?_
 show z6u N c b f = _; unfold z6u; have hN2 : 4294967297 <= N := Nat.le_trans (Nat.le_add_left _ _) hN; have hN1 : c.blocks.length < N := by omega
 clear hN; cases hoff : c.off with
 | true =>
   rw [zC]; have := z01f h c.blocks.length N 0 0 (by omega) rfl hN1; rw [List.take_zero] at this; rw [this]; unfold eraT; rw [if_pos hoff]
 | false =>
   rw [zD, z01b h]; simp only [z7]; have hbrk : canEra c b f = false -> eraT c b f = brkT c := fun hc => by unfold eraT; rw [hoff, if_neg (by simp), hc]; rfl
   by_cases h1 : b < 0
   · rw [zT h1, zC, hbrk (by unfold canEra; rw [zF (show ¬ 0 <= b by omega)]; simp)]
   · rw [zF h1, zD]; by_cases h2 : (c.blocks.length : Int) <= b
     · rw [zT h2, zC, hbrk (by unfold canEra; rw [zF (show ¬ b < c.blocks.length by omega)]; simp)]
     · rw [zF h2, zD, zT (show 0 <= b by omega), zT (show b < c.blocks.length by omega)]; simp only [zC]; cases hbd : (c.blocks.getD b.toNat default).bad with
       | true => rw [zC, hbrk (by unfold canEra; rw [hbd]; simp)]
       | false =>
         rw [zD]; by_cases hk1 : f.kind < 0
         · rw [zT hk1, zC, hbrk (by unfold canEra; rw [zF (show ¬ 0 <= f.kind by omega)]; simp)]
         · rw [zF hk1, zD]; by_cases hk2 : 2 < f.kind
           · rw [zT hk2, zC, hbrk (by unfold canEra; rw [zF (show ¬ f.kind <= 2 by omega)]; simp)]
           · rw [zF hk2, zD]; have hc : canEra c b f = true := by
              unfold canEra; rw [hbd, zT (show 0 <= b by omega), zT (show b < c.blocks.length by omega), zT (show 0 <= f.kind by omega), zT (show f.kind <= 2 by omega)]; rfl
             have := z01e h hoff hc (M := N) (fun b hb => by have := h.2 b hb; omega) c.blocks.length N 0 0 (by omega) rfl hN1; rw [List.take_zero] at this; exact this
def zChip : Chip := ⟨[], false, false, 0⟩
def newL (n : Int) : List Int -> List Block -> Chip × Int
 | [], bs => (⟨bs, false, false, 0⟩, 0)
 | x :: l, bs => if x < 0 \/ n <= x then (zChip, 1) else newL n l (zb2 bs x.toNat true)
def newT (blocks pages : Int) (bad : List Int) : Chip × Int :=
 if blocks < 1 \/ 32 < blocks \/ pages < 1 \/ 16 < pages then (zChip, 1) else newL blocks bad (List.replicate blocks.toNat ⟨List.replicate pages.toNat zPage, 0, 0, false⟩)
theorem z09q {n : Int} {bad : List Int} (hb : bad.length < 4294967296) : ∀ (l : List Int) (N k : Nat) (i : Int) (bs : List Block), bad.drop k = l -> i = k -> (bs.length : Int) = n -> l.length < N -> ze za7 N (n, bad, i, false, false, 0, bs) = some (newL n l bs)
 | l, 0, _, _, _, _, _, _, h => by omega
 | [], N + 1, k, i, bs, h1, h2, h3, _ => by
   have := zl h1; rw [z6, zb7]; unfold z5g; simp only [newL]; rw [zF (by omega), zD]
 | x :: l, N + 1, k, i, bs, h1, h2, h3, h4 => by
   obtain ⟨g1, g2, g3⟩ := zh h1; subst h2; rw [z6, zb7]; unfold z5g; simp only [Int.toNat_natCast, g2, newL]; rw [zT (show (k : Int) < bad.length by omega), zT (show (0 : Int) <= k by omega)]; simp only [zC]; by_cases c1 : x < 0
   · rw [zT c1, zC, if_pos (.inl c1)]; rfl
   · rw [zF c1, zD]; by_cases c2 : n <= x
     · rw [zT c2, zC, if_pos (.inr c2)]; rfl
     · rw [zF c2, zD, if_neg (by omega), zT (show 0 <= x by omega), zC, zT (show x < (bs.length : Int) by omega), zC, zT (show x.toNat < bs.length by omega), zC]; exact z09q hb l N (k + 1) _ _ g3 (by rw [zd (by omega) (by omega)]; omega) (by unfold zb2; simpa using h3) (by simp at h4; omega)
theorem z09r {n p : Int} {bad : List Int} (hb : bad.length < 4294967296) (hn : n <= 32) (hp : 1 <= p) (hp2 : p <= 16) {M : Nat} (hM : bad.length < M) : ∀ (m N k : Nat) (i : Int), (k : Int) + m = n -> i = k -> m < N -> ze (za8 M) N (n, p, bad, i, false, false, 0, List.replicate k ⟨List.replicate p.toNat zPage, 0, 0, false⟩) = some (newL n bad (List.replicate n.toNat ⟨List.replicate p.toNat zPage, 0, 0, false⟩))
 | m, 0, _, _, _, _, h => by omega
 | 0, N + 1, k, i, h1, h2, _ => by
   rw [z6, zb8]; unfold z5h; simp only; rw [zF (by omega), zD, show n.toNat = k by omega]; exact z09q hb bad M 0 0 _ rfl rfl (by simp; omega) hM
 | m + 1, N + 1, k, i, h1, h2, h3 => by
   subst h2; rw [z6, zb8]; unfold z5h; simp only [zra]; simp only [List.length_replicate]; rw [zT (show (k : Int) < n by omega), zT (show 0 <= p by omega), zT (show p <= p by omega), zT (show p * 40 <= 70368744177664 by omega), zT (show p <= 70368744177664 by omega), zT (show (k + 1) * 48 <= 70368744177664 by omega), zT (show k + 1 <= 70368744177664 by omega)]; simp only [zC]; have e : List.replicate k (Block.mk (List.replicate p.toNat zPage) 0 0 false) ++ [⟨List.replicate p.toNat (default : Page), 0, 0, false⟩] = List.replicate (k + 1) ⟨List.replicate p.toNat zPage, 0, 0, false⟩ := by
    rw [List.replicate_succ']; rfl
   rw [e]; exact z09r hb hn hp hp2 hM m N (k + 1) _ (by omega) (by rw [zd (by omega) (by omega)]; omega) (by omega)
theorem zz1 {n p : Int} {bad : List Int} (hb : bad.length < 4294967296) : zbz (n, p, bad) = some (newT n p bad) := by
 refine zy (bad.length + 34) fun N hN => ?_
 show zby N n p bad = _; unfold zby newT; by_cases c1 : n < 1
 · rw [zT c1, zC, if_pos (.inl c1)]; rfl
 · rw [zF c1, zD]; by_cases c2 : 32 < n
   · rw [zT c2, zC, if_pos (.inr (.inl c2))]; rfl
   · rw [zF c2, zD]; by_cases c3 : p < 1
     · rw [zT c3, zC, if_pos (.inr (.inr (.inl c3)))]; rfl
     · rw [zF c3, zD]; by_cases c4 : 16 < p
       · rw [zT c4, zC, if_pos (.inr (.inr (.inr c4)))]; rfl
       · rw [zF c4, zD, if_neg (by omega)]; exact z09r hb (by omega) (by omega) (by omega) (M := N) (by omega) n.toNat N 0 0 (by omega) rfl (by omega)
theorem z0bb (p q : Page) : ((p.written == q.written) && ((decide (p.data = q.data)) && (decide (p.tag = q.tag)))) = decide (p = q) := by
 obtain ⟨a, b, c⟩ := p; obtain ⟨a', b', c'⟩ := q; rw [Bool.eq_iff_iff]; simp
theorem z06c {ih0 : Int × Chip × Chip -> Option Bool} {a b : Chip} {x y : Block} {n : Int} (hx : x.pages.length < 4294967296) (hxy : x.pages.length = y.pages.length) : ∀ (l m : List Page) (N k : Nat) (i : Int), x.pages.drop k = l -> y.pages.drop k = m -> i = k -> l.length < N -> ze (z89 ih0) N (n, i, a, b, x, y) = if l = m then ih0 (w64 (n + 1), a, b) else some false
 | l, m, 0, _, _, _, _, _, h => by omega
 | [], m, N + 1, k, i, h1, h2, h3, h4 => by
   have h5 := zl h1; have h6 : m = [] := by rw [<- h2]; exact List.drop_eq_nil_of_le (by omega)
   rw [z6, z9e]; unfold z3z; simp only; rw [zF (by omega), zD, h6, if_pos rfl]
 | p :: l, m, N + 1, k, i, h1, h2, h3, h4 => by
   obtain ⟨g1, g2, g3⟩ := zh h1; subst h3; cases m with
   | nil => have := zl h2; omega
   | cons q m =>
     obtain ⟨e1, e2, e3⟩ := zh h2; rw [z6, z9e]; unfold z3z; simp only [Int.toNat_natCast, g2, e2, z0bb]; rw [zT (show (k : Int) < x.pages.length by omega), zT (show (0 : Int) <= k by omega), zT (show (k : Int) < y.pages.length by omega)]; simp only [zC]; by_cases hpq : p = q
     · rw [zT hpq, Bool.not_true, zD]; have := z06c (ih0 := ih0) (a := a) (b := b) (n := n) hx hxy l m N (k + 1) (w64 (k + 1)) g3 e3 (by rw [zd (by omega) (by omega)]; omega) (by simp at h4; omega); rw [this]; simp [hpq]
     · rw [zF hpq, Bool.not_false, zC, if_neg (by simp [hpq])]
theorem z06d {a b : Chip} (ha : z02 a) (hab : a.blocks.length = b.blocks.length) {M : Nat} (hM : 4294967296 < M) : ∀ (l m : List Block) (N k : Nat) (i : Int), a.blocks.drop k = l -> b.blocks.drop k = m -> i = k -> l.length < N -> ze (z8a M) N (i, a, b) = some (decide (l = m))
 | l, m, 0, _, _, _, _, _, h => by omega
 | [], m, N + 1, k, i, h1, h2, h3, h4 => by
   have h5 := zl h1; have h6 : m = [] := by rw [<- h2]; exact List.drop_eq_nil_of_le (by omega)
   rw [z6, z9f]; unfold z40; simp only; rw [zF (by omega), zD, h6]; rfl
 | x :: l, m, N + 1, k, i, h1, h2, h3, h4 => by
   obtain ⟨g1, g2, g3⟩ := zh h1; subst h3; cases m with
   | nil => have := zl h2; omega
   | cons y m =>
     obtain ⟨e1, e2, e3⟩ := zh h2; have hl := ha.1; have hx : x.pages.length < 4294967296 := by have := ha.get g1 default; rw [g2] at this; exact this
     rw [z6, z9f]; unfold z40; simp only [Int.toNat_natCast, g2, e2]; rw [zT (show (k : Int) < a.blocks.length by omega), zT (show (0 : Int) <= k by omega), zT (show (k : Int) < b.blocks.length by omega)]; simp only [zC]; have hne : ∀ {P : Prop}, (x = y -> P) -> ¬ P -> some false = some (decide (x :: l = y :: m)) := fun h1 h2 => by
      rw [zF]; intro e; injection e with e _; exact h2 (h1 e)
     by_cases c1 : x.next = y.next
     · rw [zT c1, Bool.not_true, zD]; by_cases c2 : x.erases = y.erases
       · rw [zT c2, Bool.not_true, zD]; by_cases c3 : x.bad = y.bad
         · rw [show (x.bad == y.bad) = true by simp [c3], Bool.not_true, zD]; by_cases c4 : x.pages.length = y.pages.length
           · rw [zT (show (x.pages.length : Int) = y.pages.length by omega), Bool.not_true, zD, z06c hx c4 _ _ M 0 0 rfl rfl rfl (by simp; omega)]; simp only [List.drop_zero]; have := z06d ha hab hM l m N (k + 1) (w64 (k + 1)) g3 e3 (by rw [zd (by omega) (by omega)]; omega) (by simp at h4; omega); rw [this]; by_cases c5 : x.pages = y.pages
             · rw [if_pos c5]; have : x = y := by cases x; cases y; simp_all
               simp [this]
             · rw [if_neg c5]; exact hne (congrArg Block.pages) c5
           · rw [zF (by omega), Bool.not_false, zC]; exact hne (fun e => by rw [e]) c4
         · rw [show (x.bad == y.bad) = false by simp [c3], Bool.not_false, zC]; exact hne (congrArg Block.bad) c3
       · rw [zF c2, Bool.not_false, zC]; exact hne (congrArg Block.erases) c2
     · rw [zF c1, Bool.not_false, zC]; exact hne (congrArg Block.next) c1
theorem zvw {a b : Chip} (ha : z02 a) : zea (a, b) = some (decide (a = b)) := by
 have hl := ha.1; refine zy 4294967297 fun N hN => ?_
 show z9g N a b = _; unfold z9g; by_cases c1 : a.blocks.length = b.blocks.length
 · rw [zT (by omega), Bool.not_true, zD]; by_cases c2 : a.broken = b.broken
   · rw [show (a.broken == b.broken) = true by simp [c2], Bool.not_true, zD]; by_cases c3 : a.off = b.off
     · rw [show (a.off == b.off) = true by simp [c3], Bool.not_true, zD]; by_cases c4 : a.ops = b.ops
       · rw [zT c4, Bool.not_true, zD, z06d ha c1 (by omega) _ _ N 0 0 rfl rfl rfl (by simp; omega)]; congr 1
         simp only [List.drop_zero]; rw [Bool.eq_iff_iff]; simp only [decide_eq_true_eq]; constructor
         · intro h; cases a; cases b; simp_all
         · intro h; rw [h]
       · rw [zF c4, Bool.not_false, zC, zF fun e => c4 (by rw [e])]
     · rw [show (a.off == b.off) = false by simp [c3], Bool.not_false, zC, zF fun e => c3 (by rw [e])]
   · rw [show (a.broken == b.broken) = false by simp [c2], Bool.not_false, zC, zF fun e => c2 (by rw [e])]
 · rw [zF (by omega), Bool.not_false, zC, zF fun e => c1 (by rw [e])]
end Clk
namespace Clk
open Go
def placeT (b p : Int) : Int := if b < 0 \/ 32 <= b \/ p < 0 \/ 16 <= p then -1 else b * 16 + p
theorem ziu (b p : Int) : zbv (b, p) = some (placeT b p) := by
 show z6l b p = _; unfold z6l placeT; by_cases c1 : b < 0
 · rw [zT c1, zC, if_pos (.inl c1)]
 · rw [zF c1, zD]; by_cases c2 : 32 <= b
   · rw [zT c2, zC, if_pos (.inr (.inl c2))]
   · rw [zF c2, zD]; by_cases c3 : p < 0
     · rw [zT c3, zC, if_pos (.inr (.inr (.inl c3)))]
     · rw [zF c3, zD]; by_cases c4 : 16 <= p
       · rw [zT c4, zC, if_pos (.inr (.inr (.inr c4)))]
       · rw [zF c4, zD, if_neg (by omega), zd (n := b * 16) (by omega) (by omega), zd (by omega) (by omega)]
theorem zvx (b p : Int) : ze9 (b, p) = some (placeT b p) := ziu b p
def aheadT (a b : Found) : Bool := decide (a.record.seq < b.record.seq) || (decide (a.record.seq = b.record.seq) && decide (a.place < b.place))
theorem z0bc (a b : Found) : zbw (a, b) = some (aheadT a b) := by
 show z6m a b = _; unfold z6m aheadT; cases decide (a.record.seq < b.record.seq) <;> cases decide (a.record.seq = b.record.seq) <;> rfl
def insT : List Found -> Found -> List Found
 | [], f => [f]
 | x :: l, f => if aheadT f x = true then f :: x :: l else x :: insT l f
theorem zst : ∀ (l : List Found) (f : Found), (insT l f).length = l.length + 1
 | [], f => rfl
 | x :: l, f => by
   unfold insT; split
   · rfl
   · simp [zst l f]
theorem z06e {xs : List Found} {f : Found} (hs : xs.length < 4294967296) : ∀ (l : List Found) (N k : Nat) (i : Int) (acc : List Found), xs.drop k = l -> i = k -> acc.length + l.length < 4294967298 -> l.length < N -> ze z5c N (xs, true, i, f, acc) = some (acc ++ l)
 | l, 0, _, _, _, _, _, _, h => by omega
 | [], N + 1, k, i, acc, h1, h2, h3, _ => by
   have := zl h1; rw [z6, z2c]; unfold z1f; simp only [Bool.not_true, zD, List.append_nil]; rw [zF (by omega), zD]
 | x :: l, N + 1, k, i, acc, h1, h2, h3, h4 => by
   obtain ⟨g1, g2, g3⟩ := zh h1; subst h2; simp only [List.length_cons] at h3 h4; rw [z6, z2c]; unfold z1f; simp only [Int.toNat_natCast, g2, Bool.not_true, zD, List.length_singleton]; rw [zT (show (k : Int) < xs.length by omega), zT (show (0 : Int) <= k by omega), zT (by omega), zT (by omega)]; simp only [zC]; rw [z06e hs l N (k + 1) _ _ g3 (by rw [zd (by omega) (by omega)]; omega) (by simp; omega) (by omega)]; simp
theorem z09s {xs : List Found} {f : Found} (hs : xs.length < 4294967296) : ∀ (l : List Found) (N k : Nat) (i : Int) (acc : List Found), xs.drop k = l -> i = k -> acc.length + l.length < 4294967296 -> l.length < N -> ze z5c N (xs, false, i, f, acc) = some (acc ++ insT l f)
 | l, 0, _, _, _, _, _, _, h => by omega
 | [], N + 1, k, i, acc, h1, h2, h3, _ => by
   have := zl h1; rw [z6, z2c]; unfold z1f; simp only [Bool.not_false, zC, List.length_singleton, insT]; rw [zF (show ¬ i < (xs.length : Int) by omega), zD, zT (by omega), zC, zT (by omega), zC]
 | x :: l, N + 1, k, i, acc, h1, h2, h3, h4 => by
   obtain ⟨g1, g2, g3⟩ := zh h1; subst h2; simp only [List.length_cons] at h3 h4; rw [z6, z2c]; unfold z1f; simp only [Int.toNat_natCast, g2, Bool.not_false, List.length_singleton, z0bc, z7, insT, List.length_append]; rw [zT (show (k : Int) < xs.length by omega), zT (show (0 : Int) <= k by omega)]; simp only [zC]; cases aheadT f x with
   | true =>
     rw [zC, zT (by omega), zC, zT (by omega), zC, zT (by omega), zC, zT (by omega), zC, if_pos rfl]; rw [z06e hs l N (k + 1) _ _ g3 (by rw [zd (by omega) (by omega)]; omega) (by simp; omega) (by omega)]; simp
   | false =>
     rw [zD, zT (by omega), zC, zT (by omega), zC, if_neg (by simp)]; rw [z09s hs l N (k + 1) _ _ g3 (by rw [zd (by omega) (by omega)]; omega) (by simp; omega) (by omega)]; simp
theorem z0db {l : List Found} {f : Found} (hs : l.length < 4294967296) : zgz (l, f) = some (insT l f) := by
 refine zy (l.length + 1) fun N hN => ?_
 have := z09s (f := f) hs l N 0 0 [] rfl rfl (by simpa using hs) (by omega); rw [List.nil_append] at this; exact this
def pagesT (b : Nat) : Nat -> List Page -> List Found -> List Found
 | _, [], out => out
 | p, pg :: l, out => pagesT b (p + 1) l (if (lookT pg).1 = 1 /\ 0 <= placeT b p then insT out ⟨placeT b p, (lookT pg).2⟩ else out)
def blocksT : Nat -> List Block -> List Found -> List Found
 | _, [], out => out
 | b, x :: l, out => blocksT (b + 1) l (pagesT b 0 x.pages out)
def allT (c : Chip) : List Found := blocksT 0 c.blocks []
def z1j (c : Chip) : Prop := ∀ b ∈ c.blocks, ∀ p ∈ b.pages, PageOk p
theorem zk4 (b : Nat) : ∀ (l : List Page) (p : Nat) (out : List Found), out.length <= min (16 * b + min p 16) 512 -> (pagesT b p l out).length <= min (16 * (b + 1)) 512
 | [], p, out, h => by
   unfold pagesT; omega
 | pg :: l, p, out, h => by
   unfold pagesT; refine zk4 b l (p + 1) _ ?_; split
   · rename_i hc; have h2 := hc.2; unfold placeT at h2; split at h2
     · omega
     · rw [zst]; omega
   · omega
theorem z01g {b p : Nat} (h : 0 <= placeT b p) : b < 32 /\ p < 16 := by
 unfold placeT at h; split at h <;> omega
theorem z09t {ih0 : List Found × Int × Chip -> Option (List Found)} {c : Chip} (hc : z02 c) (hp : z1j c) {b : Nat} (hb : b < c.blocks.length) {bi : Int} (hbi : bi = b) : ∀ (l : List Page) (N p : Nat) (i : Int) (out : List Found), (c.blocks.getD b default).pages.drop p = l -> i = p -> out.length <= min (16 * b + min p 16) 512 -> l.length < N -> ze (za4 ih0) N (out, bi, i, c) = ih0 (pagesT b p l out, ((b + 1 : Nat) : Int), c)
 | l, 0, _, _, _, _, _, _, h => by omega
 | [], N + 1, p, i, out, h1, h2, h3, _ => by
   have h4 := zl h1; have h5 := hc.1; subst hbi; rw [z6, zb5]; unfold z5d; simp only [Int.toNat_natCast, pagesT]; rw [zT (show (0 : Int) <= b by omega), zT (show (b : Int) < c.blocks.length by omega), zF (show ¬ i < ((c.blocks.getD b default).pages.length : Int) by omega), zd (n := (b : Int) + 1) (by omega) (by omega)]; rfl
 | pg :: l, N + 1, p, i, out, h1, h2, h3, h4 => by
   obtain ⟨g1, g2, g3⟩ := zh h1; have h5 := hc.1; have h6 := hc.get hb default; subst hbi; subst h2; have hpg : PageOk pg := by
    have := hp _ (z0a (d := default) hb) pg; apply this
    rw [<- g2 default]; exact z0a g1
   have e1 : w64 ((p : Int) + 1) = ((p + 1 : Nat) : Int) := by rw [zd (by omega) (by omega)]; rfl
   have hol : out.length < 4294967296 := by omega
   rw [z6, zb5]; unfold z5d; simp only [Int.toNat_natCast, g2, zvt hpg, z7, ziu, z0db hol, e1]; rw [zT (show (0 : Int) <= b by omega), zT (show (b : Int) < c.blocks.length by omega), zT (show (p : Int) < ((c.blocks.getD b default).pages.length : Int) by omega), zT (show (0 : Int) <= p by omega)]; simp only [zC]; have ih := fun out' h => z09t (ih0 := ih0) hc hp hb (rfl : (b : Int) = b) l N (p + 1) _ out' g3 rfl h (by simp at h4; omega)
   rw [pagesT]; by_cases c1 : (lookT pg).1 = 1
   · rw [zT c1, zC]; by_cases c2 : 0 <= placeT b p
     · have := z01g c2; rw [zT c2, zC, if_pos ⟨c1, c2⟩]; exact ih _ (by rw [zst]; omega)
     · rw [zF c2, zD, if_neg (fun h => c2 h.2)]; exact ih _ (by omega)
   · rw [zF c1, zD, if_neg (fun h => c1 h.1)]; exact ih _ (by omega)
theorem z09u {c : Chip} (hc : z02 c) (hp : z1j c) {M : Nat} (hM : 4294967296 < M) : ∀ (l : List Block) (N b : Nat) (i : Int) (out : List Found), c.blocks.drop b = l -> i = b -> out.length <= min (16 * b) 512 -> l.length < N -> ze (za5 M) N (out, i, c) = some (blocksT b l out)
 | l, 0, _, _, _, _, _, _, h => by omega
 | [], N + 1, b, i, out, h1, h2, h3, _ => by
   have h4 := zl h1; rw [z6, zb6]; unfold z5e; simp only [blocksT]; rw [zF (by omega), zD]
 | x :: l, N + 1, b, i, out, h1, h2, h3, h4 => by
   obtain ⟨g1, g2, g3⟩ := zh h1; have h6 := hc.get g1 default; subst h2; rw [z6, zb6]; unfold z5e; simp only [blocksT]; rw [zT (show (b : Int) < c.blocks.length by omega), zC, z09t hc hp g1 rfl _ M 0 0 out rfl rfl (by omega) (by rw [List.drop_zero]; omega), List.drop_zero, g2]; rw [g2] at h6; exact z09u hc hp hM l N (b + 1) _ _ g3 rfl (zk4 b _ 0 out (by omega)) (by simp at h4; omega)
theorem z0dc {c : Chip} (hc : z02 c) (hp : z1j c) : zh0 c = some (allT c) := by
 have := hc.1; refine zy 4294967297 fun N hN => ?_
 exact z09u hc hp (by omega) c.blocks N 0 0 [] rfl rfl (by simp) (by omega)
theorem zob : ∀ (l : List Block) (b : Nat) (out : List Found), out.length <= min (16 * b) 512 -> (blocksT b l out).length <= 512
 | [], b, out, h => by unfold blocksT; omega
 | x :: l, b, out, h => by
   unfold blocksT; exact zob l (b + 1) _ (zk4 b _ 0 out (by omega))
theorem z01h (c : Chip) : (allT c).length <= 512 := zob _ 0 [] (by simp)
def tabT (n : Int) : Table := ⟨List.replicate (min n.toNat 64) (-1), List.replicate (min n.toNat 64) (-1)⟩
theorem zvy {n : Int} : ∀ (m N k : Nat) (i : Int), k + m = min n.toNat 64 -> i = k -> m < N -> ze z9y N (n, i, List.replicate k (-1), List.replicate k (-1)) = some (tabT n)
 | m, 0, _, _, _, _, h => by omega
 | 0, N + 1, k, i, h1, h2, _ => by
   rw [z6, zb3]; unfold z54 tabT; simp only; rw [show k = min n.toNat 64 by omega]; by_cases c1 : i < n
   · rw [zT c1, zC, zF (by omega), zD]
   · rw [zF c1, zD]
 | m + 1, N + 1, k, i, h1, h2, h3 => by
   subst h2; rw [z6, zb3]; unfold z54; simp only [List.length_replicate, List.length_singleton]; rw [zT (show (k : Int) < n by omega), zT (show (k : Int) < 64 by omega), zT (by omega), zT (by omega)]; simp only [zC]; rw [<- List.replicate_succ']; exact zvy m N (k + 1) _ (by omega) (by rw [zd (by omega) (by omega)]; omega) (by omega)
theorem zz2 (n : Int) : zgw n = some (tabT n) := by
 refine zy 65 fun N hN => ?_
 exact zvy (min n.toNat 64) N 0 0 (by omega) rfl (by omega)
def TabOk (t : Table) : Prop := t.map.length < 4294967296 /\ t.by_.length < 4294967296
def app1 (f : Found) (i : Nat) (k : Int) (t : Table) : Table :=
 if 0 <= k /\ k < t.map.length /\ k < t.by_.length then
  if f.record.kind = 1 then ⟨t.map.set k.toNat f.place, t.by_.set k.toNat f.place⟩
  else if f.record.kind = 2 /\ i < f.record.values.length then ⟨t.map.set k.toNat (f.record.values.getD i 0), t.by_.set k.toNat f.place⟩
  else t
 else t
def appL (f : Found) : Nat -> List Int -> Table -> Table
 | _, [], t => t
 | i, k :: l, t => appL f (i + 1) l (app1 f i k t)
def applyT (t : Table) (f : Found) : Table := appL f 0 f.record.keys t
theorem z08m (f : Found) (i : Nat) (k : Int) (t : Table) : (app1 f i k t).map.length = t.map.length /\ (app1 f i k t).by_.length = t.by_.length := by
 unfold app1; split
 · split
   · simp
   · split <;> simp
 · simp
theorem z01i (f : Found) : ∀ (l : List Int) (i : Nat) (t : Table), (appL f i l t).map.length = t.map.length /\ (appL f i l t).by_.length = t.by_.length
 | [], i, t => ⟨rfl, rfl⟩
 | k :: l, i, t => by
   unfold appL; obtain ⟨h1, h2⟩ := z01i f l (i + 1) (app1 f i k t); obtain ⟨h3, h4⟩ := z08m f i k t; exact ⟨h1.trans h3, h2.trans h4⟩
theorem zk5 (t : Table) (f : Found) : (applyT t f).map.length = t.map.length /\ (applyT t f).by_.length = t.by_.length := z01i f _ 0 t
theorem z01j {f : Found} (hk : f.record.keys.length < 4294967296) (hv : f.record.values.length < 4294967296) : ∀ (l : List Int) (N i : Nat) (ii : Int) (t : Table), f.record.keys.drop i = l -> ii = i -> TabOk t -> l.length < N -> ze z65 N (ii, f, t.map, t.by_) = some (appL f i l t)
 | l, 0, _, _, _, _, _, _, h => by omega
 | [], N + 1, i, ii, t, h1, h2, h3, _ => by
   have h4 := zl h1; rw [z6, z7x]; unfold z30; simp only [appL]; rw [zF (by omega), zD]
 | k :: l, N + 1, i, ii, t, h1, h2, h3, h4 => by
   obtain ⟨g1, g2, g3⟩ := zh h1; subst h2; have e1 : w64 ((i : Int) + 1) = ((i + 1 : Nat) : Int) := by rw [zd (by omega) (by omega)]; rfl
   have ih := fun t' h => z01j hk hv l N (i + 1) _ t' g3 rfl h (by simp at h4; omega)
   have ihs := ih t h3; rw [z6, z7x]; unfold z30; simp only [Int.toNat_natCast, g2, e1, appL]; rw [zT (show (i : Int) < f.record.keys.length by omega), zT (show (0 : Int) <= i by omega)]; simp only [zC]; unfold app1; by_cases c1 : k < 0
   · rw [zT c1, zC, if_neg (by omega)]; exact ihs
   · rw [zF c1, zD]; by_cases c2 : (t.map.length : Int) <= k
     · rw [zT c2, zC, if_neg (by omega)]; exact ihs
     · rw [zF c2, zD]; by_cases c3 : (t.by_.length : Int) <= k
       · rw [zT c3, zC, if_neg (by omega)]; exact ihs
       · rw [zF c3, zD, if_pos (by omega), zT (show 0 <= k by omega), zT (show k < t.map.length by omega), zT (show k.toNat < t.map.length by omega), zT (show k < t.by_.length by omega), zT (show k.toNat < t.by_.length by omega)]; simp only [zC]; by_cases c4 : f.record.kind = 1
         · rw [zT c4, zC, if_pos c4]; exact ih ⟨t.map.set k.toNat f.place, t.by_.set k.toNat f.place⟩ ⟨by simpa using h3.1, by simpa using h3.2⟩
         · rw [zF c4, zD, if_neg c4]; by_cases c5 : f.record.kind = 2
           · rw [zT c5, zC]; by_cases c6 : i < f.record.values.length
             · rw [zT (show (i : Int) < f.record.values.length by omega), zC, zC, if_pos ⟨c5, c6⟩]; exact ih ⟨t.map.set k.toNat (f.record.values.getD i 0), t.by_.set k.toNat f.place⟩ ⟨by simpa using h3.1, by simpa using h3.2⟩
             · rw [zF (show ¬ (i : Int) < f.record.values.length by omega), zD, if_neg (fun h => c6 h.2)]; exact ihs
           · rw [zF c5, zD, if_neg (fun h => c5 h.1)]; exact ihs
theorem zsu {t : Table} {f : Found} (ht : TabOk t) (hr : RecOk f.record) : zbq (t, f) = some (applyT t f) := by
 have h1 := ht.1; have h2 := ht.2; have h3 := hr.1; refine zy 4294967297 fun N hN => ?_
 show z6j N t f = _; unfold z6j; rw [zT (by omega), zC, zT (by omega), zC, zT (by omega), zC, zT (by omega), zC]; exact z01j h3 hr.2 _ N 0 0 t rfl rfl ht (by omega)
theorem zvz {f : Found} (hk : f.record.keys.length < 4294967296) (hv : f.record.values.length < 4294967296) : ∀ (l : List Int) (N i : Nat) (ii : Int) (t : Table), f.record.keys.drop i = l -> ii = i -> TabOk t -> l.length < N -> ze z0l N (f.record.keys, (f.record.keys.length : Int), ii, f, t.map, t.by_) = some (appL f i l t)
 | l, 0, _, _, _, _, _, _, h => by omega
 | [], N + 1, i, ii, t, h1, h2, h3, _ => by
   have h4 := zl h1; rw [z6, z6f]; unfold z2g; simp only [appL]; rw [zF (by omega), zD]
 | k :: l, N + 1, i, ii, t, h1, h2, h3, h4 => by
   obtain ⟨g1, g2, g3⟩ := zh h1; subst h2; have e1 : w64 ((i : Int) + 1) = ((i + 1 : Nat) : Int) := by rw [zd (by omega) (by omega)]; rfl
   have ih := fun t' h => zvz hk hv l N (i + 1) _ t' g3 rfl h (by simp at h4; omega)
   have ihs := ih t h3; have hval : zac (f, (i : Int)) = some (if f.record.kind = 1 then (f.place, true) else if f.record.kind = 2 /\ i < f.record.values.length then (f.record.values.getD i 0, true) else (-1, false)) := by
    show z5l f i = _; unfold z5l; by_cases c4 : f.record.kind = 1
    · rw [zT c4, zC, if_pos c4]
    · rw [zF c4, zD, if_neg c4]; by_cases c5 : f.record.kind = 2
      · rw [zT c5, zC]; by_cases c6 : i < f.record.values.length
        · rw [zT (show (i : Int) < f.record.values.length by omega), zC, if_pos ⟨c5, c6⟩, zT (show (0 : Int) <= i by omega), zC, zC, Int.toNat_natCast]
        · rw [zF (show ¬ (i : Int) < f.record.values.length by omega), zD, if_neg (fun h => c6 h.2)]
      · rw [zF c5, zD, if_neg (fun h => c5 h.1)]
   rw [z6, z6f]; unfold z2g; simp only [Int.toNat_natCast, g2, e1, appL, hval, z7]; rw [zT (show (i : Int) < f.record.keys.length by omega), zT (show (0 : Int) <= i by omega)]; simp only [zC]; have hin : ∀ (v : Int) (X : Table), (0 <= k /\ k < t.map.length /\ k < t.by_.length -> X = ⟨t.map.set k.toNat v, t.by_.set k.toNat f.place⟩) -> (¬ (0 <= k /\ k < t.map.length /\ k < t.by_.length) -> X = t) ->
    (cond (decide (k < 0)) (ze z0l N (f.record.keys, (f.record.keys.length : Int), ((i + 1 : Nat) : Int), f, t.map, t.by_))
    (cond (decide ((min (t.map.length : Int) (t.by_.length : Int)) <= k)) (ze z0l N (f.record.keys, (f.record.keys.length : Int), ((i + 1 : Nat) : Int), f, t.map, t.by_))
      (cond (decide (0 <= k)) (cond (decide (k < (t.map.length : Int))) (cond (decide (k.toNat < t.map.length)) (cond (decide (0 <= k)) (cond (decide (k < (t.by_.length : Int))) (cond (decide (k.toNat < t.by_.length)) (ze z0l N (f.record.keys, (f.record.keys.length : Int), ((i + 1 : Nat) : Int), f, t.map.set k.toNat v, t.by_.set k.toNat f.place)) none) none) none) none) none) none))) = some (appL f (i + 1) l X) := by
    intro v X hX1 hX2; by_cases c1 : k < 0
    · rw [zT c1, zC, hX2 (by omega)]; exact ihs
    · rw [zF c1, zD]; by_cases c2 : min (t.map.length : Int) (t.by_.length : Int) <= k
      · rw [zT c2, zC, hX2 (by omega)]; exact ihs
      · rw [zF c2, zD, zT (show 0 <= k by omega), zT (show k < t.map.length by omega), zT (show k.toNat < t.map.length by omega), zT (show k < t.by_.length by omega), zT (show k.toNat < t.by_.length by omega)]; simp only [zC]; rw [hX1 (by omega)]; exact ih ⟨t.map.set k.toNat v, t.by_.set k.toNat f.place⟩ ⟨by simpa using h3.1, by simpa using h3.2⟩
   by_cases c4 : f.record.kind = 1
   · rw [if_pos c4, Bool.not_true, zD]; exact hin f.place _ (fun h => by unfold app1; rw [if_pos h, if_pos c4]) (fun h => by unfold app1; rw [if_neg h])
   · rw [if_neg c4]; by_cases c5 : f.record.kind = 2 /\ i < f.record.values.length
     · rw [if_pos c5, Bool.not_true, zD]; exact hin (f.record.values.getD i 0) _ (fun h => by unfold app1; rw [if_pos h, if_neg c4, if_pos c5]) (fun h => by unfold app1; rw [if_neg h])
     · rw [if_neg c5, Bool.not_false, zC]; have : app1 f i k t = t := by
        unfold app1; split
        · first | rfl | rw [if_neg c4, if_neg c5]
        · rfl
       rw [this]; exact ihs
theorem zpv {t : Table} {f : Found} (ht : TabOk t) (hr : RecOk f.record) : zad (t, f) = some (applyT t f) := by
 have h1 := ht.1; have h2 := ht.2; have h3 := hr.1; refine zy 4294967297 fun N hN => ?_
 show z5m N t f = _; unfold z5m; rw [zT (by omega), zC, zT (by omega), zC, zT (by omega), zC, zT (by omega), zC]; exact zvz h3 hr.2 _ N 0 0 t rfl rfl ht (by omega)
end Clk
namespace Clk
open Go
def repL : List Found -> Table -> Int -> Table × Int
 | [], t, s => (t, s)
 | f :: l, t, s => repL l (applyT t f) (max s (w64 (f.record.seq + 1)))
def replayT (c : Chip) (n : Int) : Table × Int := repL (allT c) (tabT n) 0
def z74 (l : List Found) : Prop := ∀ f ∈ l, RecOk f.record
theorem zee {s : Str} (h : s.length < 4294967296) : (zf s).1.length < 4294967296 /\ (zf s).2.1.length < 4294967296 := by
 have := z0w s; omega
theorem z0bd {tag data : Str} (h : tag.length < 4294967296) : RecOk (decT tag data).1 := by
 obtain ⟨h1, h2⟩ := zee h; obtain ⟨h3, h4⟩ := zee h2; obtain ⟨h5, h6⟩ := zee h4; unfold decT; split
 · exact ⟨by simp [zRec], by simp [zRec]⟩
 · split
   · exact ⟨by simp [zRec], by simp [zRec]⟩
   · exact ⟨h3, by simp only [mvT, List.length_map]; exact h5⟩
theorem z08n {p : Page} (h : PageOk p) : RecOk (lookT p).2 := by
 unfold lookT; split
 · exact ⟨by simp [zRec], by simp [zRec]⟩
 · split
   · exact ⟨by simp [zRec], by simp [zRec]⟩
   · exact z0bd h.1
theorem z06f : ∀ {l : List Found} {f : Found}, z74 l -> RecOk f.record -> z74 (insT l f)
 | [], f, _, h => by intro g hg; simp [insT] at hg; subst hg; exact h
 | x :: l, f, h1, h2 => by
   unfold insT; split
   · intro g hg; rcases List.mem_cons.1 hg with rfl | hg
     · exact h2
     · exact h1 g hg
   · intro g hg; rcases List.mem_cons.1 hg with rfl | hg
     · exact h1 _ List.mem_cons_self
     · exact z06f (fun g hg => h1 g (List.mem_cons_of_mem _ hg)) h2 g hg
theorem zw0 (b : Nat) : ∀ (l : List Page) (p : Nat) (out : List Found), (∀ pg ∈ l, PageOk pg) -> z74 out -> z74 (pagesT b p l out)
 | [], p, out, _, h => h
 | pg :: l, p, out, h1, h2 => by
   unfold pagesT; refine zw0 b l (p + 1) _ (fun q hq => h1 q (List.mem_cons_of_mem _ hq)) ?_; split
   · exact z06f h2 (z08n (h1 pg List.mem_cons_self))
   · exact h2
theorem zrd : ∀ (l : List Block) (b : Nat) (out : List Found), (∀ x ∈ l, ∀ p ∈ x.pages, PageOk p) -> z74 out -> z74 (blocksT b l out)
 | [], b, out, _, h => h
 | x :: l, b, out, h1, h2 => by
   unfold blocksT; exact zrd l (b + 1) _ (fun y hy => h1 y (List.mem_cons_of_mem _ hy)) (zw0 b _ 0 out (h1 x List.mem_cons_self) h2)
theorem z06g {c : Chip} (h : z1j c) : z74 (allT c) := zrd _ 0 [] h (fun _ h => by cases h)
theorem z01k : ∀ (l : List Found) (t : Table) (s : Int), (repL l t s).1.map.length = t.map.length /\ (repL l t s).1.by_.length = t.by_.length
 | [], t, s => ⟨rfl, rfl⟩
 | f :: l, t, s => by
   unfold repL; obtain ⟨h1, h2⟩ := z01k l (applyT t f) (max s (w64 (f.record.seq + 1))); obtain ⟨h3, h4⟩ := zk5 t f; exact ⟨h1.trans h3, h2.trans h4⟩
theorem zw1 {xs : List Found} (hs : xs.length < 4294967296) (hf : z74 xs) : ∀ (l : List Found) (N k : Nat) (i s : Int) (t : Table), xs.drop k = l -> i = k -> TabOk t -> l.length < N -> ze z4r N (xs, s, i, t) = some (repL l t s)
 | l, 0, _, _, _, _, _, _, _, h => by omega
 | [], N + 1, k, i, s, t, h1, h2, h3, _ => by
   have := zl h1; rw [z6, z6d]; unfold z2d; simp only [repL]; rw [zF (by omega), zD]
 | f :: l, N + 1, k, i, s, t, h1, h2, h3, h4 => by
   obtain ⟨g1, g2, g3⟩ := zh h1; subst h2; have hr : RecOk f.record := by rw [<- g2 default]; exact hf _ (z0a g1)
   obtain ⟨h5, h6⟩ := zk5 t f; have h7 := h3.1; have h8 := h3.2; rw [z6, z6d]; unfold z2d; simp only [Int.toNat_natCast, g2, repL, zsu h3 hr, z7]; rw [zT (show (k : Int) < xs.length by omega), zT (show (0 : Int) <= k by omega)]; simp only [zC]; exact zw1 hs hf l N (k + 1) _ _ _ g3 (by rw [zd (by omega) (by omega)]; omega) ⟨by omega, by omega⟩ (by simp at h4; omega)
theorem zz3 (n : Int) : TabOk (tabT n) := ⟨by simp [tabT]; omega, by simp [tabT]; omega⟩
theorem z08o {c : Chip} (hc : z02 c) (hp : z1j c) (n : Int) : za6 (c, n) = some (replayT c n) := by
 have := z01h c; refine zy 4294967297 fun N hN => ?_
 show z5f N c n = _; unfold z5f; rw [zz2, z7, z0dc hc hp, z7]; exact zw1 (by omega) (z06g hp) _ N 0 0 0 _ rfl rfl (zz3 n) (by omega)
def anyW : List Page -> Bool
 | [] => false
 | p :: l => p.written || anyW l
def fcT (bl : Block) (l : List Page) : Int := cond (anyW l) 2 (if bl.next = 0 then 0 else 2)
def stateT (c : Chip) (opn b : Int) : Int :=
 if b < 0 \/ (c.blocks.length : Int) <= b then 3
 else if (c.blocks.getD b.toNat default).bad = true then 3
 else if b = opn /\ 0 <= (c.blocks.getD b.toNat default).next /\ (c.blocks.getD b.toNat default).next < (c.blocks.getD b.toNat default).pages.length then 1
 else fcT (c.blocks.getD b.toNat default) (c.blocks.getD b.toNat default).pages
def pickL (c : Chip) (o : Int) : Nat -> List Block -> Int -> Int
 | _, [], best => best
 | i, x :: l, best => pickL c o (i + 1) l (if stateT c o i = 0 /\ (best < 0 \/ x.erases < (c.blocks.getD best.toNat default).erases) then (i : Int) else best)
def fitsT (g : Geometry) : Bool :=
 decide (1 <= g.blocks) && decide (g.blocks <= 32) && decide (2 <= g.pages) && decide (g.pages <= 16) && decide (1 <= g.sectors) && decide (g.sectors <= 64) && decide (0 <= g.spare) && decide (g.spare <= 32) && decide (2 * g.sectors < (g.blocks - 2 * g.spare - 3) * g.pages)
theorem z09v (g : Geometry) : z3i g = some (fitsT g) := by
 show z3h g = _; unfold z3h fitsT; by_cases c1 : 1 <= g.blocks
 · by_cases c2 : g.blocks <= 32
   · by_cases c3 : 2 <= g.pages
     · by_cases c4 : g.pages <= 16
       · by_cases c5 : 1 <= g.sectors
         · by_cases c6 : g.sectors <= 64
           · by_cases c7 : 0 <= g.spare
             · by_cases c8 : g.spare <= 32
               · have hm : -16000 <= (g.blocks - 2 * g.spare - 3) * g.pages /\ (g.blocks - 2 * g.spare - 3) * g.pages <= 16000 := by
                  have h1 : -100 <= g.blocks - 2 * g.spare - 3 := by omega
                  have h2 : g.blocks - 2 * g.spare - 3 <= 100 := by omega
                  generalize g.blocks - 2 * g.spare - 3 = x at h1 h2; constructor
                  · have := Int.mul_le_mul_of_nonneg_right h1 (show 0 <= g.pages by omega); omega
                  · have := Int.mul_le_mul_of_nonneg_right h2 (show 0 <= g.pages by omega); omega
                 rw [zd (n := 2 * g.sectors) (by omega) (by omega), zd (n := 2 * g.spare) (by omega) (by omega), zd (n := g.blocks - 2 * g.spare) (by omega) (by omega), zd (n := g.blocks - 2 * g.spare - 3) (by omega) (by omega), zd (n := (g.blocks - 2 * g.spare - 3) * g.pages) (by omega) (by omega)]; simp only [zT c1, zT c2, zT c3, zT c4, zT c5, zT c6, zT c7, zT c8, zC, Bool.true_and]
               · simp [c1, c2, c3, c4, c5, c6, c7, c8]
             · simp [c1, c2, c3, c4, c5, c6, c7]
           · simp [c1, c2, c3, c4, c5, c6]
         · simp [c1, c2, c3, c4, c5]
       · simp [c1, c2, c3, c4]
     · simp [c1, c2, c3]
   · simp [c1, c2]
 · simp [c1]
def badsL : List Block -> Int
 | [] => 0
 | b :: l => (if b.bad = true then 1 else 0) + badsL l
def badsT (c : Chip) : Int := badsL c.blocks
theorem z01l : ∀ (l : List Block), 0 <= badsL l /\ badsL l <= l.length
 | [] => by simp [badsL]
 | b :: l => by have := z01l l; unfold badsL; simp only [List.length_cons]; split <;> omega
theorem z06h {c : Chip} (hc : z02 c) : ∀ (l : List Block) (N k : Nat) (i s : Int), c.blocks.drop k = l -> i = k -> 0 <= s -> s <= k -> l.length < N -> ze z8b N (s, i, c) = some (s + badsL l)
 | l, 0, _, _, _, _, _, _, _, h => by omega
 | [], N + 1, k, i, s, h1, h2, h3, h4, _ => by
   have := zl h1; rw [z6, z9i]; unfold z41; simp only [badsL, Int.add_zero]; rw [zF (by omega), zD]
 | x :: l, N + 1, k, i, s, h1, h2, h3, h4, h5 => by
   obtain ⟨g1, g2, g3⟩ := zh h1; have hl := hc.1; subst h2; have e1 : w64 ((k : Int) + 1) = ((k + 1 : Nat) : Int) := by rw [zd (by omega) (by omega)]; rfl
   have ih := fun s' h h' => z06h hc l N (k + 1) _ s' g3 rfl h h' (by simp at h5; omega)
   rw [z6, z9i]; unfold z41; simp only [Int.toNat_natCast, g2, badsL, e1]; rw [zT (show (k : Int) < c.blocks.length by omega), zT (show (0 : Int) <= k by omega)]; simp only [zC]; cases hb : x.bad with
   | true => rw [zC, if_pos rfl, zd (n := s + 1) (by omega) (by omega), ih (s + 1) (by omega) (by omega)]; congr 1; omega
   | false => rw [zD, if_neg (by simp), ih s (by omega) (by omega)]; congr 1; omega
theorem z0cg {c : Chip} (hc : z02 c) : z9j c = some (badsT c) := by
 have := hc.1; refine zy 4294967297 fun N hN => ?_
 have := z06h hc c.blocks N 0 0 0 rfl rfl (by omega) (by omega) (by omega); rw [Int.zero_add] at this; exact this
def zDev : Device := ⟨⟨0, 0, 0, 0⟩, ⟨[], false, false, 0⟩, ⟨[], []⟩, 0, 0⟩
def mtL (g : Geometry) : Nat -> List Block -> Int -> Option Int
 | _, [], o => some o
 | i, b :: l, o => if (b.pages.length : Int) ≠ g.pages then none else mtL g (i + 1) l (if o < 0 /\ b.bad = false /\ 0 < b.next /\ b.next < g.pages then (i : Int) else o)
def mountT (g : Geometry) (c : Chip) : Device × Int :=
 if fitsT g = false \/ (c.blocks.length : Int) ≠ g.blocks then (zDev, 1)
 else match mtL g 0 c.blocks (-1) with
  | none => (zDev, 1)
  | some o => (⟨g, onT c, (replayT c g.sectors).1, (replayT c g.sectors).2, o⟩, 0)
theorem z01m {g : Geometry} {c : Chip} (hc : z02 c) (hp : z1j c) : ∀ (l : List Block) (N k : Nat) (i o : Int), c.blocks.drop k = l -> i = k -> l.length < N -> ze z68 N (o, i, g, c) = some (match mtL g k l o with
 | none => (zDev, 1)
 | some o => (⟨g, onT c, (replayT c g.sectors).1, (replayT c g.sectors).2, o⟩, 0))
 | l, 0, _, _, _, _, _, h => by omega
 | [], N + 1, k, i, o, h1, h2, _ => by
   have := zl h1; rw [z6, z83]; unfold z32; simp only [mtL]; rw [zF (by omega), zD, z08o hc hp, z7, s_On hc, z7]
 | x :: l, N + 1, k, i, o, h1, h2, h3 => by
   obtain ⟨g1, g2, g3⟩ := zh h1; have hl := hc.1; subst h2; have e1 : w64 ((k : Int) + 1) = ((k + 1 : Nat) : Int) := by rw [zd (by omega) (by omega)]; rfl
   have ih := fun o' => z01m (g := g) hc hp l N (k + 1) _ o' g3 rfl (by simp at h3; omega)
   rw [z6, z83]; unfold z32; simp only [Int.toNat_natCast, g2, mtL, e1]; rw [zT (show (k : Int) < c.blocks.length by omega), zT (show (0 : Int) <= k by omega)]; simp only [zC, ih]; by_cases c1 : (x.pages.length : Int) = g.pages
   · rw [zT c1, Bool.not_true, zD, if_neg (by simp [c1])]; by_cases c2 : o < 0
     · rw [zT c2, zC]; cases c3 : x.bad with
       | true => rw [Bool.not_true, zD, if_neg (by simp)]
       | false =>
         rw [Bool.not_false, zC]; by_cases c4 : 0 < x.next
         · rw [zT c4, zC]; by_cases c5 : x.next < g.pages
           · rw [zT c5, zC, if_pos ⟨c2, rfl, c4, c5⟩]
           · rw [zF c5, zD, if_neg (fun h => c5 h.2.2.2)]
         · rw [zF c4, zD, if_neg (fun h => c4 h.2.2.1)]
     · rw [zF c2, zD, if_neg (fun h => c2 h.1)]
   · rw [zF c1, Bool.not_false, zC, if_pos c1]; rfl
theorem z0be {g : Geometry} {c : Chip} (hc : z02 c) (hp : z1j c) : z6q (g, c) = some (mountT g c) := by
 have := hc.1; refine zy 4294967297 fun N hN => ?_
 show z6p N g c = _; unfold z6p mountT; rw [z09v, z7]; cases fitsT g with
 | false => rfl
 | true =>
   rw [Bool.not_true, zD]; by_cases c1 : (c.blocks.length : Int) = g.blocks
   · rw [zT c1, Bool.not_true, zD, if_neg (by simp [c1])]; exact z01m hc hp c.blocks N 0 0 (-1) rfl rfl (by omega)
   · rw [zF c1, Bool.not_false, zC, if_pos (.inr c1)]; rfl
def formatT (g : Geometry) (bad : List Int) : Device × Int :=
 if fitsT g = false \/ (newT g.blocks g.pages bad).2 ≠ 0 \/ g.spare < badsT (newT g.blocks g.pages bad).1 then (zDev, 1) else mountT g (newT g.blocks g.pages bad).1
theorem zz4 {n : Int} {m : Nat} : ∀ (l : List Int) (bs : List Block), (∀ b ∈ bs, b.pages.length <= 16 /\ ∀ p ∈ b.pages, p = zPage) -> bs.length = m -> (∀ b ∈ (newL n l bs).1.blocks, b.pages.length <= 16 /\ ∀ p ∈ b.pages, p = zPage) /\ ((newL n l bs).1.blocks.length = m \/ (newL n l bs).1.blocks.length = 0)
 | [], bs, h1, h2 => ⟨h1, .inl h2⟩
 | x :: l, bs, h1, h2 => by
   unfold newL; split
   · exact ⟨fun b hb => by simp [zChip] at hb, .inr rfl⟩
   · refine zz4 l _ (fun b hb => ?_) (by unfold zb2; simpa using h2); unfold zb2 at hb; by_cases hx : x.toNat < bs.length
     · rcases List.mem_or_eq_of_mem_set hb with h | rfl
       · exact h1 b h
       · exact h1 (bs.getD x.toNat default) (z0a hx)
     · rw [List.set_eq_of_length_le (by omega)] at hb; exact h1 b hb
theorem zz5 (n p : Int) (bad : List Int) : z02 (newT n p bad).1 /\ z1j (newT n p bad).1 := by
 unfold newT; split
 · exact ⟨⟨by simp [zChip], fun b hb => by simp [zChip] at hb⟩, fun b hb => by simp [zChip] at hb⟩
 · rename_i h; obtain ⟨h1, h2⟩ := zz4 (n := n) (m := n.toNat) bad (List.replicate n.toNat ⟨List.replicate p.toNat zPage, 0, 0, false⟩) (fun b hb => by
    obtain ⟨_, rfl⟩ := List.mem_replicate.1 hb; exact ⟨by simp; omega, fun q hq => (List.mem_replicate.1 hq).2⟩) (by simp)
   refine ⟨⟨by omega, fun b hb => by have := (h1 b hb).1; omega⟩, fun b hb q hq => ?_⟩; rw [(h1 b hb).2 q hq]; exact ⟨by simp [zPage], by simp [zPage]⟩
def DevOk (d : Device) : Prop := z02 d.chip /\ TabOk d.table
theorem zw2 {a b : Device} (ha : DevOk a) : z5w (a, b) = some (decide (a = b)) := by
 show z9h a b = _; unfold z9h; rw [zvw ha.1, zli ha.2.1, zli ha.2.2]; simp only [z7]; obtain ⟨⟨g1, g2, g3, g4⟩, c, ⟨m, by_⟩, s, o⟩ := a; obtain ⟨⟨g1', g2', g3', g4'⟩, c', ⟨m', by'⟩, s', o'⟩ := b; simp only [Device.mk.injEq, Geometry.mk.injEq, Table.mk.injEq]; by_cases c1 : g1 = g1' <;> by_cases c2 : g2 = g2' <;> by_cases c3 : g3 = g3' <;> by_cases c4 : g4 = g4' <;> simp [c1, c2, c3, c4]
 by_cases c5 : c = c'
 · by_cases c6 : m = m'
   · by_cases c7 : by_ = by'
     · by_cases c8 : s = s' <;> simp [c5, c6, c7, c8]
     · simp [c5, c6, c7]
   · simp [c5, c6]
 · simp [c5]
end Clk
namespace Clk
open Go
def zFate : Fate := ⟨0, [], [], 0⟩
def nextOf (c : Chip) (o : Int) : Int := (c.blocks.getD o.toNat default).next
theorem z08p {c : Chip} (h : z02 c) (b p : Int) (page : Page) (f : Fate) : z02 (progT c b p page f).1 := by
 unfold progT; split
 · exact h
 · split
   · rename_i hc; obtain ⟨h1, h2, _⟩ := z8c.1 hc; refine ⟨by simpa using h.1, fun x hx => ?_⟩; rcases List.mem_or_eq_of_mem_set hx with h3 | rfl
     · exact h.2 x h3
     · have := h.get (show b.toNat < c.blocks.length by omega) default; simpa [zit] using this
   · exact h
theorem zw3 (c : Chip) (b p : Int) (page : Page) (f : Fate) : (progT c b p page f).1.blocks.length = c.blocks.length := by
 unfold progT; split
 · rfl
 · split
   · simp
   · rfl
end Clk
namespace Clk
open Go
def smalls : List Geometry := [⟨8, 4, 5, 1⟩, ⟨5, 4, 3, 0⟩, ⟨12, 3, 5, 2⟩, ⟨6, 6, 8, 0⟩, ⟨16, 2, 4, 3⟩, ⟨10, 5, 12, 1⟩]
def smallT (n : Int) : Geometry := smalls.getD (n.toNat % 6) default
theorem z06i {n : Int} (h0 : 0 <= n) (h1 : n < 256) : z6s n = some (smallT n) := by
 show z6r n = _; unfold z6r; obtain ⟨k, rfl⟩ : ∃ k : Nat, n = k := ⟨n.toNat, by omega⟩; have e : Int.tmod (w64 (k : Int)) (([(Geometry.mk 8 4 5 1), (Geometry.mk 5 4 3 0), (Geometry.mk 12 3 5 2), (Geometry.mk 6 6 8 0), (Geometry.mk 16 2 4 3), (Geometry.mk 10 5 12 1)].length : Nat) : Int) = ((k % 6 : Nat) : Int) := by
  rw [zd (by omega) (by omega)]; exact z9k k 6
 rw [e, zF (by decide), Bool.not_false, zC, zT (show (0 : Int) <= ((k % 6 : Nat) : Int) by omega), zC, zT (by simp only [List.length_cons, List.length_nil]; omega), zC, zT (by simp only [List.length_cons, List.length_nil]; omega), zC]; rfl
theorem zz6 {P : Geometry -> Prop} (h : ∀ g ∈ smalls, P g) (n : Int) : P (smallT n) := h _ (z0a (by show n.toNat % 6 < 6; omega))
def pk (l : List Int) (i : Nat) (n : Int) : Int := l.getD i 0 % n
def mkL (l : List Int) (kind : Int) : Nat -> Nat -> Int -> List Int × List Int
 | 0, _, _ => ([], [])
 | n + 1, at_, key => if key < 64 then
    (if kind = 2 then (key :: (mkL l kind n (at_ + 2) (key + 1 + pk l at_ 10)).1, (pk l (at_ + 1) 513 - 1) :: (mkL l kind n (at_ + 2) (key + 1 + pk l at_ 10)).2)
     else (key :: (mkL l kind n (at_ + 1) (key + 1 + pk l at_ 10)).1, (mkL l kind n (at_ + 1) (key + 1 + pk l at_ 10)).2))
   else ([], [])
def madeT (l : List Int) : Record :=
 ⟨1 + pk l 0 2, pk l 1 60000 * (1 + pk l 2 1000), (mkL l (1 + pk l 0 2) (pk l 4 8 + 1).toNat 5 (pk l 3 20)).1, (mkL l (1 + pk l 0 2) (pk l 4 8 + 1).toNat 5 (pk l 3 20)).2⟩
def U16 (l : List Int) : Prop := ∀ n ∈ l, 0 <= n /\ n < 65536
theorem U16.get {l : List Int} (h : U16 l) (i : Nat) : 0 <= l.getD i 0 /\ l.getD i 0 < 65536 := by
 by_cases hi : i < l.length
 · exact h _ (z0a hi)
 · rw [zI, List.getElem?_eq_none (by omega)]; exact ⟨Int.le_refl 0, show (0 : Int) < 65536 by omega⟩
theorem z18 {l : List Int} {i : Nat} (h : l.length <= i) (n : Int) : pk l i n = 0 := by
 unfold pk; rw [zI, List.getElem?_eq_none h]; simp
theorem z9l {l : List Int} (h : U16 l) (i : Nat) {n : Int} (hn : 0 < n) : 0 <= pk l i n /\ pk l i n < n := ⟨Int.emod_nonneg _ (by omega), Int.emod_lt_of_pos _ hn⟩
theorem z06j {l : List Int} (h : U16 l) (i : Nat) (n : Int) : Int.tmod (w64 (l.getD i 0)) n = pk l i n := by
 have := h.get i; rw [zd (by omega) (by omega), Int.tmod_eq_emod_of_nonneg this.1]; rfl
theorem z06k {l : List Int} (hl : U16 l) (hn : l.length < 9223372036854775808) {kind seq : Int} : ∀ (n N at_ : Nat) (cnt key ati : Int) (ks vs : List Int), cnt = (n : Int) - 1 -> ati = at_ -> n <= 9 -> at_ + 2 * n <= 4294967296 -> 0 <= key -> key <= 100 -> ks.length + n <= 100 -> vs.length + n <= 100 -> n < N ->
 ze za N (key, cnt, l, kind, seq, ati, ks, vs) = some ⟨kind, seq, ks ++ (mkL l kind n at_ key).1, vs ++ (mkL l kind n at_ key).2⟩
 | n, 0, _, _, _, _, _, _, _, _, _, _, _, _, _, _, h => by omega
 | 0, N + 1, at_, cnt, key, ati, ks, vs, h1, h2, _, _, _, _, _, _, _ => by
   rw [z6, z92]; unfold z3v; simp only [mkL, List.append_nil]; rw [zF (by omega), zD]
 | n + 1, N + 1, at_, cnt, key, ati, ks, vs, h1, h2, h3, h4, h5, h6, h7, h8, h9 => by
   subst h2; rw [z6, z92]; unfold z3v; simp only [mkL]; rw [zT (show 0 <= cnt by omega), zC]; by_cases hk : key < 64
   · have p1 := z9l hl at_ (n := 10) (by omega); have p2 := z9l hl (at_ + 1) (n := 513) (by omega); have ih := fun (a : Nat) (ha : a + 2 * n <= 4294967296) (k' : Int) (hk' : 0 <= k' /\ k' <= 100) (ks' vs' : List Int) (hks : ks'.length + n <= 100) (hvs : vs'.length + n <= 100) => z06k hl hn (kind := kind) (seq := seq) n N a (w64 (cnt - 1)) k' (a : Int) ks' vs' (by rw [zd (by omega) (by omega)]; omega) rfl (by omega) ha hk'.1 hk'.2 hks hvs (by omega)
     rw [zT hk, zC, if_pos hk, zT (by simp only [List.length_singleton]; omega), zC, zT (by simp only [List.length_singleton]; omega), zC]; have w1 : w64 ((at_ : Int) + 1) = ((at_ + 1 : Nat) : Int) := by rw [zd (by omega) (by omega)]; rfl
     have w2 : w64 (((at_ + 1 : Nat) : Int) + 1) = ((at_ + 2 : Nat) : Int) := by rw [zd (by omega) (by omega)]; rfl
     have w3 : w64 (((at_ + 1 : Nat) : Int) - 1) = (at_ : Int) := by rw [zd (by omega) (by omega)]; omega
     have w4 : w64 (((at_ + 2 : Nat) : Int) - 1) = ((at_ + 1 : Nat) : Int) := by rw [zd (by omega) (by omega)]; omega
     have w5 : w64 (key + 1) = key + 1 := zd (by omega) (by omega); have w6 : w64 (key + 1 + pk l at_ 10) = key + 1 + pk l at_ 10 := zd (by omega) (by omega); have w7 : w64 (pk l (at_ + 1) 513 - 1) = pk l (at_ + 1) 513 - 1 := zd (by omega) (by omega); simp only [w1, w2, w3, w4, w5, Int.toNat_natCast, z06j hl, w6, w7]; have v1 : [key].length = 1 := rfl; by_cases c2 : kind = 2
     · simp only [zT c2, zC, if_pos c2]; by_cases c1 : l.length < at_ + 1
       · have z := z18 (show l.length <= at_ by omega) 10; have z2 := z18 (show l.length <= at_ + 1 by omega) 513; rw [zT (show (l.length : Int) < ((at_ + 1 : Nat) : Int) by omega), zC, zT (show (l.length : Int) < ((at_ + 2 : Nat) : Int) by omega), zC, zT (by simp only [List.length_singleton]; omega), zC, zT (by simp only [List.length_singleton]; omega), zC, z, z2, zd (n := key + 1 + 0) (by omega) (by omega)]; rw [ih (at_ + 2) (by omega) _ (by omega) _ _ (by simp only [List.length_append, List.length_singleton]; omega) (by simp only [List.length_append, List.length_singleton]; omega)]; simp
       · rw [zF (show ¬ (l.length : Int) < ((at_ + 1 : Nat) : Int) by omega), zD, zT (show (0 : Int) <= (at_ : Int) by omega), zC, zT (show (at_ : Int) < l.length by omega), zC]; by_cases c3 : l.length < at_ + 2
         · have z2 := z18 (show l.length <= at_ + 1 by omega) 513; rw [zT (show (l.length : Int) < ((at_ + 2 : Nat) : Int) by omega), zC, zT (by simp only [List.length_singleton]; omega), zC, zT (by simp only [List.length_singleton]; omega), zC, z2]; rw [ih (at_ + 2) (by omega) _ (by omega) _ _ (by simp only [List.length_append, List.length_singleton]; omega) (by simp only [List.length_append, List.length_singleton]; omega)]; simp
         · rw [zF (show ¬ (l.length : Int) < ((at_ + 2 : Nat) : Int) by omega), zD, zT (show (0 : Int) <= ((at_ + 1 : Nat) : Int) by omega), zC, zT (show ((at_ + 1 : Nat) : Int) < l.length by omega), zC, zT (by simp only [List.length_singleton]; omega), zC, zT (by simp only [List.length_singleton]; omega), zC]; rw [ih (at_ + 2) (by omega) _ (by omega) _ _ (by simp only [List.length_append, List.length_singleton]; omega) (by simp only [List.length_append, List.length_singleton]; omega)]; simp
     · simp only [zF c2, zD, if_neg c2]; by_cases c1 : l.length < at_ + 1
       · have z := z18 (show l.length <= at_ by omega) 10; rw [zT (show (l.length : Int) < ((at_ + 1 : Nat) : Int) by omega), zC, z, zd (n := key + 1 + 0) (by omega) (by omega)]; rw [ih (at_ + 1) (by omega) _ (by omega) _ _ (by simp only [List.length_append, List.length_singleton]; omega) (by omega)]; simp
       · rw [zF (show ¬ (l.length : Int) < ((at_ + 1 : Nat) : Int) by omega), zD, zT (show (0 : Int) <= (at_ : Int) by omega), zC, zT (show (at_ : Int) < l.length by omega), zC]; rw [ih (at_ + 1) (by omega) _ (by omega) _ _ (by simp only [List.length_append, List.length_singleton]; omega) (by omega)]; simp
   · rw [zF hk, zD, if_neg hk]; simp
theorem zw4 {l : List Int} (hl : U16 l) (hn : l.length < 9223372036854775808) : ze3 l = some (madeT l) := by
 refine zy 10 fun N hN => ?_
 have q0 := z9l hl 0 (n := 2) (by omega); have q1 := z9l hl 1 (n := 60000) (by omega); have q2 := z9l hl 2 (n := 1000) (by omega); have q3 := z9l hl 3 (n := 20) (by omega); have q4 := z9l hl 4 (n := 8) (by omega); have key := fun kind seq => z06k hl hn (kind := kind) (seq := seq) (pk l 4 8 + 1).toNat N 5 (pk l 4 8) (pk l 3 20) 5 [] [] (by omega) rfl (by omega) (by omega) (by omega) (by omega) (by simp; omega) (by simp; omega) (by omega)
 simp only [List.nil_append] at key; have hm : 0 <= pk l 1 60000 * (1 + pk l 2 1000) /\ pk l 1 60000 * (1 + pk l 2 1000) <= 60000 * 1001 := by
  refine ⟨Int.mul_nonneg q1.1 (by omega), Int.mul_le_mul (by omega) (by omega) (by omega) (by omega)⟩
 have w0 : w64 (1 + pk l 0 2) = 1 + pk l 0 2 := zd (by omega) (by omega); have w1 : w64 (1 + pk l 2 1000) = 1 + pk l 2 1000 := zd (by omega) (by omega); have w2 : w64 (pk l 1 60000 * (1 + pk l 2 1000)) = pk l 1 60000 * (1 + pk l 2 1000) := zd (by omega) (by omega); unfold ze2 madeT; simp only [z06j hl, w0, w1, w2]; by_cases c1 : l.length < 1
 · simp only [z18 (show l.length <= 0 by omega), z18 (show l.length <= 1 by omega), z18 (show l.length <= 2 by omega), z18 (show l.length <= 3 by omega), z18 (show l.length <= 4 by omega)] at key ⊢; rw [zT (show (l.length : Int) < 1 by omega), zC, zT (show (l.length : Int) < 2 by omega), zC, zT (show (l.length : Int) < 3 by omega), zC, zT (show (l.length : Int) < 4 by omega), zC, zT (show (l.length : Int) < 5 by omega), zC]; exact key 1 0
 · rw [zF (show ¬ (l.length : Int) < 1 by omega), zD, zT (show (0 : Int) < l.length by omega), zC]; by_cases c2 : l.length < 2
   · simp only [z18 (show l.length <= 1 by omega), z18 (show l.length <= 2 by omega), z18 (show l.length <= 3 by omega), z18 (show l.length <= 4 by omega)] at key ⊢; rw [zT (show (l.length : Int) < 2 by omega), zC, zT (show (l.length : Int) < 3 by omega), zC, zT (show (l.length : Int) < 4 by omega), zC, zT (show (l.length : Int) < 5 by omega), zC]; exact key _ 0
   · rw [zF (show ¬ (l.length : Int) < 2 by omega), zD, zT (show (1 : Int) < l.length by omega), zC]; by_cases c3 : l.length < 3
     · simp only [z18 (show l.length <= 2 by omega), z18 (show l.length <= 3 by omega), z18 (show l.length <= 4 by omega)] at key ⊢; rw [zT (show (l.length : Int) < 3 by omega), zC, zT (show (l.length : Int) < 4 by omega), zC, zT (show (l.length : Int) < 5 by omega), zC, zd (n := pk l 1 60000 * 1) (by omega) (by omega)]; exact key _ _
     · rw [zF (show ¬ (l.length : Int) < 3 by omega), zD, zT (show (2 : Int) < l.length by omega), zC]; by_cases c4 : l.length < 4
       · simp only [z18 (show l.length <= 3 by omega), z18 (show l.length <= 4 by omega)] at key ⊢; rw [zT (show (l.length : Int) < 4 by omega), zC, zT (show (l.length : Int) < 5 by omega), zC]; exact key _ _
       · rw [zF (show ¬ (l.length : Int) < 4 by omega), zD, zT (show (3 : Int) < l.length by omega), zC]; by_cases c5 : l.length < 5
         · simp only [z18 (show l.length <= 4 by omega)] at key ⊢; rw [zT (show (l.length : Int) < 5 by omega), zC]; exact key _ _
         · rw [zF (show ¬ (l.length : Int) < 5 by omega), zD, zT (show (4 : Int) < l.length by omega), zC]; exact key _ _
theorem zz7 (l : List Int) (kind : Int) : ∀ (n a : Nat) (key : Int), (mkL l kind n a key).1.length <= n /\ (mkL l kind n a key).2.length <= n
 | 0, a, key => by simp [mkL]
 | n + 1, a, key => by
   unfold mkL; split
   · split
     · have := zz7 l kind n (a + 2) (key + 1 + pk l a 10); simp only [List.length_cons]; omega
     · have := zz7 l kind n (a + 1) (key + 1 + pk l a 10); simp only [List.length_cons]; omega
   · simp
theorem z08q {l : List Int} (hl : U16 l) : RecOk (madeT l) /\ (madeT l).keys.length <= 8 := by
 have q4 := z9l hl 4 (n := 8) (by omega); have := zz7 l (1 + pk l 0 2) (pk l 4 8 + 1).toNat 5 (pk l 3 20); unfold madeT RecOk; simp only; omega
end Clk
namespace Clk
open Go
theorem z08r (r : Record) (data : Str) : (encT r data).1.length <= 204 := by
 unfold encT; split
 · simp
 · rename_i h; have := zo6 (r := r) (by cases hr : z2w r with
    | true => rfl
    | false => exact absurd (.inl hr) h)
   simp only [List.length_append, bytes4, List.length_cons, List.length_nil]; omega
theorem z08s {w : Write} (h : WriteOk w) : PageOk (makeT w).1 := by
 have := z08r w.record w.data; unfold makeT; split
 · exact ⟨by simp, by simp⟩
 · exact ⟨by simp only; omega, h.2⟩
def pgT (seq : Int) (l : List Int) : Page := (makeT ⟨[100], ⟨(madeT l).kind, seq, (madeT l).keys, (madeT l).values⟩⟩).1
theorem z0ch {l : List Int} (hl : U16 l) (seq : Int) : WriteOk ⟨[100], ⟨(madeT l).kind, seq, (madeT l).keys, (madeT l).values⟩⟩ := ⟨(z08q hl).1, by simp⟩
theorem zw5 {seq : Int} {l : List Int} (hl : U16 l) (hn : l.length < 9223372036854775808) : z95 (seq, l) = some (pgT seq l) := by
 show z94 seq l = _; unfold z94; rw [zw4 hl hn, z7, zvu (z0ch hl seq)]; rfl
def z0i (l : List Int) (a : Nat) : Nat := min (a + 1 + (l.getD a 0).toNat / 50 % 8) l.length
def stepC (l : List Int) (m : Int) (a : Nat) (c : Chip) : Chip :=
 let n := l.getD a 0
 let page := pgT (n / 7 % 30) ((l.drop a).take (z0i l a - a))
 let f : Fate := if n % 11 = 0 then ⟨1, [120], page.tag, 0⟩ else zFate
 let c1 := if n % 29 = 0 then (eraT c (n % m) zFate).1 else c
 let r := progT c1 (n % m) (nextOf c1 (n % m)) page f
 if r.2 = 1 then c1 else r.1
def chipL (l : List Int) (m : Int) : Nat -> Nat -> Chip -> Chip
 | 0, _, c => c
 | k + 1, a, c => if a < l.length then chipL l m k (max (z0i l a) (a + 1)) (stepC l m a c) else c
def chipT (l : List Int) (blocks pages : Int) : Chip := chipL l blocks 40 0 (newT blocks pages []).1
theorem zsv {c : Chip} (h : z02 c) (b : Int) (f : Fate) : z02 (eraT c b f).1 /\ (eraT c b f).1.blocks.length = c.blocks.length := by
 unfold eraT; split
 · exact ⟨h, rfl⟩
 · split
   · rename_i hc; unfold canEra at hc; simp only [Bool.and_eq_true, decide_eq_true_eq] at hc; refine ⟨⟨by simpa using h.1, fun x hx => ?_⟩, by simp⟩; rcases List.mem_or_eq_of_mem_set hx with h3 | rfl
     · exact h.2 x h3
     · have := h.get (show b.toNat < c.blocks.length by omega) default; unfold zfx; split
       · exact this
       · simp only [z01c]; exact this
   · exact ⟨h, rfl⟩
theorem z06l (all : Bool) (n : Int) : ∀ (i : Nat) (l : List Page), (∀ p ∈ l, PageOk p) -> ∀ p ∈ clrT all n i l, PageOk p
 | _, [], _, p, hp => by cases hp
 | i, q :: l, h, p, hp => by
   unfold clrT at hp; rcases List.mem_cons.1 hp with rfl | hp
   · split
     · exact ⟨by simp [zPage], by simp [zPage]⟩
     · exact h _ List.mem_cons_self
   · exact z06l all n (i + 1) l (fun x hx => h x (List.mem_cons_of_mem _ hx)) p hp
theorem zre {c : Chip} (h : z1j c) (b : Int) (f : Fate) : z1j (eraT c b f).1 := by
 unfold eraT; split
 · exact h
 · split
   · rename_i hc; unfold canEra at hc; simp only [Bool.and_eq_true, decide_eq_true_eq] at hc; intro x hx; rcases List.mem_or_eq_of_mem_set hx with h3 | rfl
     · exact h x h3
     · have := h _ (z0a (d := default) (show b.toNat < c.blocks.length by omega)); unfold zfx; split
       · exact this
       · exact z06l _ _ 0 _ this
   · exact h
theorem zz8 {c : Chip} (h : z1j c) (b p : Int) {page : Page} {f : Fate} (hp : PageOk page) (hf : f.tag.length < 4294967296 /\ f.data.length < 4294967296) : z1j (progT c b p page f).1 := by
 unfold progT; split
 · exact h
 · split
   · rename_i hc; obtain ⟨h1, h2, _⟩ := z8c.1 hc; intro x hx; rcases List.mem_or_eq_of_mem_set hx with h3 | rfl
     · exact h x h3
     · have h4 := h _ (z0a (d := default) (show b.toNat < c.blocks.length by omega)); unfold zit; intro q hq; rcases List.mem_or_eq_of_mem_set hq with h5 | rfl
       · exact h4 q h5
       · split
         · exact ⟨hp.1, hp.2⟩
         · exact hf
   · exact h
theorem U16.sub {l m : List Int} (h : U16 l) (hm : ∀ n ∈ m, n ∈ l) : U16 m := fun n hn => h n (hm n hn)
theorem U16.part {l : List Int} (h : U16 l) (a k : Nat) : U16 ((l.drop a).take k) := h.sub fun n hn => List.mem_of_mem_drop (List.mem_of_mem_take hn)
structure CI (c : Chip) (m : Int) : Prop where
 ok : z02 c
 pages : z1j c
 len : (c.blocks.length : Int) = m
theorem z01n {l : List Int} (hl : U16 l) {m : Int} {a : Nat} {c : Chip} (h : CI c m) : CI (stepC l m a c) m := by
 have h1 : CI (if l.getD a 0 % 29 = 0 then (eraT c (l.getD a 0 % m) zFate).1 else c) m := by
  split
  · exact ⟨(zsv h.ok _ _).1, zre h.pages _ _, by rw [(zsv h.ok _ _).2]; exact h.len⟩
  · exact h
 have h2 : PageOk (pgT (l.getD a 0 / 7 % 30) ((l.drop a).take (z0i l a - a))) := z08s (z0ch (hl.part a _) _); have h3 : (if l.getD a 0 % 11 = 0 then (⟨1, [120], (pgT (l.getD a 0 / 7 % 30) ((l.drop a).take (z0i l a - a))).tag, 0⟩ : Fate) else zFate).tag.length < 4294967296 /\ (if l.getD a 0 % 11 = 0 then (⟨1, [120], (pgT (l.getD a 0 / 7 % 30) ((l.drop a).take (z0i l a - a))).tag, 0⟩ : Fate) else zFate).data.length < 4294967296 := by
  split
  · exact ⟨h2.1, by simp⟩
  · exact ⟨by simp [zFate], by simp [zFate]⟩
 unfold stepC; simp only; generalize (if l.getD a 0 % 29 = 0 then (eraT c (l.getD a 0 % m) zFate).1 else c) = c1 at h1; generalize (if l.getD a 0 % 11 = 0 then (⟨1, [120], (pgT (l.getD a 0 / 7 % 30) ((l.drop a).take (z0i l a - a))).tag, 0⟩ : Fate) else zFate) = f at h3; split
 · exact h1
 · exact ⟨z08p h1.ok _ _ _ _, zz8 h1.pages _ _ h2 h3, by rw [zw3]; exact h1.len⟩
theorem ziv {l : List Int} (hl : U16 l) (hn : l.length < 9223372036854775808) {m : Int} (hm : 0 < m) (hm2 : m < 4294967296) : ∀ (k N a : Nat) (ai i : Int) (c : Chip), ai = a -> i = 40 - (k : Int) -> k <= 40 -> a + 10 * k <= 400 -> CI c m -> k < N -> ze z15 N (l, m, ai, i, c) = some (chipL l m k a c)
 | k, 0, _, _, _, _, _, _, _, _, _, h => by omega
 | 0, N + 1, a, ai, i, c, h1, h2, _, _, _, _ => by
   rw [z6, z96]; unfold z3w; simp only [chipL]; rw [zF (by omega), zD]
 | k + 1, N + 1, a, ai, i, c, h1, h2, h3, ha4, h4, h5 => by
   subst h1; rw [z6, z96]; unfold z3w; simp only [Int.toNat_natCast, chipL]; rw [zT (show i < 40 by omega), zC]; by_cases ha : a < l.length
   · rw [zT (show (a : Int) < l.length by omega), zC, if_pos ha]; have hg := hl.get a; have hci := z01n hl (a := a) h4; have hna : z0i l a <= a + 10 := by unfold z0i; omega
     have ih := ziv hl hn hm hm2 k N (max (z0i l a) (a + 1)) ((max (z0i l a) (a + 1) : Nat) : Int) (w64 (i + 1)) _ rfl (by rw [zd (by omega) (by omega)]; omega) (by omega) (by omega) hci (by omega); rw [<- ih]; obtain ⟨q, hq⟩ : ∃ q : Nat, l.getD a 0 = q := ⟨(l.getD a 0).toNat, by omega⟩; have hnx : z0i l a = min (a + 1 + q / 50 % 8) l.length := by unfold z0i; rw [hq]; rfl
     have b0 : ∀ m : Int, 0 < m -> Int.tmod (q : Int) m = (q : Int) % m := fun m hm => Int.tmod_eq_emod_of_nonneg (by omega)
     have bm : 0 <= (q : Int) % m /\ (q : Int) % m < m := ⟨Int.emod_nonneg _ (by omega), Int.emod_lt_of_pos _ hm⟩; have d50 : Int.tdiv (q : Int) 50 = ((q / 50 : Nat) : Int) := zfu q 50; have d7 : Int.tdiv (q : Int) 7 = ((q / 7 : Nat) : Int) := zfu q 7; have m8 : Int.tmod ((q / 50 : Nat) : Int) 8 = ((q / 50 % 8 : Nat) : Int) := z9k (q / 50) 8; have m30 : Int.tmod ((q / 7 : Nat) : Int) 30 = ((q / 7 % 30 : Nat) : Int) := z9k (q / 7) 30; have m11 : Int.tmod (q : Int) 11 = (q : Int) % 11 := b0 11 (by omega); have m29 : Int.tmod (q : Int) 29 = (q : Int) % 29 := b0 29 (by omega); have emin : min (w64 (w64 ((a : Int) + 1) + ((q / 50 % 8 : Nat) : Int))) (l.length : Int) = ((z0i l a : Nat) : Int) := by
      rw [zd (n := (a : Int) + 1) (by omega) (by omega), zd (by omega) (by omega), hnx]; omega
     have eseq : ((q / 7 % 30 : Nat) : Int) = l.getD a 0 / 7 % 30 := by rw [hq]; omega
     have hpage : z95 (((q / 7 % 30 : Nat) : Int), (l.drop a).take (Int.toNat ((z0i l a : Nat) : Int) - a)) = some (pgT (l.getD a 0 / 7 % 30) ((l.drop a).take (z0i l a - a))) := by
      rw [zw5 (hl.part a _) (by simp only [List.length_take, List.length_drop]; omega), eseq, Int.toNat_natCast]
     have emax : max ((z0i l a : Nat) : Int) (w64 ((a : Int) + 1)) = ((max (z0i l a) (a + 1) : Nat) : Int) := by rw [zd (n := (a : Int) + 1) (by omega) (by omega)]; omega
     have wi : w64 (i + 1) = i + 1 := zd (by omega) (by omega); simp only [hq]; rw [zd (n := (q : Int)) (by omega) (by omega), d50, d7, zd (n := ((q / 50 : Nat) : Int)) (by omega) (by omega), zd (n := ((q / 7 : Nat) : Int)) (by omega) (by omega), m8, m30, m11, m29, b0 m hm, emin, emax, hpage]; simp only [z7, zss h4.ok]; rw [zT (show (0 : Int) <= a by omega), zF (show ¬ m = 0 by omega), zT (show (a : Int) <= ((z0i l a : Nat) : Int) by rw [hnx]; omega), zT (show ((z0i l a : Nat) : Int) <= l.length by rw [hnx]; omega), zT bm.1]; simp only [zC, Bool.not_false]; have fin : ∀ (c1 : Chip) (f : Fate), CI c1 m -> c1 = (if l.getD a 0 % 29 = 0 then (eraT c (l.getD a 0 % m) zFate).1 else c) -> f = (if l.getD a 0 % 11 = 0 then (⟨1, [120], (pgT (l.getD a 0 / 7 % 30) ((l.drop a).take (z0i l a - a))).tag, 0⟩ : Fate) else zFate) ->
      (cond (decide ((q : Int) % m < (c1.blocks.length : Int))) (Option.bind (z0o (c1, (q : Int) % m, (c1.blocks.getD (Int.toNat ((q : Int) % m)) default).next, pgT (l.getD a 0 / 7 % 30) ((l.drop a).take (z0i l a - a)), f)) fun r8 =>
      cond (!(decide (r8.2 = 1)))
       (ze z15 N (l, m, ((max (z0i l a) (a + 1) : Nat) : Int), (w64 (i + 1)), r8.1))
       (ze z15 N (l, m, ((max (z0i l a) (a + 1) : Nat) : Int), (w64 (i + 1)), c1))) none) = ze z15 N (l, m, ((max (z0i l a) (a + 1) : Nat) : Int), (w64 (i + 1)), stepC l m a c) := by
      intro c1 f hc1 e1 e2; have est : stepC l m a c = if (progT c1 ((q : Int) % m) (nextOf c1 ((q : Int) % m)) (pgT (l.getD a 0 / 7 % 30) ((l.drop a).take (z0i l a - a))) f).2 = 1 then c1 else (progT c1 ((q : Int) % m) (nextOf c1 ((q : Int) % m)) (pgT (l.getD a 0 / 7 % 30) ((l.drop a).take (z0i l a - a))) f).1 := by
       rw [e1, e2, <- hq]; rfl
      rw [zT (by rw [hc1.len]; exact bm.2), zC, zoa hc1.ok, z7, est]; show cond (!decide ((progT c1 ((q : Int) % m) (nextOf c1 ((q : Int) % m)) (pgT (l.getD a 0 / 7 % 30) ((l.drop a).take (z0i l a - a))) f).2 = 1)) _ _ = _; by_cases h : (progT c1 ((q : Int) % m) (nextOf c1 ((q : Int) % m)) (pgT (l.getD a 0 / 7 % 30) ((l.drop a).take (z0i l a - a))) f).2 = 1
      · rw [zT h, Bool.not_true, zD, if_pos h]
      · rw [zF h, Bool.not_false, zC, if_neg h]; rfl
     have hce : CI (eraT c ((q : Int) % m) zFate).1 m := ⟨(zsv h4.ok _ _).1, zre h4.pages _ _, by rw [(zsv h4.ok _ _).2]; exact h4.len⟩; by_cases x11 : (q : Int) % 11 = 0
     · rw [zT x11, zC]; by_cases x29 : (q : Int) % 29 = 0
       · rw [zT x29, zC]; exact fin _ _ hce (by rw [hq, if_pos x29] <;> rfl) (by rw [hq, if_pos x11])
       · rw [zF x29, zD]; exact fin _ _ h4 (by rw [hq, if_neg x29]) (by rw [hq, if_pos x11])
     · rw [zF x11, zD]; by_cases x29 : (q : Int) % 29 = 0
       · rw [zT x29, zC]; exact fin _ _ hce (by rw [hq, if_pos x29] <;> rfl) (by rw [hq, if_neg x11]; rfl)
       · rw [zF x29, zD]; exact fin _ _ h4 (by rw [hq, if_neg x29]) (by rw [hq, if_neg x11]; rfl)
   · rw [zF (show ¬ (a : Int) < l.length by omega), zD, if_neg ha]
theorem z08t (n : Int) (bs : List Block) : newL n [] bs = (⟨bs, false, false, 0⟩, 0) := rfl
theorem z06m {g : Geometry} (hg : g ∈ smalls) : CI (newT g.blocks g.pages []).1 g.blocks /\ 0 < g.blocks /\ g.blocks < 4294967296 := by
 have : 1 <= g.blocks /\ g.blocks <= 32 /\ 1 <= g.pages /\ g.pages <= 16 := by
  simp only [smalls, List.mem_cons, List.not_mem_nil, or_false] at hg; rcases hg with rfl | rfl | rfl | rfl | rfl | rfl <;> decide
 obtain ⟨h1, h2⟩ := zz5 g.blocks g.pages []; refine ⟨⟨h1, h2, ?_⟩, by omega, by omega⟩; unfold newT; rw [if_neg (by omega), z08t]; simp only [List.length_replicate]; omega
theorem zw6 {l : List Int} (hl : U16 l) (hn : l.length < 9223372036854775808) {g : Geometry} (hg : g ∈ smalls) : ze5 (l, g.blocks, g.pages) = some (chipT l g.blocks g.pages) := by
 obtain ⟨h1, h2, h3⟩ := z06m hg; refine zy 41 fun N hN => ?_
 show z97 N l g.blocks g.pages = _; unfold z97 chipT; rw [zz1 (by simp), z7]; exact ziv hl hn h2 h3 40 N 0 0 0 _ rfl (by omega) (by omega) (by omega) h1 (by omega)
theorem z01o {l : List Int} (hl : U16 l) {m : Int} : ∀ (k a : Nat) (c : Chip), CI c m -> CI (chipL l m k a c) m
 | 0, a, c, h => h
 | k + 1, a, c, h => by
   unfold chipL; split
   · exact z01o hl k _ _ (z01n hl h)
   · exact h
theorem z08u {l : List Int} (hl : U16 l) {g : Geometry} (hg : g ∈ smalls) : CI (chipT l g.blocks g.pages) g.blocks := z01o hl 40 0 _ (z06m hg).1
theorem zrf (n : Int) : smallT n ∈ smalls := zz6 (P := (· ∈ smalls)) (fun g h => h) n
theorem z038 (c : Chip) (n : Int) : TabOk (replayT c n).1 := by
 obtain ⟨h1, h2⟩ := z01k (allT c) (tabT n) 0; have := zz3 n; unfold replayT; exact ⟨by rw [h1]; exact this.1, by rw [h2]; exact this.2⟩
theorem zw7 {g : Geometry} {c : Chip} (h : z02 c) : DevOk (mountT g c).1 := by
 unfold mountT; split
 · exact ⟨⟨by simp [zDev], fun b hb => by simp [zDev] at hb⟩, ⟨by simp [zDev], by simp [zDev]⟩⟩
 · split
   · exact ⟨⟨by simp [zDev], fun b hb => by simp [zDev] at hb⟩, ⟨by simp [zDev], by simp [zDev]⟩⟩
   · exact ⟨⟨h.1, h.2⟩, z038 c _⟩
theorem z039 {g : Geometry} {bad : List Int} : DevOk (formatT g bad).1 := by
 unfold formatT; split
 · exact ⟨⟨by simp [zDev], fun b hb => by simp [zDev] at hb⟩, ⟨by simp [zDev], by simp [zDev]⟩⟩
 · exact zw7 (zz5 _ _ _).1
end Clk
namespace Clk
open Go
theorem z0dd {n : Int} (h : (Lit.int .u8 n).wf = true) : 0 <= n /\ n < 256 := by
 simp [Lit.wf, IntKind.min, IntKind.max, IntKind.signed, IntKind.bits] at h; omega
theorem z0ci {n : Int} (h : (Lit.int .u16 n).wf = true) : 0 <= n /\ n < 65536 := by
 simp [Lit.wf, IntKind.min, IntKind.max, IntKind.signed, IntKind.bits] at h; omega
end Clk
namespace Clk
open Go
section
variable {H : Type} {enc : TypeId × Value -> H} {P : Program} {w : World} {base : Nat} {spare : Nat -> Bool} {held : Bool}
open Go.ChangeShapes Go.WideShapes
end
end Clk
namespace Clk
open Go
inductive Sh where
 | int (k : IntKind) | bool | str | sl (l : List Sh)
def flatFs (r : TypeId -> Option (List Sh)) (sz : TypeId -> Nat) : Nat -> List Field -> Option (List Sh)
 | _, [] => some []
 | off, f :: fs => match r f.type with
   | some l => if f.offset = off /\ l.length = sz f.type then match flatFs r sz (off + l.length) fs with | some m => some (l ++ m) | none => none else none
   | none => none
def flatT (P : Program) : Nat -> TypeId -> Option (List Sh)
 | 0, _ => none
 | n + 1, t => match P.underlying t with
   | some (.int k) => some [.int k]
   | some .bool => some [.bool]
   | some .string => some [.str]
   | some (.slice e) => match flatT P n e with
     | some l => if 0 < l.length /\ l.length = P.cellsOf e then some [.sl l] else none
     | none => none
   | some (.struct fs) => match flatFs (flatT P n) P.cellsOf 0 fs.toList with
     | some l => if l.length = P.cellsOf t then some l else none
     | none => none
   | _ => none
inductive ShA : Sh -> AV -> Prop
 | int {k : IntKind} {n : Int} (h : (Lit.int k n).wf = true) : ShA (.int k) (.int k n)
 | bool (b : Bool) : ShA .bool (.bool b)
 | str {s : ByteArray} (h : s.size <= maxLen) : ShA .str (.str s)
 | sl {sh : List Sh} {l : List (List AV)} (h : l.length <= maxLen) (hl : ∀ row ∈ l, row.length = sh.length) (hr : ∀ row ∈ l, ∀ (j : Nat) s a, sh[j]? = some s -> row[j]? = some a -> ShA s a) : ShA (.sl sh) (.rows l)
def ShL (sh : List Sh) (l : List AV) : Prop := l.length = sh.length /\ ∀ (j : Nat) s a, sh[j]? = some s -> l[j]? = some a -> ShA s a
theorem ShL.nil : ShL [] [] := ⟨rfl, fun _ _ _ h => by simp at h⟩
theorem ShL.single {s : Sh} {a : AV} (h : ShA s a) : ShL [s] [a] := ⟨rfl, fun j s' a' h1 h2 => by
 cases j with
 | zero => simp at h1 h2; subst h1; subst h2; exact h
 | succ j => simp at h1⟩
theorem ShL.append {s1 s2 : List Sh} {l1 l2 : List AV} (h1 : ShL s1 l1) (h2 : ShL s2 l2) : ShL (s1 ++ s2) (l1 ++ l2) := by
 refine ⟨by simp [h1.1, h2.1], fun j s a e1 e2 => ?_⟩; by_cases hj : j < s1.length
 · rw [List.getElem?_append_left hj] at e1; rw [List.getElem?_append_left (by rw [h1.1]; exact hj)] at e2; exact h1.2 j s a e1 e2
 · rw [List.getElem?_append_right (by omega)] at e1; rw [List.getElem?_append_right (by rw [h1.1]; omega), h1.1] at e2; exact h2.2 _ s a e1 e2
section
variable {H : Type} {enc : TypeId × Value -> H} {P : Program} {w : World} {base : Nat} {spare : Nat -> Bool} {held : Bool} {N : Nat -> Prop}
def CellsA (w : World) (N : Nat -> Prop) (sh : List Sh) (cs : List Value) : Prop := ∃ l, ShL sh l /\ cs.length = l.length /\ ∀ (j : Nat) a v, l[j]? = some a -> cs[j]? = some v -> RelI w N a v
theorem CellsA.single {s : Sh} {a : AV} {v : Value} (h : ShA s a) (hr : RelI w N a v) : CellsA w N [s] [v] :=
 ⟨[a], ShL.single h, rfl, fun j a' v' h1 h2 => by
  cases j with
  | zero => simp at h1 h2; subst h1; subst h2; exact hr
  | succ j => simp at h1⟩
theorem zz9 {r : TypeId -> Option (List Sh)} {sz : TypeId -> Nat} {cs : List Value}
 (hr : ∀ t sh cs, r t = some sh -> (∃ fuel y, DataW.trod enc P w base spare held fuel t cs = some y) -> CellsA w N sh cs) :
 ∀ (fs : List Field) (off : Nat) (sh : List Sh), flatFs r sz off fs = some sh -> (∀ f ∈ fs, ∃ fuel y, DataW.trod enc P w base spare held fuel f.type ((cs.drop f.offset).take (sz f.type)) = some y) ->
  ∃ l, ShL sh l /\ ∀ (j : Nat) a v, l[j]? = some a -> cs[off + j]? = some v -> RelI w N a v := by
 intro fs; induction fs with
 | nil =>
   intro off sh h _; simp only [flatFs, Option.some.injEq] at h; subst h; exact ⟨[], ShL.nil, fun j a v h => by simp at h⟩
 | cons f fs ih =>
   intro off sh h hf; simp only [flatFs] at h; split at h
   · rename_i l1 hl1; split at h
     · rename_i hc; split at h
       · rename_i m hm; simp only [Option.some.injEq] at h; subst h; obtain ⟨la, ha1, ha2, ha3⟩ := hr _ _ _ hl1 (hf f (by simp)); obtain ⟨lb, hb1, hb2⟩ := ih _ _ hm (fun g hg => hf g (List.mem_cons_of_mem _ hg)); refine ⟨la ++ lb, ha1.append hb1, fun j a v e1 e2 => ?_⟩; have hlen := ha1.1; by_cases hj : j < la.length
         · rw [List.getElem?_append_left hj] at e1; refine ha3 j a v e1 ?_; rw [List.getElem?_take, if_pos (by omega), List.getElem?_drop, hc.1]; exact e2
         · rw [List.getElem?_append_right (by omega)] at e1; refine hb2 (j - la.length) a v e1 ?_; rw [<- e2]; congr 1
           omega
       · cases h
     · cases h
   · cases h
theorem z06n : ∀ (n : Nat) (t : TypeId) (sh : List Sh) (cs : List Value), flatT P n t = some sh -> (∃ fuel y, DataW.trod enc P w base spare held fuel t cs = some y) -> CellsA w (fun _ => False) sh cs := by
 intro n; induction n with
 | zero => intro t sh cs h; cases h
 | succ n ih =>
   intro t sh cs h hy; obtain ⟨fuel, x, hx⟩ := hy; unfold flatT at h; split at h
   · rename_i k hu; cases h; obtain ⟨n', rfl, _, hw⟩ := DataW.trod_int hu hx; exact CellsA.single (.int hw) (.int _ _)
   · rename_i hu; cases h; obtain ⟨b, rfl, _⟩ := DataW.trod_bool hu hx; exact CellsA.single (.bool b) (.bool _)
   · rename_i hu; cases h; obtain ⟨s, rfl, _, hs⟩ := DataW.trod_string hu hx; exact CellsA.single (.str hs) (.str _)
   · rename_i e hu; split at h
     · rename_i l hl; split at h
       · rename_i hc; cases h; rcases DataW.trod_slice hu hx with ⟨rfl, _⟩ | ⟨a, len, cap, elems, rest, m, rfl, rfl, _, hb, hlc, hm, hlen, hel, _, _⟩
         · refine CellsA.single (a := .rows []) (.sl (by simp) (fun _ h => absurd h List.not_mem_nil) (fun _ h => absurd h List.not_mem_nil)) ?_; exact RelI.rows (l := []) (k := 1) (u := fun _ _ => undef) (Nat.le_refl _) (fun _ _ h => by simp at h) (fun h => absurd h (by simp)) (fun _ _ _ _ _ _ h => by simp at h) (fun _ _ _ _ h => by simp at h)
         · have key : ∀ i, ∃ r : List Value × List AV, i < len -> w.cells? base (a.add (i * P.cellsOf e)) (P.cellsOf e) = some r.1 /\ ShL l r.2 /\ r.1.length = r.2.length /\ ∀ (j : Nat) x v, r.2[j]? = some x -> r.1[j]? = some v -> RelI w (fun _ => False) x v := fun i => by
            by_cases hi : i < len
            · have hi2 := hel i hi; rw [zH (by omega)] at hi2; obtain ⟨cs', hcs, hy⟩ := Option.bind_eq_some_iff.1 hi2; obtain ⟨lr, h1, h2, h3⟩ := ih e l cs' hl ⟨_, _, hy⟩; exact ⟨(cs', lr), fun _ => ⟨hcs, h1, h2, h3⟩⟩
            · exact ⟨([], []), fun h => absurd h hi⟩
           let f := fun i => Classical.choose (key i)
           have hf : ∀ i, i < len -> w.cells? base (a.add (i * P.cellsOf e)) (P.cellsOf e) = some (f i).1 /\ ShL l (f i).2 /\ (f i).1.length = (f i).2.length /\ ∀ (j : Nat) x v, (f i).2[j]? = some x -> (f i).1[j]? = some v -> RelI w (fun _ => False) x v := fun i hi => Classical.choose_spec (key i) hi
           have hget : ∀ (i : Nat) row, ((List.range len).map fun i => (f i).2)[i]? = some row -> i < len /\ row = (f i).2 := by
            intro i row q; simp only [List.getElem?_map, Option.map_eq_some_iff] at q; obtain ⟨j, q1, rfl⟩ := q; have hi := (zG.1 q1).1; simp only [List.length_range] at hi; rw [List.getElem?_range hi] at q1; cases q1; exact ⟨hi, rfl⟩
           have hlen' : ((List.range len).map fun i => (f i).2).length = len := by simp
           have hcell : ∀ i, i < len -> ∀ j, j < l.length -> w.cell? ((a.add (i * P.cellsOf e)).add j) = (f i).1[j]? := fun i hi j hj => (World.cells?_some (hf i hi).1).2.2 j (by rw [<- hc.2]; exact hj)
           have hspot : 0 < len -> a.spot = none /\ a.block < w.heap.size := by
            intro h0; have q := hcell 0 h0 0 hc.1; have hlt : 0 < (f 0).1.length := by rw [(hf 0 h0).2.2.1, (hf 0 h0).2.1.1]; exact hc.1
            rw [zH hlt] at q; have e0 : (a.add (0 * P.cellsOf e)).add 0 = a := by simp [Addr.add]
            rw [e0] at q; exact z052 q
           have hadd : ∀ i j, 0 < len -> (a.add (i * P.cellsOf e)).add j = ⟨a.block, a.off + (i * l.length + j), none⟩ := by
            intro i j h0; have hs0 := (hspot h0).1; obtain ⟨b, o, s⟩ := a; simp only at hs0; subst hs0; rw [Go.WideShapes.add_plain, Go.WideShapes.add_plain, hc.2, Nat.add_assoc]
           refine CellsA.single (a := .rows ((List.range len).map fun i => (f i).2)) (.sl (by rw [hlen']; omega) (fun row hr => ?_) (fun row hr => ?_)) ?_
           · obtain ⟨i, hi, rfl⟩ := List.mem_map.1 hr; exact (hf i (List.mem_range.1 hi)).2.1.1
           · obtain ⟨i, hi, rfl⟩ := List.mem_map.1 hr; exact (hf i (List.mem_range.1 hi)).2.1.2
           · have := RelI.rows (w := w) (N := fun _ => False) (l := (List.range len).map fun i => (f i).2) (a := some a) (c := cap) (k := l.length) (u := fun i j => ((f i).1[j]?).getD undef) (by omega)
              (fun i row q => by rw [(hget i row q).2]; exact (hf i (hget i row q).1).2.1.1)
              (fun h0 => by
                rw [hlen'] at h0; exact ⟨a, rfl, (hspot h0).1, fun h => h, (hspot h0).2⟩)
              (fun ad i row j y e1 q1 q2 => by
                cases e1; obtain ⟨hi, rfl⟩ := hget i row q1; have hj := (zG.1 q2).1; rw [<- hadd i j (by omega), hcell i hi j (by rw [<- (hf i hi).2.1.1]; exact hj)]; rw [zH (by rw [(hf i hi).2.2.1]; exact hj)]; rfl)
              (fun i row j y q1 q2 => by
                obtain ⟨hi, rfl⟩ := hget i row q1; have hj := (zG.1 q2).1; refine (hf i hi).2.2.2 j y _ q2 ?_; rw [zH (by rw [(hf i hi).2.2.1]; exact hj)]; rfl)
             rw [hlen'] at this; exact this
       · cases h
     · cases h
   · rename_i fs hu; split at h
     · rename_i l hl; split at h
       · rename_i hc; cases h; obtain ⟨xs, m, rfl, _, hlen, hxl, hf⟩ := DataW.trod_struct hu hx; obtain ⟨l', h1, h2⟩ := zz9 (enc := enc) (base := base) (spare := spare) (held := held) (N := fun _ => False) (w := w) (cs := cs) (fun t sh cs a b => ih t sh cs a b) fs.toList 0 sh hl (fun f hfm => by
          obtain ⟨i, hi⟩ := List.getElem?_of_mem hfm; have hi' : fs[i]? = some f := by simpa using hi
          have := hf i f hi'; have hlt : i < fs.size := (Array.getElem?_eq_some_iff.1 hi').1; rw [zH (by omega)] at this; exact ⟨_, _, this⟩)
         exact ⟨l', h1, by rw [hlen, <- hc, h1.1], fun j a v e1 e2 => h2 j a v e1 (by simpa using e2)⟩
       · cases h
     · cases h
   · cases h
end
end Clk
namespace Clk
open Go
def shI : Sh := .int .i64
def shInts : Sh := .sl [shI]
def shStrs : Sh := .sl [.str]
def shPage : List Sh := [.bool, .str, .str]
def shBlock : List Sh := [.sl shPage, shI, shI, .bool]
def shFate : List Sh := [shI, .str, .str, shI]
def zmj : List Sh := [shI, shI, shInts, shInts]
def zoc : List Sh := [shI, shI, shI, shStrs]
def TC.sh : TC -> List Sh
 | .int k => [.int k]
 | .bool => [.bool]
 | .str => [.str]
 | .list c => [.sl c.sh]
 | .page => shPage
 | .block => shBlock
 | .chip => [.sl shBlock, .bool, .bool, shI]
 | .fate => shFate
 | .record => zmj
 | .found => shI :: zmj
 | .table => [shInts, shInts]
 | .slot => [shI, shI, shI]
 | .write => .str :: zmj
 | .command => zoc
 | .geometry => [shI, shI, shI, shI]
 | .device => [shI, shI, shI, shI, .sl shBlock, .bool, .bool, shI, shInts, shInts, shI, shI]
 | .answer => [shI, shStrs]
 | .event => zoc ++ [.sl shFate]
 | .report => [shI, shI, shI, shI, shI, shI, .bool]
 | .rank => [shI, shI]
theorem ShL.cons_inv {s : Sh} {sh : List Sh} {l : List AV} (h : ShL (s :: sh) l) : ∃ a l', l = a :: l' /\ ShA s a /\ ShL sh l' := by
 cases l with
 | nil => cases h.1
 | cons a l' => exact ⟨a, l', rfl, h.2 0 s a rfl rfl, by have := h.1; simp at this; exact this, fun j s' a' h1 h2 => h.2 (j + 1) s' a' (by simpa using h1) (by simpa using h2)⟩
theorem ShL.nil_inv {l : List AV} (h : ShL [] l) : l = [] := List.eq_nil_of_length_eq_zero h.1
theorem ShA.int_inv {k : IntKind} {a : AV} (h : ShA (.int k) a) : ∃ n, a = .int k n /\ (Lit.int k n).wf = true := by cases h with | int h => exact ⟨_, rfl, h⟩
theorem ShA.bool_inv {a : AV} (h : ShA .bool a) : ∃ b, a = .bool b := by cases h with | bool b => exact ⟨_, rfl⟩
theorem ShA.str_inv {a : AV} (h : ShA .str a) : ∃ s : Str, a = sA s /\ s.length <= maxLen := by
 cases h with
 | @str s h => exact ⟨s.data.toList, by simp [sA], by simpa using h⟩
theorem zrg {α : Type} {f : α -> List AV} : ∀ {l : List (List AV)}, (∀ row ∈ l, ∃ x, f x = row) -> ∃ xs : List α, xs.map f = l
 | [], _ => ⟨[], rfl⟩
 | r :: l, h => by
   obtain ⟨x, hx⟩ := h r (by simp); obtain ⟨xs, hxs⟩ := zrg (l := l) (fun row hr => h row (List.mem_cons_of_mem _ hr)); exact ⟨x :: xs, by simp [hx, hxs]⟩
theorem ShA.sl_inv {α : Type} {f : α -> List AV} {sh : List Sh} {a : AV} (hd : ∀ l, ShL sh l -> ∃ x : α, f x = l) (h : ShA (.sl sh) a) : ∃ xs : List α, a = .rows (xs.map f) := by
 cases h with
 | sl h hl hr =>
   obtain ⟨xs, hxs⟩ := zrg (fun row hm => hd row ⟨hl row hm, hr row hm⟩); exact ⟨xs, by rw [hxs]⟩
theorem z0bf {l : List AV} (h : ShL [shI] l) : ∃ n : Int, [iA n] = l := by
 obtain ⟨a, l, rfl, ha, h1⟩ := h.cons_inv; have := h1.nil_inv; subst this; obtain ⟨n, rfl, _⟩ := ha.int_inv; exact ⟨n, rfl⟩
theorem z06o {l : List AV} (h : ShL [.str] l) : ∃ n : Str, [sA n] = l := by
 obtain ⟨a, l, rfl, ha, h1⟩ := h.cons_inv; have := h1.nil_inv; subst this; obtain ⟨n, rfl, _⟩ := ha.str_inv; exact ⟨n, rfl⟩
theorem ShA.ints_inv {a : AV} (h : ShA shInts a) : ∃ ns : List Int, a = eInts ns := ShA.sl_inv (fun _ h => z0bf h) h
theorem ShA.strs_inv {a : AV} (h : ShA shStrs a) : ∃ ns : List Str, a = eStrs ns := ShA.sl_inv (fun _ h => z06o h) h
theorem ShA.i_inv {a : AV} (h : ShA shI a) : ∃ n, a = iA n := by obtain ⟨n, e, _⟩ := h.int_inv; exact ⟨n, e⟩
theorem z01p {l : List AV} (h : ShL shPage l) : ∃ p : Page, ePage p = l := by
 obtain ⟨a, l, rfl, ha, h1⟩ := h.cons_inv; obtain ⟨b, l, rfl, hb, h2⟩ := h1.cons_inv; obtain ⟨c, l, rfl, hc, h3⟩ := h2.cons_inv; have := h3.nil_inv; subst this; obtain ⟨x, rfl⟩ := ha.bool_inv; obtain ⟨y, rfl, _⟩ := hb.str_inv; obtain ⟨z, rfl, _⟩ := hc.str_inv; exact ⟨⟨x, y, z⟩, rfl⟩
theorem zod {l : List AV} (h : ShL shBlock l) : ∃ p : Block, eBlock p = l := by
 obtain ⟨a, l, rfl, ha, h1⟩ := h.cons_inv; obtain ⟨b, l, rfl, hb, h2⟩ := h1.cons_inv; obtain ⟨c, l, rfl, hc, h3⟩ := h2.cons_inv; obtain ⟨d, l, rfl, hd, h4⟩ := h3.cons_inv; have := h4.nil_inv; subst this; obtain ⟨x, rfl⟩ := ha.sl_inv (fun _ h => z01p h); obtain ⟨y, rfl⟩ := hb.i_inv; obtain ⟨z, rfl⟩ := hc.i_inv; obtain ⟨u, rfl⟩ := hd.bool_inv; exact ⟨⟨x, y, z, u⟩, rfl⟩
theorem z01q {l : List AV} (h : ShL shFate l) : ∃ p : Fate, eFate p = l := by
 obtain ⟨a, l, rfl, ha, h1⟩ := h.cons_inv; obtain ⟨b, l, rfl, hb, h2⟩ := h1.cons_inv; obtain ⟨c, l, rfl, hc, h3⟩ := h2.cons_inv; obtain ⟨d, l, rfl, hd, h4⟩ := h3.cons_inv; have := h4.nil_inv; subst this; obtain ⟨x, rfl⟩ := ha.i_inv; obtain ⟨y, rfl, _⟩ := hb.str_inv; obtain ⟨z, rfl, _⟩ := hc.str_inv; obtain ⟨u, rfl⟩ := hd.i_inv; exact ⟨⟨x, y, z, u⟩, rfl⟩
theorem zk6 {l : List AV} (h : ShL zmj l) : ∃ p : Record, eRecord p = l := by
 obtain ⟨a, l, rfl, ha, h1⟩ := h.cons_inv; obtain ⟨b, l, rfl, hb, h2⟩ := h1.cons_inv; obtain ⟨c, l, rfl, hc, h3⟩ := h2.cons_inv; obtain ⟨d, l, rfl, hd, h4⟩ := h3.cons_inv; have := h4.nil_inv; subst this; obtain ⟨x, rfl⟩ := ha.i_inv; obtain ⟨y, rfl⟩ := hb.i_inv; obtain ⟨z, rfl⟩ := hc.ints_inv; obtain ⟨u, rfl⟩ := hd.ints_inv; exact ⟨⟨x, y, z, u⟩, rfl⟩
theorem zoe {l l' : List AV} {sh : List Sh} (h : ShL (zoc ++ sh) l) : ∃ (p : Command) (l' : List AV), l = z8t p ++ l' /\ ShL sh l' := by
 obtain ⟨a, l, rfl, ha, h1⟩ := ShL.cons_inv h; obtain ⟨b, l, rfl, hb, h2⟩ := ShL.cons_inv h1; obtain ⟨c, l, rfl, hc, h3⟩ := ShL.cons_inv h2; obtain ⟨d, l, rfl, hd, h4⟩ := ShL.cons_inv h3; obtain ⟨x, rfl⟩ := ha.i_inv; obtain ⟨y, rfl⟩ := hb.i_inv; obtain ⟨z, rfl⟩ := hc.i_inv; obtain ⟨u, rfl⟩ := hd.strs_inv; exact ⟨⟨x, y, z, u⟩, l, rfl, h4⟩
theorem dec : ∀ (c : TC) {l : List AV}, ShL c.sh l -> ∃ x : c.den, z8u c x = l
 | .int k, l, h => by
   obtain ⟨a, l, rfl, ha, h1⟩ := h.cons_inv; have := h1.nil_inv; subst this; obtain ⟨n, rfl, _⟩ := ha.int_inv; exact ⟨n, rfl⟩
 | .bool, l, h => by
   obtain ⟨a, l, rfl, ha, h1⟩ := h.cons_inv; have := h1.nil_inv; subst this; obtain ⟨n, rfl⟩ := ha.bool_inv; exact ⟨n, rfl⟩
 | .str, l, h => z06o h
 | .list c, l, h => by
   obtain ⟨a, l, rfl, ha, h1⟩ := h.cons_inv; have := h1.nil_inv; subst this; obtain ⟨xs, rfl⟩ := ha.sl_inv (fun _ h => dec c h); exact ⟨xs, rfl⟩
 | .page, l, h => z01p h
 | .block, l, h => zod h
 | .chip, l, h => by
   obtain ⟨a, l, rfl, ha, h1⟩ := h.cons_inv; obtain ⟨b, l, rfl, hb, h2⟩ := h1.cons_inv; obtain ⟨c, l, rfl, hc, h3⟩ := h2.cons_inv; obtain ⟨d, l, rfl, hd, h4⟩ := h3.cons_inv; have := h4.nil_inv; subst this; obtain ⟨x, rfl⟩ := ha.sl_inv (fun _ h => zod h); obtain ⟨y, rfl⟩ := hb.bool_inv; obtain ⟨z, rfl⟩ := hc.bool_inv; obtain ⟨u, rfl⟩ := hd.i_inv; exact ⟨⟨x, y, z, u⟩, rfl⟩
 | .fate, l, h => z01q h
 | .record, l, h => zk6 h
 | .found, l, h => by
   obtain ⟨a, l, rfl, ha, h1⟩ := h.cons_inv; obtain ⟨x, rfl⟩ := ha.i_inv; obtain ⟨r, rfl⟩ := zk6 h1; exact ⟨⟨x, r⟩, rfl⟩
 | .table, l, h => by
   obtain ⟨a, l, rfl, ha, h1⟩ := h.cons_inv; obtain ⟨b, l, rfl, hb, h2⟩ := h1.cons_inv; have := h2.nil_inv; subst this; obtain ⟨x, rfl⟩ := ha.ints_inv; obtain ⟨y, rfl⟩ := hb.ints_inv; exact ⟨⟨x, y⟩, rfl⟩
 | .slot, l, h => by
   obtain ⟨a, l, rfl, ha, h1⟩ := h.cons_inv; obtain ⟨b, l, rfl, hb, h2⟩ := h1.cons_inv; obtain ⟨c, l, rfl, hc, h3⟩ := h2.cons_inv; have := h3.nil_inv; subst this; obtain ⟨x, rfl⟩ := ha.i_inv; obtain ⟨y, rfl⟩ := hb.i_inv; obtain ⟨z, rfl⟩ := hc.i_inv; exact ⟨⟨x, y, z⟩, rfl⟩
 | .write, l, h => by
   obtain ⟨a, l, rfl, ha, h1⟩ := h.cons_inv; obtain ⟨x, rfl, _⟩ := ha.str_inv; obtain ⟨r, rfl⟩ := zk6 h1; exact ⟨⟨x, r⟩, rfl⟩
 | .command, l, h => by
   obtain ⟨p, l', rfl, h1⟩ := zoe (sh := []) (l' := []) (by rw [List.append_nil]; exact h); have := h1.nil_inv; subst this; exact ⟨p, by simp [z8u]⟩
 | .geometry, l, h => by
   obtain ⟨a, l, rfl, ha, h1⟩ := h.cons_inv; obtain ⟨b, l, rfl, hb, h2⟩ := h1.cons_inv; obtain ⟨c, l, rfl, hc, h3⟩ := h2.cons_inv; obtain ⟨d, l, rfl, hd, h4⟩ := h3.cons_inv; have := h4.nil_inv; subst this; obtain ⟨x, rfl⟩ := ha.i_inv; obtain ⟨y, rfl⟩ := hb.i_inv; obtain ⟨z, rfl⟩ := hc.i_inv; obtain ⟨u, rfl⟩ := hd.i_inv; exact ⟨⟨x, y, z, u⟩, rfl⟩
 | .device, l, h => by
   obtain ⟨a, l, rfl, ha, h1⟩ := h.cons_inv; obtain ⟨b, l, rfl, hb, h2⟩ := h1.cons_inv; obtain ⟨c, l, rfl, hc, h3⟩ := h2.cons_inv; obtain ⟨d, l, rfl, hd, h4⟩ := h3.cons_inv; obtain ⟨x, rfl⟩ := ha.i_inv; obtain ⟨y, rfl⟩ := hb.i_inv; obtain ⟨z, rfl⟩ := hc.i_inv; obtain ⟨u, rfl⟩ := hd.i_inv; obtain ⟨a, l, rfl, ha, h5⟩ := h4.cons_inv; obtain ⟨b, l, rfl, hb, h6⟩ := h5.cons_inv; obtain ⟨c, l, rfl, hc, h7⟩ := h6.cons_inv; obtain ⟨d, l, rfl, hd, h8⟩ := h7.cons_inv; obtain ⟨x2, rfl⟩ := ha.sl_inv (fun _ h => zod h); obtain ⟨y2, rfl⟩ := hb.bool_inv; obtain ⟨z2, rfl⟩ := hc.bool_inv; obtain ⟨u2, rfl⟩ := hd.i_inv; obtain ⟨a, l, rfl, ha, h9⟩ := h8.cons_inv; obtain ⟨b, l, rfl, hb, h10⟩ := h9.cons_inv; obtain ⟨c, l, rfl, hc, h11⟩ := h10.cons_inv; obtain ⟨d, l, rfl, hd, h12⟩ := h11.cons_inv; have := h12.nil_inv; subst this; obtain ⟨x3, rfl⟩ := ha.ints_inv; obtain ⟨y3, rfl⟩ := hb.ints_inv; obtain ⟨z3, rfl⟩ := hc.i_inv; obtain ⟨u3, rfl⟩ := hd.i_inv; exact ⟨⟨⟨x, y, z, u⟩, ⟨x2, y2, z2, u2⟩, ⟨x3, y3⟩, z3, u3⟩, rfl⟩
 | .answer, l, h => by
   obtain ⟨a, l, rfl, ha, h1⟩ := h.cons_inv; obtain ⟨b, l, rfl, hb, h2⟩ := h1.cons_inv; have := h2.nil_inv; subst this; obtain ⟨x, rfl⟩ := ha.i_inv; obtain ⟨y, rfl⟩ := hb.strs_inv; exact ⟨⟨x, y⟩, rfl⟩
 | .event, l, h => by
   obtain ⟨p, l', rfl, h1⟩ := zoe (l' := []) h; obtain ⟨a, l, rfl, ha, h2⟩ := h1.cons_inv; have := h2.nil_inv; subst this; obtain ⟨x, rfl⟩ := ha.sl_inv (fun _ h => z01q h); exact ⟨⟨p, x⟩, rfl⟩
 | .report, l, h => by
   obtain ⟨a, l, rfl, ha, h1⟩ := h.cons_inv; obtain ⟨b, l, rfl, hb, h2⟩ := h1.cons_inv; obtain ⟨c, l, rfl, hc, h3⟩ := h2.cons_inv; obtain ⟨d, l, rfl, hd, h4⟩ := h3.cons_inv; obtain ⟨x, rfl⟩ := ha.i_inv; obtain ⟨y, rfl⟩ := hb.i_inv; obtain ⟨z, rfl⟩ := hc.i_inv; obtain ⟨u, rfl⟩ := hd.i_inv; obtain ⟨a, l, rfl, ha, h5⟩ := h4.cons_inv; obtain ⟨b, l, rfl, hb, h6⟩ := h5.cons_inv; obtain ⟨c, l, rfl, hc, h7⟩ := h6.cons_inv; have := h7.nil_inv; subst this; obtain ⟨x2, rfl⟩ := ha.i_inv; obtain ⟨y2, rfl⟩ := hb.i_inv; obtain ⟨z2, rfl⟩ := hc.bool_inv; exact ⟨⟨x, y, z, u, x2, y2, z2⟩, rfl⟩
 | .rank, l, h => by
   obtain ⟨a, l, rfl, ha, h1⟩ := h.cons_inv; obtain ⟨b, l, rfl, hb, h2⟩ := h1.cons_inv; have := h2.nil_inv; subst this; obtain ⟨x, rfl⟩ := ha.i_inv; obtain ⟨y, rfl⟩ := hb.i_inv; exact ⟨⟨x, y⟩, rfl⟩
def IsArg (c : TC) (w : World) (v : Value) (x : c.den) : Prop := RelI w (fun _ => False) (encV c x) v /\ ShL c.sh (z8u c x)
section
variable {H : Type} {enc : TypeId × Value -> H} {P : Program} {w : World} {base : Nat} {spare : Nat -> Bool} {held : Bool}
theorem zsw {c : TC} {n : Nat} {t : TypeId} {v : Value} {d : DataW H} {p : List MemPlace} (hf : flatT P n t = some c.sh) (hv : (c.agg = true /\ ∃ cs, v = .agg cs) \/ (c.agg = false /\ v.cells = #[v]))
 (hd : DataW.Trod enc P w base spare held t v d p) : ∃ x : c.den, IsArg c w v x := by
 obtain ⟨fuel, hd⟩ := hd; obtain ⟨l, h1, h2, h3⟩ := z06n n t c.sh _ hf ⟨_, _, hd⟩; obtain ⟨x, rfl⟩ := dec c h1; refine ⟨x, ?_, h1⟩; rcases hv with ⟨ha, cs, rfl⟩ | ⟨ha, hc⟩
 · simp only [encV, ha, if_true]; simp only [Value.cells] at h2 h3; exact .agg (by simpa using h2) (fun i a v e1 e2 => h3 i a v e1 (by simpa using e2))
 · rw [hc] at h2 h3; simp only [List.length_cons, List.length_nil] at h2; obtain ⟨a, hl⟩ : ∃ a, z8u c x = [a] := by
    match z8u c x, h2 with
    | [a], _ => exact ⟨a, rfl⟩
   have e : encV c x = a := by simp [encV, ha, hl]
   rw [e]; exact h3 0 a v (by rw [hl]; rfl) rfl
end
end Clk
namespace Clk
open Go
theorem zw8 {P : Program} {l : List (FuncId × Spec)} (hl : zk P (zm l)) {f : FuncId} {s : Spec} (hb : Body P f)
 (h : ∀ x y, s.h x = some y -> ∀ (w : World) (N : Nat -> Prop) (vs : Array Value), (∀ r, N r -> r < w.heap.size) -> IRel w N (encL s.params x) vs -> Calls P f vs w (zbk w N (encRes s.res y))) : zk P (zm ((f, s) :: l)) := by
 rw [zr5]; intro g hg e; unfold addO at e; split at e
 · rename_i hgf; subst hgf; cases e; refine ⟨hb, fun args r e w N vs hN hr => callsIn_wide.2 ?_⟩; obtain ⟨x, y, rfl, h1, rfl⟩ := z09m e; exact h x y h1 w N vs hN hr
 · exact hl g hg e
theorem z06p {P : Program} {l : List (FuncId × Spec)} (hl : zk P (zm l)) {f : FuncId} {s : Spec} (hs : z0k l f = some s) {x : z4g s.params} {y : z4g s.res} (h : s.h x = some y) {w : World} {N : Nat -> Prop} {vs : Array Value}
 (hN : ∀ r, N r -> r < w.heap.size) (hr : IRel w N (encL s.params x) vs) : Calls P f vs w (zbk w N (encRes s.res y)) :=
 callsIn_wide.1 ((hl f (oS s) (by unfold zm; rw [hs]; rfl)).2 _ _ (zyt h) w N vs hN hr)
structure Gr (L : Nat -> Prop) (w w' : World) : Prop where
 os : w'.os = w.os
 tape : w'.tape = w.tape
 output : w'.output = w.output
 size : w.heap.size <= w'.heap.size
 same : ∀ r : Nat, r < w.heap.size -> ¬ L r -> w'.heap[r]? = w.heap[r]?
theorem Gr.refl (L : Nat -> Prop) (w : World) : Gr L w w := ⟨rfl, rfl, rfl, Nat.le_refl _, fun _ _ _ => rfl⟩
theorem Gr.trans {L : Nat -> Prop} {a b c : World} (h : Gr L a b) (k : Gr L b c) : Gr L a c :=
 ⟨k.os.trans h.os, k.tape.trans h.tape, k.output.trans h.output, Nat.le_trans h.size k.size, fun r hr hn => (k.same r (Nat.lt_of_lt_of_le hr h.size) hn).trans (h.same r hr hn)⟩
theorem Gr.wider {L L' : Nat -> Prop} {a b : World} (h : Gr L a b) (hl : ∀ r, L r -> L' r) : Gr L' a b :=
 ⟨h.os, h.tape, h.output, h.size, fun r hr hn => h.same r hr fun e => hn (hl r e)⟩
theorem Gr.rel {L N N' : Nat -> Prop} {w w' : World} (g : Gr L w w') (hL : ∀ r, L r -> N r) (hN : ∀ r, N' r -> N r) {x : AV} {v : Value} (h : RelI w N x v) : RelI w' N' x v :=
 h.mono g.size (fun r hr hn => g.same r hr fun e => hn (hL r e)) fun r _ e => hN r e
theorem Gr.rel' {L N : Nat -> Prop} {w w' : World} (g : Gr L w w') (hL : ∀ r, L r -> N r) {x : AV} {v : Value} (h : RelI w N x v) : RelI w' N x v := g.rel hL (fun _ h => h) h
theorem Gr.alloc (L : Nat -> Prop) (w : World) (o : Obj) : Gr L w (w.alloc o) :=
 ⟨rfl, rfl, rfl, by show _ <= (w.heap.push o).size; simp, fun r hr _ => by show (w.heap.push o)[r]? = _; rw [Array.getElem?_push, if_neg (by omega)]⟩
theorem z3j (w : World) (b o : Nat) (v : Value) (r : Nat) : (w.setCell ⟨b, o, none⟩ v).heap[r]? = if r = b then (w.heap[r]?).map (Sort.onCells (·.setIfInBounds o v)) else w.heap[r]? := by
 rw [Sort.setCell_eq]; show (w.heap.modify b _)[r]? = _; rw [Array.getElem?_modify]; by_cases h : b = r
 · subst h; simp
 · rw [if_neg h, if_neg fun e => h e.symm]
theorem Gr.setCell {L : Nat -> Prop} (w : World) (b o : Nat) (v : Value) (h : L b) : Gr L w (w.setCell ⟨b, o, none⟩ v) :=
 ⟨rfl, rfl, rfl, by rw [Sort.setCell_eq]; simp [Sort.mapBlock], fun r hr hn => by rw [z3j, if_neg (fun e => by subst e; exact hn h)]⟩
theorem Gr.of_ends {w w' : World} (h1 : w'.os = w.os) (h2 : w'.tape = w.tape) (h3 : w'.output = w.output) (h4 : w.heap.size <= w'.heap.size) (h5 : ∀ r : Nat, r < w.heap.size -> w'.heap[r]? = w.heap[r]?) (L : Nat -> Prop) : Gr L w w' :=
 ⟨h1, h2, h3, h4, fun r hr _ => h5 r hr⟩
theorem store4 (w : World) {p : Nat} {pc : Array Value} {T : TypeId} (hp : w.heap[p]? = some (.cells pc T (0, 0))) (hps : pc.size = 4) (a b c d : Value) :
 Gr (fun x => x = p) w ((((w.setCell ⟨p, 0, none⟩ a).setCell ⟨p, 1, none⟩ b).setCell ⟨p, 2, none⟩ c).setCell ⟨p, 3, none⟩ d) /\ ((((w.setCell ⟨p, 0, none⟩ a).setCell ⟨p, 1, none⟩ b).setCell ⟨p, 2, none⟩ c).setCell ⟨p, 3, none⟩ d).heap[p]? = some (.cells #[a, b, c, d] T (0, 0)) := by
 refine ⟨(((Gr.setCell (L := fun x => x = p) w p 0 a rfl).trans (Gr.setCell _ p 1 b rfl)).trans (Gr.setCell _ p 2 c rfl)).trans (Gr.setCell _ p 3 d rfl), ?_⟩; simp only [z3j, if_true, hp, Option.map_some, Sort.onCells]; obtain ⟨l⟩ := pc; match l, hps with
 | [_, _, _, _], _ => rfl
theorem store1 (w : World) {p : Nat} {x : Value} {T : TypeId} (hp : w.heap[p]? = some (.cells #[x] T (0, 0))) (a : Value) : Gr (fun x => x = p) w (w.setCell ⟨p, 0, none⟩ a) /\ (w.setCell ⟨p, 0, none⟩ a).heap[p]? = some (.cells #[a] T (0, 0)) := by
 refine ⟨Gr.setCell (L := fun x => x = p) w p 0 a rfl, ?_⟩; rw [z3j, if_pos rfl, hp]; rfl
theorem Gr.drew {L : Nat -> Prop} {w w' : World} (h : Gr L w w') : Gr L w w'.drew := ⟨h.os, h.tape, h.output, h.size, h.same⟩
theorem alloc3 (w : World) (o1 o2 o3 : Obj) : Gr (fun _ => False) w (((w.alloc o1).alloc o2).alloc o3) /\ (((w.alloc o1).alloc o2).alloc o3).heap[w.heap.size]? = some o1 /\ (((w.alloc o1).alloc o2).alloc o3).heap[w.heap.size + 1]? = some o2 /\ (((w.alloc o1).alloc o2).alloc o3).heap[w.heap.size + 1 + 1]? = some o3 /\ (((w.alloc o1).alloc o2).alloc o3).heap.size = w.heap.size + 3 := by
 refine ⟨((Gr.alloc _ w o1).trans (Gr.alloc _ _ o2)).trans (Gr.alloc _ _ o3), ?_, ?_, ?_, ?_⟩
 · show (((w.heap.push o1).push o2).push o3)[w.heap.size]? = _; rw [Array.getElem?_push, if_neg (by simp; omega), Array.getElem?_push, if_neg (by simp), Array.getElem?_push, if_pos rfl]
 · show (((w.heap.push o1).push o2).push o3)[w.heap.size + 1]? = _; rw [Array.getElem?_push, if_neg (by simp), Array.getElem?_push, if_pos (by simp)]
 · show (((w.heap.push o1).push o2).push o3)[w.heap.size + 1 + 1]? = _; rw [Array.getElem?_push, if_pos (by simp)]
 · show (((w.heap.push o1).push o2).push o3).size = _; simp
theorem cells4 {W : World} {b : Nat} {a0 a1 a2 a3 : Value} {t : TypeId} (h : W.heap[b]? = some (.cells #[a0, a1, a2, a3] t (0, 0))) : W.cell? ⟨b, 0, none⟩ = some a0 /\ W.cell? ⟨b, 1, none⟩ = some a1 /\ W.cell? ⟨b, 2, none⟩ = some a2 /\ W.cell? ⟨b, 3, none⟩ = some a3 /\ W.frozen? ⟨b, 0, none⟩ = false /\ W.frozen? ⟨b, 1, none⟩ = false /\ W.frozen? ⟨b, 2, none⟩ = false /\ W.frozen? ⟨b, 3, none⟩ = false := by
 unfold World.cell? World.frozen?; rw [h]; simp
theorem cells1 {W : World} {b : Nat} {a0 : Value} {t : TypeId} (h : W.heap[b]? = some (.cells #[a0] t (0, 0))) : W.cell? ⟨b, 0, none⟩ = some a0 /\ W.frozen? ⟨b, 0, none⟩ = false := by
 unfold World.cell? World.frozen?; rw [h]; simp
theorem Gr.hide {L : Nat -> Prop} {w a b : World} (h : Gr (fun _ => False) w a) (k : Gr L a b) (hl : ∀ r, L r -> w.heap.size <= r) : Gr (fun _ => False) w b :=
 ⟨k.os.trans h.os, k.tape.trans h.tape, k.output.trans h.output, Nat.le_trans h.size k.size, fun r hr _ => (k.same r (Nat.lt_of_lt_of_le hr h.size) fun e => by have := hl r e; omega).trans (h.same r hr id)⟩
theorem zmk {w : World} {N : Nat -> Prop} {l : List Int} {v : Value} (h : RelI w N (eInts l) v) : ∃ a c, v = .slice a l.length c /\ (∀ i (hi : i < l.length), ∃ ad : Addr, a = some ad /\ ad.spot = none /\ ¬ N ad.block /\ ad.block < w.heap.size /\ w.cell? ⟨ad.block, ad.off + i, none⟩ = some (.int .i64 l[i])) := by
 unfold eInts at h; generalize hm : l.map (fun n => [iA n]) = m at h; cases h with
 | @rows _ a c k u hc hk ha hu hr =>
   have hlen : m.length = l.length := by rw [<- hm]; simp
   refine ⟨a, c, by rw [hlen], fun i hi => ?_⟩; have hrow : m[i]? = some [iA l[i]] := by rw [<- hm, List.getElem?_map, zH hi]; rfl
   obtain ⟨ad, e1, e2, e3, e4⟩ := ha (by omega); have hk1 : k = 1 := by have := hk i _ hrow; simpa using this.symm
   subst hk1; have := hu ad i _ 0 _ e1 hrow rfl; rw [Nat.mul_one, Nat.add_zero] at this; have hv := hr i _ 0 _ hrow rfl; unfold iA at hv; generalize u i 0 = x at this hv; cases hv; exact ⟨ad, e1, e2, e3, e4, this⟩
theorem zof (w : World) (b o : Nat) (v : Value) (b' i : Nat) (h : b' ≠ b) : (w.setCell ⟨b, o, none⟩ v).cell? ⟨b', i, none⟩ = w.cell? ⟨b', i, none⟩ := z3d (by rw [z3j, if_neg h])
theorem store3 (w : World) {p : Nat} {a b c d : Value} {T : TypeId} (hp : w.heap[p]? = some (.cells #[a, b, c, d] T (0, 0))) (x : Value) : Gr (fun r => r = p) w (w.setCell ⟨p, 3, none⟩ x) /\ (w.setCell ⟨p, 3, none⟩ x).heap[p]? = some (.cells #[a, b, c, x] T (0, 0)) := by
 refine ⟨Gr.setCell (L := fun r => r = p) w p 3 x rfl, ?_⟩; rw [z3j, if_pos rfl, hp]; rfl
theorem zsx {w : World} {N : Nat -> Prop} {a b : Int} {l m : List Int} {u v : Value} (hu : RelI w N (eInts l) u) (hv : RelI w N (eInts m) v) : RelI w N (.agg (eRecord ⟨a, b, l, m⟩)) (.agg #[.int .i64 a, .int .i64 b, u, v]) := by
 refine .agg rfl fun i x y h1 h2 => ?_
 match i, h1, h2 with
 | 0, h1, h2 => cases h1; cases h2; exact .int _ _
 | 1, h1, h2 => cases h1; cases h2; exact .int _ _
 | 2, h1, h2 => cases h1; cases h2; exact hu
 | 3, h1, h2 => cases h1; cases h2; exact hv
 | i + 4, h1, h2 => simp [eRecord] at h1
theorem zk7 {w : World} {N : Nat -> Prop} : RelI w N (eInts []) (.slice none 0 0) :=
 RelI.rows (l := []) (k := 1) (u := fun _ _ => undef) (Nat.le_refl _) (fun _ _ h => by simp at h) (fun h => absurd h (by simp)) (fun _ _ _ _ _ _ h => by simp at h) (fun _ _ _ _ h => by simp at h)
theorem z06q {w : World} {N : Nat -> Prop} {a b c : AV} {v : Value} (h : RelI w N (.tup [a, b, c]) v) : ∃ x y z, v = .tuple #[x, y, z] /\ RelI w N a x /\ RelI w N b y /\ RelI w N c z := by
 cases h with
 | @tup _ vs h hc =>
   obtain ⟨l⟩ := vs; match l, h with
   | [x, y, z], _ => exact ⟨x, y, z, rfl, hc 0 a x rfl rfl, hc 1 b y rfl rfl, hc 2 c z rfl rfl⟩
theorem z01r {w : World} {N : Nat -> Prop} {s : ByteArray} {v : Value} (h : RelI w N (.str s) v) : v = .string s := by cases h; rfl
theorem z08v {w : World} {N : Nat -> Prop} {k : IntKind} {n : Int} {v : Value} (h : RelI w N (.int k n) v) : v = .int k n := by cases h; rfl
end Clk
namespace Clk
open Go
def readF (U : Str -> Option (List Int × Str × Int)) (M : List Int -> Option (List Int)) (s : Str) : Option (Record × Int) := match U s with
 | none => none
 | some (l1, r1, e1) => cond (decide (e1 = 0)) (cond (decide (l1.length = 2)) (match U r1 with
   | none => none
   | some (l2, r2, e2) => cond (decide (e2 = 0)) (match U r2 with
     | none => none
     | some (l3, _, e3) => cond (decide (e3 = 0)) (match M l3 with
       | none => none
       | some l4 => some (⟨l1.getD 0 0, l1.getD 1 0, l2, l4⟩, 0)) (some (⟨0, 0, [], []⟩, 30))) none) (some (⟨0, 0, [], []⟩, 30))) (some (⟨0, 0, [], []⟩, 30))
def zc9 (P : Program) (f : Nat) (U : Str -> Option (List Int × Str × Int)) : Prop := ∀ (s : Str) (l : List Int) (r : Str) (e : Int), U s = some (l, r, e) -> ∀ (w : World) (N : Nat -> Prop), (∀ b, N b -> b < w.heap.size) ->
 Calls P f #[.string ⟨s.toArray⟩] w fun en w' => ∃ v, en = .returned (.tuple #[v, .string ⟨r.toArray⟩, .int .i64 e]) /\ Gr (fun _ => False) w w' /\ RelI w' N (eInts l) v
def MovedAt (P : Program) (f : Nat) (M : List Int -> Option (List Int)) : Prop := ∀ (l l' : List Int), M l = some l' -> ∀ (w : World) (N : Nat -> Prop) (v : Value), (∀ b, N b -> b < w.heap.size) -> RelI w N (eInts l) v ->
 Calls P f #[v, .int .i64 (-1)] w fun en w' => ∃ v', en = .returned v' /\ Gr (fun _ => False) w w' /\ RelI w' N (eInts l') v'
def ReadAt (P : Program) (f : Nat) (U : Str -> Option (List Int × Str × Int)) (M : List Int -> Option (List Int)) : Prop := ∀ (s : Str) (r : Record) (e : Int), readF U M s = some (r, e) -> ∀ w : World,
 Calls P f #[.string ⟨s.toArray⟩] w fun en w' => ∃ v, en = .returned (.tuple #[v, .int .i64 e]) /\ Gr (fun _ => False) w w' /\ RelI w' (fun x => x < w.heap.size) (.agg (eRecord r)) v
theorem zrh {w : World} {N : Nat -> Prop} {r : AV} {e : Ending} {w' : World} (h : zbk w N r e w') : ∃ v, e = .returned v /\ Gr (fun _ => False) w w' /\ RelI w' N r v := by
 obtain ⟨v, h1, h2, h3, h4, h5, h6, h7⟩ := h; exact ⟨v, h1, Gr.of_ends h2 h3 h4 h5 h6 _, h7⟩
theorem z03a {w w' : World} {N : Nat -> Prop} {r : AV} {v : Value} (g : Gr (fun _ => False) w w') (h : RelI w' N r v) : zbk w N r (.returned v) w' :=
 ⟨v, rfl, g.os, g.tape, g.output, g.size, fun r hr => g.same r hr id, h⟩
theorem z06r {P : Program} {l : List (FuncId × Spec)} (hl : zk P (zm l)) {f : FuncId} {h : Str -> Option (List Int × Str × Int)} (hs : z0k l f = some ⟨[.str], [.list .i, .str, .i], h⟩) : zc9 P f h := by
 intro s xs r e hu w N hN; refine (z06p (s := ⟨[.str], [.list .i, .str, .i], h⟩) hl hs (x := s) (y := (xs, r, e)) hu hN ⟨rfl, fun i a v h1 h2 => ?_⟩).mono fun en w' he => ?_
 · match i, h1, h2 with
   | 0, h1, h2 => cases h1; cases h2; exact .str _
   | i + 1, h1, h2 => simp [encL] at h1
 · obtain ⟨v, e1, g, hv⟩ := zrh he; obtain ⟨x, y, z, rfl, hx, hy, hz⟩ := z06q (a := eInts xs) (b := sA r) (c := iA e) hv; have hy := z01r hy; have hz := z08v hz; subst hy hz; exact ⟨x, e1, g, hx⟩
theorem z08w {P : Program} {l : List (FuncId × Spec)} (hl : zk P (zm l)) {f : FuncId} {h : List Int × Int -> Option (List Int)} (hs : z0k l f = some ⟨[.list .i, .i], [.list .i], h⟩) : MovedAt P f (fun xs => h (xs, -1)) := by
 intro xs ys hm w N v hN hv; refine (z06p (s := ⟨[.list .i, .i], [.list .i], h⟩) hl hs (x := (xs, -1)) (y := ys) hm hN ⟨rfl, fun i a u h1 h2 => ?_⟩).mono fun en w' he => ?_
 · match i, h1, h2 with
   | 0, h1, h2 => cases h1; cases h2; exact hv
   | 1, h1, h2 => cases h1; cases h2; exact .int _ _
   | i + 2, h1, h2 => simp [encL] at h1
 · obtain ⟨u, e1, g, hu⟩ := zrh he; exact ⟨u, e1, g, hu⟩
theorem z06s {P : Program} {l : List (FuncId × Spec)} (hl : zk P (zm l)) {f : FuncId} (hb : Body P f) {U : Str -> Option (List Int × Str × Int)} {M : List Int -> Option (List Int)} (R : ReadAt P f U M) : zk P (zm ((f, ⟨[.str], [.record, .i], readF U M⟩) :: l)) := by
 refine zw8 hl hb fun (x : Str) y hxy w N vs hN hr => ?_
 obtain ⟨r, e⟩ := y; obtain ⟨hsz, hc⟩ := hr; obtain ⟨u0, rfl⟩ : ∃ u0, vs = #[u0] := by
  obtain ⟨k⟩ := vs; match k, hsz with
  | [a], _ => exact ⟨a, rfl⟩
 have h0 := z01r (hc 0 _ u0 rfl rfl); subst h0; refine (R x r e hxy w).mono fun en w' ⟨v, he, g, hv⟩ => ?_
 subst he; refine z03a g (.tup rfl fun i a u h1 h2 => ?_); match i, h1, h2 with
 | 0, h1, h2 => cases h1; cases h2; exact (Gr.refl (fun _ => False) w').rel (fun _ h => h.elim) (fun r h => hN r h) hv
 | 1, h1, h2 => cases h1; cases h2; exact .int _ _
 | i + 2, h1, h2 => simp [encL] at h1
end Clk
namespace Clk
open Go
noncomputable def zbe (a0 : Int) (a1 : Int) : Option (Int × Int) :=
 some ((Go.IntKind.u64.wrap ((Go.IntKind.u64.wrap ((Go.IntKind.u64.wrap ((Int.fdiv a0 (2 ^ (min 32 64))) * (Int.fdiv a1 (2 ^ (min 32 64))))) + (Int.fdiv (Go.IntKind.u64.wrap ((Go.IntKind.u64.wrap ((Int.fdiv a0 (2 ^ (min 32 64))) * (Go.IntKind.u64.wrap (bAnd .u64 a1 4294967295)))) + (Int.fdiv (Go.IntKind.u64.wrap ((Go.IntKind.u64.wrap (bAnd .u64 a0 4294967295)) * (Go.IntKind.u64.wrap (bAnd .u64 a1 4294967295)))) (2 ^ (min 32 64))))) (2 ^ (min 32 64))))) + (Int.fdiv (Go.IntKind.u64.wrap ((Go.IntKind.u64.wrap (bAnd .u64 (Go.IntKind.u64.wrap ((Go.IntKind.u64.wrap ((Int.fdiv a0 (2 ^ (min 32 64))) * (Go.IntKind.u64.wrap (bAnd .u64 a1 4294967295)))) + (Int.fdiv (Go.IntKind.u64.wrap ((Go.IntKind.u64.wrap (bAnd .u64 a0 4294967295)) * (Go.IntKind.u64.wrap (bAnd .u64 a1 4294967295)))) (2 ^ (min 32 64))))) 4294967295)) + (Go.IntKind.u64.wrap ((Go.IntKind.u64.wrap (bAnd .u64 a0 4294967295)) * (Int.fdiv a1 (2 ^ (min 32 64))))))) (2 ^ (min 32 64))))), (Go.IntKind.u64.wrap (a0 * a1)))
noncomputable def zbf (x : Int × Int) : Option (Int × Int) := zbe x.1 x.2
noncomputable def zef (a0 : Int) (a1 : Int) : Option (Int × Int) :=
 Option.bind (zbf (a0, a1)) fun r1 =>
 some (r1.1, r1.2)
noncomputable def zeg (x : Int × Int) : Option (Int × Int) := zef x.1 x.2
noncomputable def ziw (ih0 : (Int × (List Int)) -> Option ((List Int))) (v1 : Int) (v2 : (List Int)) : Option ((List Int)) :=
 cond (decide (v1 < (v2.length : Int)))
  (cond (decide (0 <= v1)) (cond (decide (v1 <= (v2.length : Int))) (cond (decide (0 <= v1)) (cond (decide (v1 <= (v2.length : Int))) (ih0 ((w64 (v1 + (((min ((v2.drop 0).take v1.toNat).length (v2.length - v1.toNat)) : Nat) : Int))), (v2.take v1.toNat ++ ((v2.drop 0).take v1.toNat).take (min ((v2.drop 0).take v1.toNat).length (v2.length - v1.toNat)) ++ v2.drop (v1.toNat + (min ((v2.drop 0).take v1.toNat).length (v2.length - v1.toNat)))))) none) none) none) none)
  (some v2)
noncomputable def zix := fun ih (x : (Int × (List Int))) => ziw ih x.1 x.2
noncomputable def z8d (N : Nat) (a0 : (List Int)) (a1 : Int) : Option ((List Int)) :=
 cond (decide (a1 < 0))
  (none)
  (Option.bind (zeg ((Go.IntKind.u64.wrap (a0.length : Int)), (Go.IntKind.u64.wrap a1))) fun r1 =>
  cond (decide (0 < r1.1))
   (none)
   (cond (decide (9223372036854775807 < r1.2))
     (none)
     (cond (decide (0 <= (w64 r1.2))) (cond (decide ((w64 r1.2) <= (w64 r1.2))) (cond (decide (((w64 r1.2) * 8) <= 70368744177664)) (cond (decide ((w64 r1.2) <= 70368744177664)) (ze zix N ((((min a0.length (List.replicate (Int.toNat (w64 r1.2)) (0 : Int)).length) : Nat) : Int), (a0.take (List.replicate (Int.toNat (w64 r1.2)) (0 : Int)).length ++ (List.replicate (Int.toNat (w64 r1.2)) (0 : Int)).drop a0.length))) none) none) none) none)))
noncomputable def z43 (x : (List Int) × Int) : Option ((List Int)) := lim fun N => z8d N x.1 x.2
noncomputable def z9m (a0 : Int) : Option Table :=
 Option.bind (z43 ([(-1)], (min (max a0 0) 64))) fun r1 =>
 Option.bind (z43 ([(-1)], (min (max a0 0) 64))) fun r2 =>
 some (Table.mk r1 r2)
noncomputable def zeh (x : Int) : Option Table := z9m x
noncomputable def z75 (a0 : Int) (a1 : Str) (a2 : Bool) : Option (Int × Str × Bool) :=
 cond (!a2)
  (some (0, [], false))
  (cond (decide (1099511627776 < a0))
    (some (0, [], false))
    (some (a0, a1, true)))
noncomputable def z78 (x : Int × Str × Bool) : Option (Int × Str × Bool) := z75 x.1 x.2.1 x.2.2
noncomputable def z2x (ih0 : (Str × Int × Int × Int) -> Option (Int × Str × Bool)) (v1 : Str) (v2 : Int) (v3 : Int) (v4 : Int) : Option (Int × Str × Bool) :=
 cond (decide (v4 < v3))
  (cond (decide (0 <= v4)) (cond (decide (v4 < (v1.length : Int))) (cond (decide (0 <= (w64 (7 * v4)))) (cond (decide ((w64 ((v1.getD v4.toNat 0).toNat : Int)) < 128))
    (cond (decide (0 <= (w64 (v4 + 1)))) (cond (decide ((w64 (v4 + 1)) <= (v1.length : Int))) (cond (decide (v4 = 0))
      (Option.bind (z78 ((w64 (bOr .i64 v2 (w64 ((w64 (bAndNot .i64 (w64 ((v1.getD v4.toNat 0).toNat : Int)) 128)) * 2 ^ (min (Int.toNat (w64 (7 * v4))) 64))))), (v1.drop (Int.toNat (w64 (v4 + 1)))), true)) fun r5 =>
      some (r5.1, r5.2.1, r5.2.2))
      (Option.bind (z78 ((w64 (bOr .i64 v2 (w64 ((w64 (bAndNot .i64 (w64 ((v1.getD v4.toNat 0).toNat : Int)) 128)) * 2 ^ (min (Int.toNat (w64 (7 * v4))) 64))))), (v1.drop (Int.toNat (w64 (v4 + 1)))), (decide (0 < (w64 ((v1.getD v4.toNat 0).toNat : Int)))))) fun r6 =>
      some (r6.1, r6.2.1, r6.2.2))) none) none)
    (ih0 (v1, (w64 (bOr .i64 v2 (w64 ((w64 (bAndNot .i64 (w64 ((v1.getD v4.toNat 0).toNat : Int)) 128)) * 2 ^ (min (Int.toNat (w64 (7 * v4))) 64))))), v3, (w64 (v4 + 1))))) none) none) none)
  (some (0, [], false))
noncomputable def zag := fun ih (x : (Str × Int × Int × Int)) => z2x ih x.1 x.2.1 x.2.2.1 x.2.2.2
theorem z4u (ih) (x) : zag ih x = z2x ih x.1 x.2.1 x.2.2.1 x.2.2.2 := rfl
noncomputable def zog (N : Nat) (a0 : Str) : Option (Int × Str × Bool) :=
 ze zag N (a0, 0, (min (a0.length : Int) 6), 0)
noncomputable def zca (x : Str) : Option (Int × Str × Bool) := lim fun N => zog N x
noncomputable def z38 (ih0 : (Str × Int × Int × (List Int)) -> Option ((List Int) × Str × Int)) (v1 : Str) (v2 : Int) (v3 : Int) (v4 : (List Int)) : Option ((List Int) × Str × Int) :=
 cond (decide (v3 < v2))
  (Option.bind (zca v1) fun r5 =>
  cond (!r5.2.2)
   (some ([], [], 20))
   (cond (decide ((v4.length + [r5.1].length) * 8 <= 70368744177664)) (cond (decide (v4.length + [r5.1].length <= 70368744177664)) (ih0 (r5.2.1, v2, (w64 (v3 + 1)), (v4 ++ [r5.1]))) none) none))
  (some (v4, v1, 0))
noncomputable def z69 := fun ih (x : (Str × Int × Int × (List Int))) => z38 ih x.1 x.2.1 x.2.2.1 x.2.2.2
theorem z8e (ih) (x) : z69 ih x = z38 ih x.1 x.2.1 x.2.2.1 x.2.2.2 := rfl
noncomputable def z79 (N : Nat) (a0 : Str) : Option ((List Int) × Str × Int) :=
 Option.bind (zca a0) fun r1 =>
 cond (!r1.2.2)
  (some ([], [], 20))
  (cond (decide (((r1.2.1.length : Nat) : Int) < r1.1))
    (some ([], [], 20))
    (ze z69 N (r1.2.1, r1.1, 0, [])))
noncomputable def z44 (x : Str) : Option ((List Int) × Str × Int) := lim fun N => z79 N x
noncomputable def zk8 (x : Str) : Option (Record × Int) := readF z44 (fun l => z3c (l, -1)) x
noncomputable def z9n (a0 : Str) (a1 : Str) : Option (Record × Int) :=
 Option.bind (zk8 a0) fun r1 =>
 cond (!(decide (r1.2 = 0)))
  (some ((Record.mk 0 0 [] []), r1.2))
  (Option.bind (ze8 (r1.1, a1)) fun r2 =>
  cond (!(decide (r2.2 = 0)))
   (some ((Record.mk 0 0 [] []), 30))
   (cond (!(decide (r2.1 = a0)))
     (some ((Record.mk 0 0 [] []), 30))
     (some (r1.1, 0))))
noncomputable def zei (x : Str × Str) : Option (Record × Int) := z9n x.1 x.2
noncomputable def zcb (a0 : Page) : Option (Int × Record) :=
 cond (!a0.written)
  (some (0, (Record.mk 0 0 [] [])))
  (Option.bind (zei (a0.tag, a0.data)) fun r1 =>
  cond (decide (r1.2 = 0))
   (some (1, r1.1))
   (some (2, (Record.mk 0 0 [] []))))
noncomputable def zha (x : Page) : Option (Int × Record) := zcb x
noncomputable def z7a (ih0 : ((List Block) × Int × Int × (List Found)) -> Option ((List Found))) (ih1 : (Int × (List Block) × Int × Int × (List Page) × Int × Int × (List Found)) -> Option ((List Found))) (v2 : Int) (v3 : (List Block)) (v4 : Int) (v5 : Int) (v6 : (List Page)) (v7 : Int) (v8 : Int) (v9 : (List Found)) : Option ((List Found)) :=
 cond (decide (v8 < v7))
  (cond (decide (0 <= v8)) (cond (decide (v8 < (v6.length : Int))) (Option.bind (ze9 (v2, v8)) fun r10 =>
  cond (decide (0 <= r10))
   (Option.bind (zha (v6.getD v8.toNat default)) fun r11 =>
   cond (decide (r11.1 = 1))
    (cond (decide ((v9.length + [(Found.mk r10 r11.2)].length) * 72 <= 70368744177664)) (cond (decide (v9.length + [(Found.mk r10 r11.2)].length <= 70368744177664)) (ih1 (v2, v3, v4, v5, v6, v7, (w64 (v8 + 1)), (v9 ++ [(Found.mk r10 r11.2)]))) none) none)
    (ih1 (v2, v3, v4, v5, v6, v7, (w64 (v8 + 1)), v9)))
   (ih1 (v2, v3, v4, v5, v6, v7, (w64 (v8 + 1)), v9))) none) none)
  (ih0 (v3, v4, (w64 (v5 + 1)), v9))
noncomputable def zcc (ih5 : ((List Block) × Int × Int × (List Found)) -> Option ((List Found))) := fun ih (x : (Int × (List Block) × Int × Int × (List Page) × Int × Int × (List Found))) => z7a ih5 ih x.1 x.2.1 x.2.2.1 x.2.2.2.1 x.2.2.2.2.1 x.2.2.2.2.2.1 x.2.2.2.2.2.2.1 x.2.2.2.2.2.2.2
theorem zda (ih5 : ((List Block) × Int × Int × (List Found)) -> Option ((List Found))) (ih) (x) : zcc ih5 ih x = z7a ih5 ih x.1 x.2.1 x.2.2.1 x.2.2.2.1 x.2.2.2.2.1 x.2.2.2.2.2.1 x.2.2.2.2.2.2.1 x.2.2.2.2.2.2.2 := rfl
noncomputable def z7b (N : Nat) (ih0 : ((List Block) × Int × Int × (List Found)) -> Option ((List Found))) (v1 : (List Block)) (v2 : Int) (v3 : Int) (v4 : (List Found)) : Option ((List Found)) :=
 cond (decide (v3 < v2))
  (cond (decide (0 <= v3)) (cond (decide (v3 < (v1.length : Int))) (ze (zcc ih0) N (v3, v1, v2, v3, (v1.getD v3.toNat default).pages, (((v1.getD v3.toNat default).pages.length : Nat) : Int), 0, v4)) none) none)
  (cond (distF v4) (cond (decide (v4.length <= 70368744177664)) (some (sortF v4)) none) none)
noncomputable def zcd (N : Nat) := fun ih (x : ((List Block) × Int × Int × (List Found))) => z7b N ih x.1 x.2.1 x.2.2.1 x.2.2.2
theorem zdb (N : Nat) (ih) (x) : zcd N ih x = z7b N ih x.1 x.2.1 x.2.2.1 x.2.2.2 := rfl
noncomputable def zfy (N : Nat) (a0 : Chip) : Option ((List Found)) :=
 ze (zcd N) N (a0.blocks, (a0.blocks.length : Int), 0, [])
noncomputable def zk9 (x : Chip) : Option ((List Found)) := lim fun N => zfy N x
noncomputable def z1p (v0 : Table) (ih1 : (Int × (List Found) × Int × Int) -> Option (Table × Int)) (v2 : Int) (v3 : (List Found)) (v4 : Int) (v5 : Int) : Option (Table × Int) :=
 cond (decide (v5 < v4))
  (cond (decide (0 <= v5)) (cond (decide (v5 < (v3.length : Int))) (ih1 ((max v2 (w64 ((v3.getD v5.toNat default).record.seq + 1))), v3, v4, (w64 (v5 + 1)))) none) none)
  (some (v0, v2))
noncomputable def z47 (v6 : Table) := fun ih (x : (Int × (List Found) × Int × Int)) => z1p v6 ih x.1 x.2.1 x.2.2.1 x.2.2.2
theorem z5x (v6 : Table) (ih) (x) : z47 v6 ih x = z1p v6 ih x.1 x.2.1 x.2.2.1 x.2.2.2 := rfl
noncomputable def z1q (N : Nat) (r0 : (List Found)) (ih1 : ((List Found) × Int × Int × Table) -> Option (Table × Int)) (v2 : (List Found)) (v3 : Int) (v4 : Int) (v5 : Table) : Option (Table × Int) :=
 cond (decide (v4 < v3))
  (cond (decide (0 <= v4)) (cond (decide (v4 < (v2.length : Int))) (Option.bind (zad (v5, (v2.getD v4.toNat default))) fun r6 =>
  ih1 (v2, v3, (w64 (v4 + 1)), r6)) none) none)
  (ze (z47 v5) N (0, r0, (r0.length : Int), 0))
noncomputable def z48 (N : Nat) (r1 : (List Found)) := fun ih (x : ((List Found) × Int × Int × Table)) => z1q N r1 ih x.1 x.2.1 x.2.2.1 x.2.2.2
theorem z5y (N : Nat) (r1 : (List Found)) (ih) (x) : z48 N r1 ih x = z1q N r1 ih x.1 x.2.1 x.2.2.1 x.2.2.2 := rfl
noncomputable def z49 (N : Nat) (a0 : Chip) (a1 : Int) : Option (Table × Int) :=
 Option.bind (zk9 a0) fun r1 =>
 Option.bind (zeh a1) fun r2 =>
 ze (z48 N r1) N (r1, (r1.length : Int), 0, r2)
noncomputable def z1y (x : Chip × Int) : Option (Table × Int) := lim fun N => z49 N x.1 x.2
end Clk
namespace Clk
open Go
noncomputable def zce (a0 : Chip) (a1 : Int) : Option (Page × Bool) :=
 cond (decide (a1 < 0))
  (some ((Page.mk false [] []), false))
  (cond (decide ((min (a0.blocks.length : Int) 32) <= (w64 (Int.tdiv a1 16))))
    (some ((Page.mk false [] []), false))
    (cond (decide (0 <= (w64 (Int.tdiv a1 16)))) (cond (decide ((w64 (Int.tdiv a1 16)) < (a0.blocks.length : Int))) (cond (decide ((((a0.blocks.getD (Int.toNat (w64 (Int.tdiv a1 16))) default).pages.length : Nat) : Int) <= (Int.tmod a1 16)))
      (some ((Page.mk false [] []), false))
      (cond (decide (0 <= (w64 (Int.tdiv a1 16)))) (cond (decide ((w64 (Int.tdiv a1 16)) < (a0.blocks.length : Int))) (cond (decide (0 <= (Int.tmod a1 16))) (cond (decide ((Int.tmod a1 16) < (((a0.blocks.getD (Int.toNat (w64 (Int.tdiv a1 16))) default).pages.length : Nat) : Int))) (some (((a0.blocks.getD (Int.toNat (w64 (Int.tdiv a1 16))) default).pages.getD (Int.toNat (Int.tmod a1 16)) default), true)) none) none) none) none)) none) none))
noncomputable def zhb (x : Chip × Int) : Option (Page × Bool) := zce x.1 x.2
end Clk
namespace Clk
open Go
noncomputable def z9o (a0 : Chip) (a1 : Int) : Option (Page × Bool) :=
 cond (decide (a1 < 0))
  (some ((Page.mk false [] []), false))
  (cond (decide ((a0.blocks.length : Int) <= (w64 (Int.tdiv a1 16))))
    (some ((Page.mk false [] []), false))
    (cond (decide (32 <= (w64 (Int.tdiv a1 16))))
      (some ((Page.mk false [] []), false))
      (cond (decide (0 <= (w64 (Int.tdiv a1 16)))) (cond (decide ((w64 (Int.tdiv a1 16)) < (a0.blocks.length : Int))) (cond (decide ((((a0.blocks.getD (Int.toNat (w64 (Int.tdiv a1 16))) default).pages.length : Nat) : Int) <= (Int.tmod a1 16)))
        (some ((Page.mk false [] []), false))
        (cond (decide (0 <= (Int.tmod a1 16))) (cond (decide ((Int.tmod a1 16) < (((a0.blocks.getD (Int.toNat (w64 (Int.tdiv a1 16))) default).pages.length : Nat) : Int))) (some (((a0.blocks.getD (Int.toNat (w64 (Int.tdiv a1 16))) default).pages.getD (Int.toNat (Int.tmod a1 16)) default), true)) none) none)) none) none)))
noncomputable def zej (x : Chip × Int) : Option (Page × Bool) := z9o x.1 x.2
end Clk
namespace Clk
open Go
noncomputable def z0m (ih0 : ((List Bool) × Bool × Int × Int) -> Option Int) (v1 : (List Bool)) (v2 : Bool) (v3 : Int) (v4 : Int) : Option Int :=
 cond (decide (v4 < v3))
  (cond (decide (0 <= v4)) (cond (decide (v4 < (v1.length : Int))) (cond (v2 == (v1.getD v4.toNat false))
    (some v4)
    (ih0 (v1, v2, v3, (w64 (v4 + 1))))) none) none)
  (some (-1))
noncomputable def z0n := fun ih (x : ((List Bool) × Bool × Int × Int)) => z0m ih x.1 x.2.1 x.2.2.1 x.2.2.2
theorem z09 (ih) (x) : z0n ih x = z0m ih x.1 x.2.1 x.2.2.1 x.2.2.2 := rfl
noncomputable def zgc (N : Nat) (a0 : (List Bool)) (a1 : Bool) : Option Int :=
 ze z0n N (a0, a1, (a0.length : Int), 0)
noncomputable def zah (x : (List Bool) × Bool) : Option Int := lim fun N => zgc N x.1 x.2
noncomputable def z2h (a0 : (List Bool)) (a1 : Bool) : Option Bool :=
 Option.bind (zah (a0, a1)) fun r1 =>
 some (decide (0 <= r1))
noncomputable def z4v (x : (List Bool) × Bool) : Option Bool := z2h x.1 x.2
noncomputable def zfz (a0 : (List Bool)) : Option Bool :=
 Option.bind (z4v (a0, false)) fun r1 =>
 some (!r1)
noncomputable def zka (x : (List Bool)) : Option Bool := zfz x
noncomputable def z7c (a0 : Int) (a1 : Int) (a2 : Int) : Option Bool :=
 cond (decide (a1 <= a0))
  (some (decide (a0 <= a2)))
  (some false)
noncomputable def z2i (x : Int × Int × Int) : Option Bool := z7c x.1 x.2.1 x.2.2
noncomputable def zcf (a0 : Geometry) : Option Bool :=
 Option.bind (z2i (a0.blocks, 1, 32)) fun r1 =>
 Option.bind (z2i (a0.pages, 2, 16)) fun r2 =>
 Option.bind (z2i (a0.sectors, 1, 64)) fun r3 =>
 Option.bind (z2i (a0.spare, 0, 32)) fun r4 =>
 Option.bind (zka [r1, r2, r3, r4]) fun r5 =>
 cond (!r5)
  (some false)
  (some (decide ((w64 (2 * a0.sectors)) < (w64 ((w64 ((w64 (a0.blocks - (w64 (2 * a0.spare)))) - 3)) * a0.pages)))))
noncomputable def z1z (x : Geometry) : Option Bool := zcf x
noncomputable def zw9 (a0 : Chip) : Option Chip :=
 some (Chip.mk a0.blocks a0.broken false a0.ops)
noncomputable def zek (x : Chip) : Option Chip := zw9 x
noncomputable def z4a (ih0 : ((List Block) × Int × Int × Geometry × Device) -> Option (Device × Int)) (v1 : (List Block)) (v2 : Int) (v3 : Int) (v4 : Geometry) (v5 : Device) : Option (Device × Int) :=
 cond (decide (v3 < v2))
  (cond (decide (0 <= v3)) (cond (decide (v3 < (v1.length : Int))) (cond (!(v1.getD v3.toNat default).bad)
    (cond (decide (0 < (v1.getD v3.toNat default).next))
      (cond (decide ((v1.getD v3.toNat default).next < v4.pages))
        (some ((Device.mk v5.geometry v5.chip v5.table v5.seq v3), 0))
        (ih0 (v1, v2, (w64 (v3 + 1)), v4, v5)))
      (ih0 (v1, v2, (w64 (v3 + 1)), v4, v5)))
    (ih0 (v1, v2, (w64 (v3 + 1)), v4, v5))) none) none)
  (some ((Device.mk v5.geometry v5.chip v5.table v5.seq (-1)), 0))
noncomputable def z20 := fun ih (x : ((List Block) × Int × Int × Geometry × Device)) => z4a ih x.1 x.2.1 x.2.2.1 x.2.2.2.1 x.2.2.2.2
theorem z9p (ih) (x) : z20 ih x = z4a ih x.1 x.2.1 x.2.2.1 x.2.2.2.1 x.2.2.2.2 := rfl
noncomputable def z4b (N : Nat) (ih0 : ((List Block) × Int × Int × Geometry × Chip) -> Option (Device × Int)) (v1 : (List Block)) (v2 : Int) (v3 : Int) (v4 : Geometry) (v5 : Chip) : Option (Device × Int) :=
 cond (decide (v3 < v2))
  (cond (decide (0 <= v3)) (cond (decide (v3 < (v1.length : Int))) (cond (!(decide ((((v1.getD v3.toNat default).pages.length : Nat) : Int) = v4.pages)))
    (cond (decide (0 <= v3))
      (some ((Device.mk (Geometry.mk 0 0 0 0) (Chip.mk [] false false 0) (Table.mk [] []) 0 0), 1))
      (Option.bind (zek v5) fun r6 =>
      Option.bind (z1y (v5, v4.sectors)) fun r7 =>
      ze z20 N (v5.blocks, (v5.blocks.length : Int), 0, v4, (Device.mk v4 r6 r7.1 r7.2 (-1)))))
    (ih0 (v1, v2, (w64 (v3 + 1)), v4, v5))) none) none)
  (Option.bind (zek v5) fun r8 =>
  Option.bind (z1y (v5, v4.sectors)) fun r9 =>
  ze z20 N (v5.blocks, (v5.blocks.length : Int), 0, v4, (Device.mk v4 r8 r9.1 r9.2 (-1))))
noncomputable def z8f (N : Nat) := fun ih (x : ((List Block) × Int × Int × Geometry × Chip)) => z4b N ih x.1 x.2.1 x.2.2.1 x.2.2.2.1 x.2.2.2.2
theorem z9q (N : Nat) (ih) (x) : z8f N ih x = z4b N ih x.1 x.2.1 x.2.2.1 x.2.2.2.1 x.2.2.2.2 := rfl
noncomputable def z9r (N : Nat) (a0 : Geometry) (a1 : Chip) : Option (Device × Int) :=
 Option.bind (z1z a0) fun r1 =>
 cond (!r1)
  (some ((Device.mk (Geometry.mk 0 0 0 0) (Chip.mk [] false false 0) (Table.mk [] []) 0 0), 1))
  (cond (!(decide ((a1.blocks.length : Int) = a0.blocks)))
    (some ((Device.mk (Geometry.mk 0 0 0 0) (Chip.mk [] false false 0) (Table.mk [] []) 0 0), 1))
    (ze (z8f N) N (a1.blocks, (a1.blocks.length : Int), 0, a0, a1)))
noncomputable def z5z (x : Geometry × Chip) : Option (Device × Int) := lim fun N => z9r N x.1 x.2
noncomputable def z7d (ih0 : ((List Int) × Int × Int × (List Block) × Bool × Bool × Int) -> Option (Chip × Int)) (v1 : (List Int)) (v2 : Int) (v3 : Int) (v4 : (List Block)) (v5 : Bool) (v6 : Bool) (v7 : Int) : Option (Chip × Int) :=
 cond (decide (v3 < v2))
  (cond (decide (0 <= v3)) (cond (decide (v3 < (v1.length : Int))) (cond (decide (0 <= (v1.getD v3.toNat 0))) (cond (decide ((v1.getD v3.toNat 0) < (v4.length : Int))) (cond (decide ((Int.toNat (v1.getD v3.toNat 0)) < v4.length)) (ih0 (v1, v2, (w64 (v3 + 1)), (zb2 v4 (Int.toNat (v1.getD v3.toNat 0)) true), v5, v6, v7)) none) none) none) none) none)
  (some ((Chip.mk v4 v5 v6 v7), 0))
noncomputable def zcg := fun ih (x : ((List Int) × Int × Int × (List Block) × Bool × Bool × Int)) => z7d ih x.1 x.2.1 x.2.2.1 x.2.2.2.1 x.2.2.2.2.1 x.2.2.2.2.2.1 x.2.2.2.2.2.2
theorem zdc (ih) (x) : zcg ih x = z7d ih x.1 x.2.1 x.2.2.1 x.2.2.2.1 x.2.2.2.2.1 x.2.2.2.2.2.1 x.2.2.2.2.2.2 := rfl
noncomputable def z7e (N : Nat) (ih0 : (Int × (List Int) × Int × Int × (List Block) × Bool × Bool × Int) -> Option (Chip × Int)) (v1 : Int) (v2 : (List Int)) (v3 : Int) (v4 : Int) (v5 : (List Block)) (v6 : Bool) (v7 : Bool) (v8 : Int) : Option (Chip × Int) :=
 cond (decide (v4 < v3))
  (cond (decide (0 <= v1)) (cond (decide (v1 <= v1)) (cond (decide ((v1 * 40) <= 70368744177664)) (cond (decide (v1 <= 70368744177664)) (cond (decide (0 <= v4)) (cond (decide (v4 < (v5.length : Int))) (cond (decide (v4.toNat < v5.length)) (ih0 (v1, v2, v3, (w64 (v4 + 1)), (z0h v5 v4.toNat (List.replicate v1.toNat (default : Page))), v6, v7, v8)) none) none) none) none) none) none) none)
  (ze zcg N (v2, (v2.length : Int), 0, v5, v6, v7, v8))
noncomputable def z4c (N : Nat) := fun ih (x : (Int × (List Int) × Int × Int × (List Block) × Bool × Bool × Int)) => z7e N ih x.1 x.2.1 x.2.2.1 x.2.2.2.1 x.2.2.2.2.1 x.2.2.2.2.2.1 x.2.2.2.2.2.2.1 x.2.2.2.2.2.2.2
theorem zdd (N : Nat) (ih) (x) : z4c N ih x = z7e N ih x.1 x.2.1 x.2.2.1 x.2.2.2.1 x.2.2.2.2.1 x.2.2.2.2.2.1 x.2.2.2.2.2.2.1 x.2.2.2.2.2.2.2 := rfl
noncomputable def z7f (N : Nat) (a1 : Int) (a2 : (List Int)) (ih0 : ((List Int) × Int × Int × Int) -> Option (Chip × Int)) (v1 : (List Int)) (v2 : Int) (v3 : Int) (v4 : Int) : Option (Chip × Int) :=
 cond (decide (v3 < v2))
  (cond (decide (0 <= v3)) (cond (decide (v3 < (v1.length : Int))) (cond (decide ((v1.getD v3.toNat 0) < 0))
    (cond (decide (0 <= v3))
      (some ((Chip.mk [] false false 0), 1))
      (cond (decide (0 <= v4)) (cond (decide (v4 <= v4)) (cond (decide ((v4 * 48) <= 70368744177664)) (cond (decide (v4 <= 70368744177664)) (ze (z4c N) N (a1, a2, (((List.replicate v4.toNat (default : Block)).length : Nat) : Int), 0, (List.replicate v4.toNat (default : Block)), false, false, 0)) none) none) none) none))
    (cond (decide (v4 <= (v1.getD v3.toNat 0)))
      (cond (decide (0 <= v3))
        (some ((Chip.mk [] false false 0), 1))
        (cond (decide (0 <= v4)) (cond (decide (v4 <= v4)) (cond (decide ((v4 * 48) <= 70368744177664)) (cond (decide (v4 <= 70368744177664)) (ze (z4c N) N (a1, a2, (((List.replicate v4.toNat (default : Block)).length : Nat) : Int), 0, (List.replicate v4.toNat (default : Block)), false, false, 0)) none) none) none) none))
      (ih0 (v1, v2, (w64 (v3 + 1)), v4)))) none) none)
  (cond (decide (0 <= v4)) (cond (decide (v4 <= v4)) (cond (decide ((v4 * 48) <= 70368744177664)) (cond (decide (v4 <= 70368744177664)) (ze (z4c N) N (a1, a2, (((List.replicate v4.toNat (default : Block)).length : Nat) : Int), 0, (List.replicate v4.toNat (default : Block)), false, false, 0)) none) none) none) none)
noncomputable def zch (N : Nat) (a1 : Int) (a2 : (List Int)) := fun ih (x : ((List Int) × Int × Int × Int)) => z7f N a1 a2 ih x.1 x.2.1 x.2.2.1 x.2.2.2
theorem zde (N : Nat) (a1 : Int) (a2 : (List Int)) (ih) (x) : zch N a1 a2 ih x = z7f N a1 a2 ih x.1 x.2.1 x.2.2.1 x.2.2.2 := rfl
noncomputable def zg0 (N : Nat) (a0 : Int) (a1 : Int) (a2 : (List Int)) : Option (Chip × Int) :=
 cond (decide (a0 < 1))
  (some ((Chip.mk [] false false 0), 1))
  (cond (decide (32 < a0))
    (some ((Chip.mk [] false false 0), 1))
    (cond (decide (a1 < 1))
      (some ((Chip.mk [] false false 0), 1))
      (cond (decide (16 < a1))
        (some ((Chip.mk [] false false 0), 1))
        (ze (zch N a1 a2) N (a2, (a2.length : Int), 0, a0)))))
noncomputable def zkb (x : Int × Int × (List Int)) : Option (Chip × Int) := lim fun N => zg0 N x.1 x.2.1 x.2.2
noncomputable def z5n (ih0 : (Int × (List Block) × Int × Int) -> Option Int) (v1 : Int) (v2 : (List Block)) (v3 : Int) (v4 : Int) : Option Int :=
 cond (decide (v4 < v3))
  (cond (decide (0 <= v4)) (cond (decide (v4 < (v2.length : Int))) (cond (v2.getD v4.toNat default).bad
    (ih0 ((w64 (v1 + 1)), v2, v3, (w64 (v4 + 1))))
    (ih0 (v1, v2, v3, (w64 (v4 + 1))))) none) none)
  (some v1)
noncomputable def zai := fun ih (x : (Int × (List Block) × Int × Int)) => z5n ih x.1 x.2.1 x.2.2.1 x.2.2.2
theorem zbg (ih) (x) : zai ih x = z5n ih x.1 x.2.1 x.2.2.1 x.2.2.2 := rfl
noncomputable def zoh (N : Nat) (a0 : Chip) : Option Int :=
 ze zai N (0, a0.blocks, (a0.blocks.length : Int), 0)
noncomputable def zci (x : Chip) : Option Int := lim fun N => zoh N x
noncomputable def z7g (a0 : Geometry) (a1 : (List Int)) : Option (Device × Int) :=
 Option.bind (z1z a0) fun r1 =>
 cond (!r1)
  (some ((Device.mk (Geometry.mk 0 0 0 0) (Chip.mk [] false false 0) (Table.mk [] []) 0 0), 1))
  (Option.bind (zkb (a0.blocks, a0.pages, a1)) fun r2 =>
  cond (!(decide (r2.2 = 0)))
   (some ((Device.mk (Geometry.mk 0 0 0 0) (Chip.mk [] false false 0) (Table.mk [] []) 0 0), 1))
   (Option.bind (zci r2.1) fun r3 =>
   cond (decide (a0.spare < r3))
    (some ((Device.mk (Geometry.mk 0 0 0 0) (Chip.mk [] false false 0) (Table.mk [] []) 0 0), 1))
    (Option.bind (z5z (a0, r2.1)) fun r4 =>
    some (r4.1, r4.2))))
noncomputable def z2j (x : Geometry × (List Int)) : Option (Device × Int) := z7g x.1 x.2
noncomputable def zg1 (a0 : Chip) (a1 : Table) (a2 : Int) : Option Str :=
 cond (decide (a2 < 0))
  (some [])
  (cond (decide ((a1.map.length : Int) <= a2))
    (some [])
    (cond (decide (0 <= a2)) (cond (decide (a2 < (a1.map.length : Int))) (Option.bind (zhb (a0, (a1.map.getD a2.toNat 0))) fun r1 =>
    some r1.1.data) none) none))
noncomputable def zkc (x : Chip × Table × Int) : Option Str := zg1 x.1 x.2.1 x.2.2
noncomputable def z7h (ih0 : (Int × Int × Device × (List Str)) -> Option ((List Str))) (v1 : Int) (v2 : Int) (v3 : Device) (v4 : (List Str)) : Option ((List Str)) :=
 cond (decide (v2 < v1))
  (Option.bind (zkc (v3.chip, v3.table, v2)) fun r5 =>
  cond (decide (0 <= v2)) (cond (decide (v2 < (v4.length : Int))) (cond (decide (v2.toNat < v4.length)) (ih0 (v1, (w64 (v2 + 1)), v3, (v4.set v2.toNat r5))) none) none) none)
  (some v4)
noncomputable def zcj := fun ih (x : (Int × Int × Device × (List Str))) => z7h ih x.1 x.2.1 x.2.2.1 x.2.2.2
theorem zdf (ih) (x) : zcj ih x = z7h ih x.1 x.2.1 x.2.2.1 x.2.2.2 := rfl
noncomputable def zg2 (N : Nat) (a0 : Device) : Option ((List Str)) :=
 cond (decide (0 <= (a0.table.map.length : Int))) (cond (decide ((a0.table.map.length : Int) <= (a0.table.map.length : Int))) (cond (decide (((a0.table.map.length : Int) * 16) <= 70368744177664)) (cond (decide ((a0.table.map.length : Int) <= 70368744177664)) (ze zcj N ((((List.replicate (Int.toNat (a0.table.map.length : Int)) ([] : Str)).length : Nat) : Int), 0, a0, (List.replicate (Int.toNat (a0.table.map.length : Int)) ([] : Str)))) none) none) none) none
noncomputable def zg3 (x : Device) : Option ((List Str)) := lim fun N => zg2 N x
noncomputable def z5o (a0 : Device) : Option Int :=
 Option.bind (zci a0.chip) fun r1 =>
 some (w64 (2 + (w64 (2 * (max (w64 (a0.geometry.spare - r1)) 0)))))
noncomputable def z5p (x : Device) : Option Int := z5o x
noncomputable def z7i : Option Bool :=
 Option.bind (z6s 0) fun r1 =>
 Option.bind (z2j (r1, [2])) fun r2 =>
 Option.bind (z2j (r1, [2, 3])) fun r3 =>
 Option.bind (z5z (r1, (Chip.mk [] false false 0))) fun r4 =>
 Option.bind (zg3 r2.1) fun r5 =>
 Option.bind (z1z r1) fun r6 =>
 cond r6
  (Option.bind (z1z (Geometry.mk 0 0 0 0)) fun r7 =>
  cond (!r7)
   (cond (decide (r2.2 = 0))
     (cond (decide (r3.2 = 1))
       (cond (decide (r4.2 = 1))
         (cond (decide ((r5.length : Int) = 5))
           (cond (decide (0 < (r5.length : Int))) (cond (decide ((r5.getD 0 []) = []))
             (cond (decide (r2.1.opn = (-1)))
               (Option.bind (z5p r2.1) fun r8 =>
               cond (decide (r8 = 2))
                (some (decide (((r2.1.chip.blocks.length : Nat) : Int) = 8)))
                (some false))
               (some false))
             (some false)) none)
           (some false))
         (some false))
       (some false))
     (some false))
   (some false))
  (some false)
noncomputable def z4d (x : Unit) : Option Bool := z7i
noncomputable def zhc (ih0 : ((List Int) × Int × Geometry × (List Int)) -> Option Bool) (v1 : (List Int)) (v2 : Int) (v3 : Geometry) (v4 : (List Int)) : Option Bool :=
 cond (decide (v2 < (v1.length : Int)))
  (cond (decide (v2 < 6))
    (cond (decide (0 <= v2)) (cond (decide (v2 < (v1.length : Int))) (cond (decide ((v4.length + [(Int.tmod (w64 (v1.getD v2.toNat 0)) 33)].length) * 8 <= 70368744177664)) (cond (decide (v4.length + [(Int.tmod (w64 (v1.getD v2.toNat 0)) 33)].length <= 70368744177664)) (ih0 (v1, (w64 (v2 + 1)), v3, (v4 ++ [(Int.tmod (w64 (v1.getD v2.toNat 0)) 33)]))) none) none) none) none)
    (Option.bind (z2j (v3, v4)) fun r5 =>
    Option.bind (zae (v3, v4)) fun r6 =>
    Option.bind (z4d ()) fun r7 =>
    cond r7
     (Option.bind (z1z v3) fun r8 =>
     Option.bind (z3i v3) fun r9 =>
     cond (r8 == r9)
      (Option.bind (z5w (r5.1, r6.1)) fun r10 =>
      cond r10
       (some (decide (r5.2 = r6.2)))
       (some false))
      (some false))
     (some false)))
  (Option.bind (z2j (v3, v4)) fun r11 =>
  Option.bind (zae (v3, v4)) fun r12 =>
  Option.bind (z4d ()) fun r13 =>
  cond r13
   (Option.bind (z1z v3) fun r14 =>
   Option.bind (z3i v3) fun r15 =>
   cond (r14 == r15)
    (Option.bind (z5w (r11.1, r12.1)) fun r16 =>
    cond r16
     (some (decide (r11.2 = r12.2)))
     (some false))
    (some false))
   (some false))
noncomputable def zhd := fun ih (x : ((List Int) × Int × Geometry × (List Int))) => zhc ih x.1 x.2.1 x.2.2.1 x.2.2.2
noncomputable def zdg (N : Nat) (a0 : Int) (a1 : Int) (a2 : Int) (a3 : Int) (a4 : (List Int)) : Option Bool :=
 ze zhd N (a4, 0, (Geometry.mk (Int.tmod (w64 a0) 34) (Int.tmod (w64 a1) 18) (Int.tmod (w64 a2) 67) (Int.tmod (w64 a3) 16)), [])
noncomputable def zm4 (x : Int × Int × Int × Int × (List Int)) : Option Bool := lim fun N => zdg N x.1 x.2.1 x.2.2.1 x.2.2.2.1 x.2.2.2.2
noncomputable def z4e (ih0 : ((List Str) × (List Str) × Int) -> Option Bool) (v1 : (List Str)) (v2 : (List Str)) (v3 : Int) : Option Bool :=
 cond (decide (v3 < (v1.length : Int)))
  (cond (decide (0 <= v3)) (cond (decide (v3 < (v1.length : Int))) (cond (decide (0 <= v3)) (cond (decide (v3 < (v2.length : Int))) (cond (!(decide ((v1.getD v3.toNat []) = (v2.getD v3.toNat []))))
    (some false)
    (ih0 (v1, v2, (w64 (v3 + 1))))) none) none) none) none)
  (some true)
noncomputable def z8g := fun ih (x : ((List Str) × (List Str) × Int)) => z4e ih x.1 x.2.1 x.2.2
theorem z9s (ih) (x) : z8g ih x = z4e ih x.1 x.2.1 x.2.2 := rfl
noncomputable def z9t (N : Nat) (a0 : (List Str)) (a1 : (List Str)) : Option Bool :=
 cond (!(decide ((a0.length : Int) = (a1.length : Int))))
  (some false)
  (ze z8g N (a0, a1, 0))
noncomputable def zel (x : (List Str) × (List Str)) : Option Bool := lim fun N => z9t N x.1 x.2
noncomputable def zck (a0 : Chip) (a1 : Table) (a2 : Int) : Option Str :=
 cond (decide (a2 < 0))
  (some [])
  (cond (decide ((a1.map.length : Int) <= a2))
    (some [])
    (cond (decide (0 <= a2)) (cond (decide (a2 < (a1.map.length : Int))) (Option.bind (zej (a0, (a1.map.getD a2.toNat 0))) fun r1 =>
    some r1.1.data) none) none))
noncomputable def zhe (x : Chip × Table × Int) : Option Str := zck x.1 x.2.1 x.2.2
noncomputable def z5q (ih0 : (Int × Device × (List Str)) -> Option ((List Str))) (v1 : Int) (v2 : Device) (v3 : (List Str)) : Option ((List Str)) :=
 cond (decide (v1 < (v2.table.map.length : Int)))
  (Option.bind (zhe (v2.chip, v2.table, v1)) fun r4 =>
  cond (decide ((v3.length + [r4].length) * 16 <= 70368744177664)) (cond (decide (v3.length + [r4].length <= 70368744177664)) (ih0 ((w64 (v1 + 1)), v2, (v3 ++ [r4]))) none) none)
  (some v3)
noncomputable def zaj := fun ih (x : (Int × Device × (List Str))) => z5q ih x.1 x.2.1 x.2.2
theorem zbh (ih) (x) : zaj ih x = z5q ih x.1 x.2.1 x.2.2 := rfl
noncomputable def zoi (N : Nat) (a0 : Device) : Option ((List Str)) :=
 ze zaj N (0, a0, [])
noncomputable def zhf (x : Device) : Option ((List Str)) := lim fun N => zoi N x
noncomputable def z4f (a0 : Device) : Option Int :=
 Option.bind (z9j a0.chip) fun r1 =>
 some (w64 (2 + (w64 (2 * (max (w64 (a0.geometry.spare - r1)) 0)))))
noncomputable def z8h (x : Device) : Option Int := z4f x
noncomputable def z2k (a0 : (List Int)) (a1 : Int) (a2 : Bool) : Option Bool :=
 Option.bind (z6s a1) fun r1 =>
 Option.bind (ze5 (a0, r1.blocks, r1.pages)) fun r2 =>
 Option.bind (z5z (r1, (Chip.mk r2.blocks r2.broken a2 r2.ops))) fun r3 =>
 Option.bind (z6q (r1, (Chip.mk r2.blocks r2.broken a2 r2.ops))) fun r4 =>
 Option.bind (z4d ()) fun r5 =>
 cond r5
  (Option.bind (z5w (r3.1, r4.1)) fun r6 =>
  cond r6
   (cond (decide (r3.2 = r4.2))
     (Option.bind (zg3 r3.1) fun r7 =>
     Option.bind (zhf r4.1) fun r8 =>
     Option.bind (zel (r7, r8)) fun r9 =>
     cond r9
      (Option.bind (z5p r3.1) fun r10 =>
      Option.bind (z8h r4.1) fun r11 =>
      some (decide (r10 = r11)))
      (some false))
     (some false))
   (some false))
  (some false)
noncomputable def z4w (x : (List Int) × Int × Bool) : Option Bool := z2k x.1 x.2.1 x.2.2
end Clk
