/- A part of the proof of DiskRoom: an evaluator of the program's code that the kernel runs, its soundness, what the functions compute. -/
import Derived.Test.YtpncgjcflkhemabPartD
import Derived.IntWalk
import Derived.KernelRfl
import Derived.ChangeSlices
import Derived.Sort.Row
set_option linter.unusedVariables false
set_option linter.unusedSimpArgs false
set_option maxRecDepth 1000000
namespace Clk
open Go
theorem z6 {X R : Type} (F : (X -> Option R) -> X -> Option R) (N : Nat) (x : X) : zj F (N + 1) x = F (zj F N) x := rfl
theorem zl {α : Type} {xs l : List α} {k : Nat} {a : α} (h : xs.drop k = a :: l) : k < xs.length /\ (∀ d, xs.getD k d = a) /\ xs.drop (k + 1) = l := by
 have hk : k < xs.length := by
  apply Nat.lt_of_not_le
  intro hn; rw [List.drop_eq_nil_of_le hn] at h; cases h
 rw [List.drop_eq_getElem_cons hk] at h; injection h with h1 h2
 exact ⟨hk, fun d => by rw [zI, zH hk, h1]; rfl, h2⟩
theorem z01 {α : Type} {xs : List α} {k : Nat} (h : xs.drop k = []) : xs.length <= k := List.drop_eq_nil_iff.1 h
theorem zi {n : Int} (h1 : -9223372036854775808 <= n) (h2 : n < 9223372036854775808) : w64 n = n := Go.IntWalk.i64_in n ⟨h1, by omega⟩
theorem zib {n : Int} (h1 : 0 <= n) (h2 : n < 4294967296) : IntKind.u32.wrap n = n := Go.IntWalk.u32_in n ⟨h1, by omega⟩
theorem zyx {n : Int} (h1 : 0 <= n) (h2 : n < 256) : IntKind.u8.wrap n = n := Go.IntWalk.u8_in n ⟨h1, by omega⟩
theorem z8 {α β : Type} (a : α) (f : α -> Option β) : (some a).bind f = f a := rfl
theorem zjr {k : IntKind} {n m : Nat} (hn : n < 2 ^ k.bits) (hm : m < 2 ^ k.bits) : bXor k n m = ((n ^^^ m : Nat) : Int) := by
 unfold bXor; simp only [BitVec.ofInt_natCast, BitVec.toNat_xor, BitVec.toNat_ofNat, Nat.mod_eq_of_lt hn, Nat.mod_eq_of_lt hm]
theorem zwf {k : IntKind} {n m : Nat} (hn : n < 2 ^ k.bits) (hm : m < 2 ^ k.bits) : bAnd k n m = ((n &&& m : Nat) : Int) := by
 unfold bAnd; simp only [BitVec.ofInt_natCast, BitVec.toNat_and, BitVec.toNat_ofNat, Nat.mod_eq_of_lt hn, Nat.mod_eq_of_lt hm]
theorem zu5 {k : IntKind} {n m : Nat} (hn : n < 2 ^ k.bits) (hm : m < 2 ^ k.bits) : bOr k n m = ((n ||| m : Nat) : Int) := by
 unfold bOr; simp only [BitVec.ofInt_natCast, BitVec.toNat_or, BitVec.toNat_ofNat, Nat.mod_eq_of_lt hn, Nat.mod_eq_of_lt hm]
def stepN (c : Nat) : Nat := if c % 2 = 1 then (c / 2) ^^^ 3988292384 else c / 2
def stepsN : Nat -> Nat -> Nat
 | 0, c => c
 | k + 1, c => stepsN k (stepN c)
def crcL : Str -> Nat -> Nat
 | [], c => c
 | b :: l, c => crcL l (stepsN 8 (c ^^^ b.toNat))
def crcT (s : Str) : Nat := crcL s 4294967295 ^^^ 4294967295
theorem zic {a b : Nat} (ha : a < 4294967296) (hb : b < 4294967296) : a ^^^ b < 4294967296 := Nat.xor_lt_two_pow (n := 32) ha hb
theorem zpo {c : Nat} (h : c < 4294967296) : stepN c < 4294967296 := by
 unfold stepN; split
 · exact zic (by omega) (by omega)
 · omega
theorem zg2 : ∀ (k : Nat) {c : Nat}, c < 4294967296 -> stepsN k c < 4294967296
 | 0, c, h => h
 | k + 1, c, h => zg2 k (zpo h)
theorem zyy (b : UInt8) : b.toNat < 256 := b.toNat_lt
theorem zu6 : ∀ (s : Str) {c : Nat}, c < 4294967296 -> crcL s c < 4294967296
 | [], c, h => h
 | b :: l, c, h => zu6 l (zg2 8 (zic h (by have := zyy b; omega)))
theorem zyz (s : Str) : crcT s < 4294967296 := zic (zu6 s (by omega)) (by omega)
theorem and1 (c : Nat) : c &&& 1 = c % 2 := Nat.and_one_is_mod c
theorem zxg {ih0 : Str × Int × Int × Int -> Option Int} {s : Str} {i n : Int} (hi : w64 (i + 1) = i + 1) : ∀ (k N c : Nat) (j : Int), j = 8 - k -> k <= 8 -> c < 4294967296 -> k < N -> zj (z5w ih0) N (s, c, n, i, j) = ih0 (s, ((stepsN k c : Nat) : Int), n, i + 1)
 | 0, N + 1, c, j, h1, _, h2, _ => by
   rw [z6]; unfold z5w z94; simp only [hi]; rw [zF (by omega)]; rfl
 | k + 1, N + 1, c, j, h1, h3, h2, h4 => by
   rw [z6]; unfold z5w z94; simp only; have e1 : bAnd .u32 (c : Int) 1 = ((c % 2 : Nat) : Int) := by
    rw [show (1 : Int) = ((1 : Nat) : Int) from rfl, zwf (k := .u32) h2 (by decide), and1]
   have e2 : Int.fdiv (c : Int) (2 ^ (min 1 32)) = ((c / 2 : Nat) : Int) := by
    rw [show (2 : Int) ^ (min 1 32) = 2 from rfl, Int.fdiv_eq_ediv_of_nonneg _ (by omega)]; rfl
   have h6 := zic (show c / 2 < 4294967296 by omega) (show 3988292384 < 4294967296 by omega); rw [zT (show j < 8 by omega), zC, e1, e2, zib (by omega) (by omega), show (3988292384 : Int) = ((3988292384 : Nat) : Int) from rfl, zjr (k := .u32) (show c / 2 < 4294967296 by omega) (by decide), zib (n := ((c / 2 ^^^ 3988292384 : Nat) : Int)) (by omega) (by omega), zi (n := j + 1) (by omega) (by omega)]; have h5 := zxg (ih0 := ih0) (s := s) (i := i) (n := n) hi k N (stepN c) (j + 1) (by omega) (by omega) (zpo h2) (by omega); unfold stepN at h5; show _ = ih0 (s, ((stepsN k (stepN c) : Nat) : Int), n, i + 1); unfold stepN; by_cases h7 : c % 2 = 1
   · rw [if_pos h7] at h5 ⊢; rw [zF (by omega), Bool.not_false, zC]; exact h5
   · rw [if_neg h7] at h5 ⊢; rw [zT (by omega), Bool.not_true, zD]; exact h5
 | _, 0, _, _, _, _, _, h => by omega
theorem zwg {c : Nat} (h : c < 4294967296) : bNot .u32 (c : Int) = ((c ^^^ 4294967295 : Nat) : Int) := by
 have := zjr (k := .u32) (n := 4294967295) (m := c) (by decide) h; rw [Nat.xor_comm] at this; exact this
theorem zxh {s : Str} (hs : s.length < 4294967296) : ∀ (l : Str) (N M k c : Nat) (i : Int), s.drop k = l -> i = k -> c < 4294967296 -> 8 < M -> l.length < N -> zj (z5x M) N (s, c, (s.length : Int), i) = some (((crcL l c ^^^ 4294967295 : Nat)) : Int)
 | [], N + 1, M, k, c, i, h1, h2, h3, h4, _ => by
   rw [z6]; unfold z5x z95; have := z01 h1; have h5 := zic h3 (show 4294967295 < 4294967296 by omega); simp only; rw [zF (by omega), zD, zwg h3, zib (by omega) (by omega), zi (by omega) (by omega)]; rfl
 | b :: l, N + 1, M, k, c, i, h1, h2, h3, h4, h5 => by
   rw [z6]; unfold z5x z95; obtain ⟨g1, g2, g3⟩ := zl h1; have hb := zyy b; have hx := zic h3 (show b.toNat < 4294967296 by omega); subst h2; simp only [Int.toNat_natCast, g2]; rw [zT (show (k : Int) < s.length by omega), zT (show (0 : Int) <= k by omega)]; simp only [zC]; rw [zib (n := (b.toNat : Int)) (by omega) (by omega), zjr (k := .u32) h3 (show b.toNat < 4294967296 by omega), zib (n := ((c ^^^ b.toNat : Nat) : Int)) (by omega) (by omega)]; rw [zxg (zi (by omega) (by omega)) 8 M _ 0 (by omega) (by omega) hx h4]; exact zxh hs l N M (k + 1) _ _ g3 (by omega) (zg2 8 hx) h4 (by simp at h5; omega)
 | _, 0, _, _, _, _, _, _, _, _, h => by omega
theorem zu7 {s : Str} (hs : s.length < 4294967296) : zg1 s = some ((crcT s : Nat) : Int) := by
 refine z1z (s.length + 9) fun N hN => ?_
 exact zxh hs s N N 0 4294967295 0 rfl rfl (by omega) (by omega) (by omega)
end Clk
namespace Clk
open Go
theorem zlv (n : Nat) : IntKind.u8.wrap (n : Int) = ((n % 256 : Nat) : Int) := by rw [IntKind.wrap_u8]; omega
theorem zlw (n : Nat) : UInt8.ofNat (n % 256) = UInt8.ofNat n := by
 apply UInt8.toNat_inj.1
 simp
def bytes4 (n : Nat) : Str := [UInt8.ofNat (n % 256), UInt8.ofNat (n / 256 % 256), UInt8.ofNat (n / 65536 % 256), UInt8.ofNat (n / 16777216)]
theorem zwh (n m : Nat) : Int.tmod (n : Int) (m : Int) = ((n % m : Nat) : Int) := by rw [Int.tmod_eq_emod_of_nonneg (by omega)]; rfl
theorem zbr (n m : Nat) : Int.fdiv (n : Int) (m : Int) = ((n / m : Nat) : Int) := by rw [Int.fdiv_eq_ediv_of_nonneg _ (by omega)]; rfl
theorem zlx (M : Nat) (c : Int) : zj za7 (M + 5) (c, 0, [0, 0, 0, 0]) = some (bytesOf [IntKind.u8.wrap (Int.fdiv c 1), IntKind.u8.wrap (Int.fdiv c 256), IntKind.u8.wrap (Int.fdiv c 65536), IntKind.u8.wrap (Int.fdiv c 16777216)]) := by kernel_rfl
theorem znw {n : Nat} (h : n < 4294967296) : zat n = some (bytes4 n) := by
 refine z1z 5 fun N hN => ?_
 obtain ⟨M, rfl⟩ : ∃ M, N = M + 5 := ⟨N - 5, by omega⟩; unfold zas; rw [zib (n := (n : Int)) (by omega) (by omega), zi (n := (n : Int)) (by omega) (by omega), zT rfl, Bool.not_true, zD, zlx]; have e1 : Int.fdiv (n : Int) 1 = (n : Int) := by have := zbr n 1; rw [Nat.div_one] at this; exact this
 have e2 : Int.fdiv (n : Int) 256 = ((n / 256 : Nat) : Int) := zbr n 256; have e3 : Int.fdiv (n : Int) 65536 = ((n / 65536 : Nat) : Int) := zbr n 65536; have e4 : Int.fdiv (n : Int) 16777216 = ((n / 16777216 : Nat) : Int) := zbr n 16777216; rw [e1, e2, e3, e4, zlv, zlv, zlv, zlv]; simp only [bytesOf, List.map_cons, List.map_nil, Int.toNat_natCast, bytes4]; rw [zlw (n / 16777216)]
def putN : Nat -> Nat -> Str
 | 0, n => [UInt8.ofNat n]
 | f + 1, n => if 127 < n then UInt8.ofNat (128 + n % 128) :: putN f (n / 128) else [UInt8.ofNat n]
def putV (n : Int) : Str := if n < 0 \/ 1099511627776 < n then [] else putN 5 n.toNat
theorem zpp : ∀ (f n : Nat), (putN f n).length <= f + 1
 | 0, n => Nat.le_refl _
 | f + 1, n => by
   unfold putN; split
   · have := zpp f (n / 128); simp; omega
   · simp
theorem zek (n : Int) : (putV n).length <= 6 := by
 unfold putV; split
 · simp
 · exact zpp 5 _
theorem zz0 : ∀ (f n : Nat), putN f n ≠ []
 | 0, n => by simp [putN]
 | f + 1, n => by unfold putN; split <;> simp
theorem or128 {x : Nat} (h : x < 256) : x ||| 128 = 128 + x % 128 := by
 have : ∀ x : Fin 256, x.val ||| 128 = 128 + x.val % 128 := by decide +kernel
 exact this ⟨x, h⟩
theorem zau (a b : List Int) : bytesOf (a ++ b) = bytesOf a ++ bytesOf b := by simp [bytesOf]
theorem zg3 : ∀ (f N n : Nat) (s : List Int), n < 128 ^ (f + 1) -> n < 4611686018427387904 -> s.length + f < 1099511627776 -> f < N -> zj z7p N (n, s) = some (bytesOf s ++ putN f n)
 | f, 0, n, s, _, _, _, h => by omega
 | 0, N + 1, n, s, h1, h5, h2, _ => by
   rw [z6]; rw [z8i]; unfold z4j; simp only [putN]; rw [zF (by omega), zD, zyx (n := (n : Int)) (by omega) (by omega), zT (by simp; omega), zC, zT (by simp; omega), zC, zau]; rfl
 | f + 1, N + 1, n, s, h1, h5, h2, h3 => by
   rw [z6]; rw [z8i]; unfold z4j; simp only [putN]; have e2 : Int.fdiv (n : Int) (2 ^ (min 7 64)) = ((n / 128 : Nat) : Int) := zbr n 128; by_cases h4 : 127 < n
   · have e4 : IntKind.u8.wrap (bOr .u8 (IntKind.u8.wrap (n : Int)) 128) = 128 + ((n % 128 : Nat) : Int) := by
      rw [zlv, show (128 : Int) = ((128 : Nat) : Int) from rfl, zu5 (k := .u8) (show n % 256 < 256 by omega) (by decide), or128 (by omega), zyx (by omega) (by omega)]; omega
     rw [zT (show (128 : Int) <= n by omega), zC, if_pos h4, e4, e2, zT (by simp; omega), zC, zT (by simp; omega), zC]; have e3 : bytesOf [128 + ((n % 128 : Nat) : Int)] = [UInt8.ofNat (128 + n % 128)] := by simp only [bytesOf, List.map_cons, List.map_nil]; congr 2
     rw [zg3 f N (n / 128) _ (by rw [Nat.pow_succ] at h1; omega) (by omega) (by simp; omega) (by omega), zau, e3]; simp
   · rw [zF (show ¬ (128 : Int) <= n by omega), zD, if_neg h4, zyx (n := (n : Int)) (by omega) (by omega), zT (by simp; omega), zC, zT (by simp; omega), zC, zau]; rfl
theorem zid (n : Int) : z9y n = some (putV n) := by
 refine z1z 6 fun N hN => ?_
 unfold zco putV; by_cases h1 : n < 0
 · rw [zT h1, zC, if_pos (.inl h1)]
 · by_cases h2 : 1099511627776 < n
   · rw [zF h1, zD, zT h2, zC, if_pos (.inr h2)]
   · rw [zF h1, zD, zF h2, zD, if_neg (by omega)]; obtain ⟨k, rfl⟩ : ∃ k : Nat, n = k := ⟨n.toNat, by omega⟩; have := zg3 5 N k [] (by simp; omega) (by omega) (by simp) (by omega); simpa [bytesOf] using this
def packL : List Int -> Str -> Str × Int
 | [], s => (s, 0)
 | n :: l, s => if putV n = [] then ([], 1) else packL l (s ++ putV n)
def packT (l : List Int) : Str × Int := packL l (putV l.length)
theorem zds {xs : List Int} (hs : xs.length < 4294967296) : ∀ (l : List Int) (N k : Nat) (i : Int) (s : Str), xs.drop k = l -> i = k -> s.length + 6 * l.length < 1099511627776 -> l.length < N -> zj z6e N (s, xs, (xs.length : Int), i) = some (packL l s)
 | l, 0, _, _, _, _, _, _, h => by omega
 | [], N + 1, k, i, s, h1, h2, h3, _ => by
   have := z01 h1; rw [z6]; rw [z6y]; unfold z3l; simp only [packL]; rw [zF (by omega)]; rfl
 | n :: l, N + 1, k, i, s, h1, h2, h3, h4 => by
   obtain ⟨g1, g2, g3⟩ := zl h1; subst h2; rw [z6]; rw [z6y]; unfold z3l; simp only [Int.toNat_natCast, g2, packL, zid, z8]; have hp := zek n; simp only [List.length_cons] at h3 h4; rw [zT (show (k : Int) < xs.length by omega), zT (show (0 : Int) <= k by omega)]; simp only [zC]; by_cases h5 : putV n = []
   · rw [zT h5, if_pos h5]; rfl
   · rw [zF h5, if_neg h5, zD, zT (by omega), zC]; exact zds hs l N (k + 1) _ _ g3 (by rw [zi (by omega) (by omega)]; omega) (by simp; omega) (by omega)
theorem zav {l : List Int} (hs : l.length < 4294967296) : z5e l = some (packT l) := by
 refine z1z (l.length + 1) fun N hN => ?_
 unfold zar; rw [zid, z8]; have := zek l.length; exact zds hs l N 0 0 _ rfl rfl (by omega) (by omega)
def takeN : Nat -> Bool -> Nat -> Nat -> Str -> Int × Str × Bool
 | 0, _, _, _, _ => (0, [], false)
 | _ + 1, _, _, _, [] => (0, [], false)
 | f + 1, first, n, u, c :: l => if c.toNat < 128 then (if 1099511627776 < n + c.toNat * u \/ (first = false /\ c.toNat = 0) then (0, [], false) else (((n + c.toNat * u : Nat) : Int), l, true)) else takeN f false (n + c.toNat % 128 * u) (u * 128) l
def takeT (s : Str) : Int × Str × Bool := takeN 6 true 0 1 s
theorem zg4 : ∀ (f : Nat) (b : Bool) (n u : Nat) (s : Str), (takeN f b n u s).2.1.length <= s.length /\ 0 <= (takeN f b n u s).1
 | 0, b, n, u, s => by simp [takeN]
 | f + 1, b, n, u, [] => by simp [takeN]
 | f + 1, b, n, u, c :: l => by
   unfold takeN; split
   · split
     · simp
     · simp; omega
   · have := zg4 f false (n + c.toNat % 128 * u) (u * 128) l; simp; omega
theorem zbs (s : Str) : (takeT s).2.1.length <= s.length := (zg4 6 true 0 1 s).1
theorem zwi (s : Str) : 0 <= (takeT s).1 := (zg4 6 true 0 1 s).2
def unpackL : Nat -> Str -> List Int -> List Int × Str × Int
 | 0, s, acc => (acc, s, 0)
 | k + 1, s, acc => if (takeT s).2.2 = false then ([], [], 20) else unpackL k (takeT s).2.1 (acc ++ [(takeT s).1])
def za (s : Str) : List Int × Str × Int := if (takeT s).2.2 = false \/ ((takeT s).2.1.length : Int) < (takeT s).1 then ([], [], 20) else unpackL (takeT s).1.toNat (takeT s).2.1 []
end Clk
namespace Clk
open Go
def inr (n : Int) : Bool := decide (0 <= n) && decide (n < 64)
def chkL : Option Int -> List Int -> Bool
 | _, [] => true
 | p, a :: l => inr a && (match p with | none => true | some q => decide (q < a)) && chkL (some a) l
def keysT (l : List Int) : Bool := chkL none l && decide (0 < l.length) && decide (l.length <= 8)
def nd : List Int -> Bool
 | a :: b :: l => decide (a <= b) && nd (b :: l)
 | _ => true
def noEq : List Int -> Bool
 | a :: b :: l => decide (a ≠ b) && noEq (b :: l)
 | _ => true
theorem zpq : ∀ (l : List Int) (q : Int), chkL (some q) l = (l.all inr && nd (q :: l) && noEq (q :: l))
 | [], q => rfl
 | a :: l, q => by
   simp only [chkL, zpq l a, List.all_cons, nd, noEq]; by_cases h1 : q < a
   · rw [zT h1, zT (show q <= a by omega), zT (show q ≠ a by omega)]; cases inr a <;> simp
   · by_cases h2 : q = a
     · subst h2; simp
     · rw [zF h1, zF (show ¬ q <= a by omega)]; simp
theorem zwj (l : List Int) : chkL none l = (l.all inr && nd l && noEq l) := by
 cases l with
 | nil => rfl
 | cons a l => simp only [chkL, zpq, List.all_cons]; cases inr a <;> simp
theorem zxi : ∀ (l : List Int), nd l = true ↔ ∀ j, j + 1 < l.length -> l.getD j 0 <= l.getD (j + 1) 0
 | [] => by simp [nd]
 | [a] => by simp [nd]
 | a :: b :: l => by
   simp only [nd, Bool.and_eq_true, decide_eq_true_eq, zxi (b :: l)]; constructor
   · rintro ⟨h1, h2⟩ j hj
     cases j with
     | zero => exact h1
     | succ j => exact h2 j (by simpa using hj)
   · intro h; exact ⟨h 0 (by simp), fun j hj => h (j + 1) (by simpa using hj)⟩
theorem zrb (a b : Int) : zcl (a, b) = some (decide (a < b)) := by
 show z9x a b = _; unfold z9x z7h zao; simp
theorem zly {xs : List Int} (hs : xs.length < 4294967296) : ∀ (k N : Nat) (i : Int), i = k -> (k = 0 \/ k < xs.length) -> k < N -> ∃ b : Bool, zj z1v N (xs, i) = some b /\ (b = true ↔ ∀ j, j < k -> xs.getD j 0 <= xs.getD (j + 1) 0)
 | k, 0, _, _, _, h => by omega
 | 0, N + 1, i, h1, _, _ => by
   rw [z6, z2q]; unfold z0k; simp only; rw [zF (by omega), zD]; exact ⟨true, rfl, by simp⟩
 | k + 1, N + 1, i, h1, h2, h3 => by
   subst h1; have e1 : w64 (((k + 1 : Nat) : Int) - 1) = (k : Int) := by rw [zi (by omega) (by omega)]; omega
   obtain ⟨b, g1, g2⟩ := zly hs k N (k : Int) rfl (by omega) (by omega); rw [z6, z2q]; unfold z0k; simp only [e1, Int.toNat_natCast, zrb, z8, g1]; rw [zT (show (0 : Int) < ((k + 1 : Nat) : Int) by omega), zT (show (0 : Int) <= ((k + 1 : Nat) : Int) by omega), zT (show ((k + 1 : Nat) : Int) < xs.length by omega), zT (show (0 : Int) <= k by omega), zT (show (k : Int) < xs.length by omega)]; simp only [zC]; by_cases hc : xs.getD (k + 1) 0 < xs.getD k 0
   · rw [zT hc, zC]; refine ⟨false, rfl, ?_⟩; simp only [Bool.false_eq_true, false_iff]; intro h; have := h k (by omega); omega
   · rw [zF hc, zD]; refine ⟨b, rfl, g2.trans ⟨fun h j hj => ?_, fun h j hj => h j (by omega)⟩⟩; by_cases hjk : j = k
     · subst hjk; omega
     · exact h j (by omega)
theorem zrc {l : List Int} (hs : l.length < 4294967296) : z3b l = some (nd l) := by
 refine z1z (l.length + 1) fun N hN => ?_
 unfold z3a; by_cases h0 : l.length = 0
 · have : l = [] := List.eq_nil_of_length_eq_zero h0; subst this; obtain ⟨M, rfl⟩ : ∃ M, N = M + 1 := ⟨N - 1, by omega⟩; rfl
 · obtain ⟨b, g1, g2⟩ := zly hs (l.length - 1) N (w64 ((l.length : Int) - 1)) (by rw [zi (by omega) (by omega)]; omega) (by omega) (by omega); rw [g1]; congr 1
   rw [Bool.eq_iff_iff, g2, zxi]; exact ⟨fun h j hj => h j (by omega), fun h j hj => h j (by omega)⟩
theorem zu8 {a0 xs : List Int} (hs : xs.length < 4294967296) : ∀ (l : List Int) (N k : Nat) (i : Int) (ys : List Int), xs.drop k = l -> i = k -> l.length < N -> zj (z7i a0) N (xs, (xs.length : Int), i, ys) = some (l.all inr)
 | l, 0, _, _, _, _, _, h => by omega
 | [], N + 1, k, i, ys, h1, h2, _ => by
   have := z01 h1; rw [z6, z8c]; unfold z4d; simp only [List.all_nil]; rw [zF (by omega), zD]; rfl
 | a :: l, N + 1, k, i, ys, h1, h2, h3 => by
   obtain ⟨g1, g2, g3⟩ := zl h1; subst h2; have ih := zu8 (a0 := a0) hs l N (k + 1) (w64 (k + 1)) ys g3 (by rw [zi (by omega) (by omega)]; omega) (by simp at h3; omega); rw [z6, z8c]; unfold z4d; simp only [Int.toNat_natCast, g2, ih, List.all_cons, inr]; rw [zT (show (k : Int) < xs.length by omega), zT (show (0 : Int) <= k by omega)]; simp only [zC, Bool.not_true, zD]; by_cases c1 : a < 0
   · rw [zT c1, zF (show ¬ 0 <= a by omega)]; simp
   · rw [zF c1, zT (show 0 <= a by omega), zD]; by_cases c2 : 64 <= a
     · rw [zT c2, zF (show ¬ a < 64 by omega)]; simp
     · rw [zF c2, zT (show a < 64 by omega), zD]; simp
theorem zu9 {a0 v0 xs : List Int} (hv : v0.length = a0.length) (hs : xs.length < 4294967296) : ∀ (l : List Int) (N k : Nat) (i : Int) (ys : List Int), xs.drop k = l -> i = k -> l.length < N -> zj (z7l a0 v0) N (xs, (xs.length : Int), i, ys) = some (l.all inr)
 | l, 0, _, _, _, _, _, h => by omega
 | [], N + 1, k, i, ys, h1, h2, _ => by
   have := z01 h1; rw [z6, z8f]; unfold z4g; simp only [List.all_nil]; rw [zF (by omega), zD, zT (by omega)]
 | a :: l, N + 1, k, i, ys, h1, h2, h3 => by
   obtain ⟨g1, g2, g3⟩ := zl h1; subst h2; have ih := zu9 hv hs l N (k + 1) (w64 (k + 1)) ys g3 (by rw [zi (by omega) (by omega)]; omega) (by simp at h3; omega); rw [z6, z8f]; unfold z4g; simp only [Int.toNat_natCast, g2, ih, List.all_cons, inr]; rw [zT (show (k : Int) < xs.length by omega), zT (show (0 : Int) <= k by omega)]; simp only [zC, Bool.not_true, zD]; by_cases c1 : a < 0
   · rw [zT c1, zF (show ¬ 0 <= a by omega)]; simp
   · rw [zF c1, zT (show 0 <= a by omega), zD]; by_cases c2 : 64 <= a
     · rw [zT c2, zF (show ¬ a < 64 by omega)]; simp
     · rw [zF c2, zT (show a < 64 by omega), zD]; simp
theorem zua {a0 xs : List Int} {v0 : Int} (hv : ((v0.toNat : Nat) : Int) ≠ a0.length) (hs : xs.length < 4294967296) : ∀ (l : List Int) (N k : Nat) (i : Int) (ys : List Int), xs.drop k = l -> i = k -> l.length < N -> zj (z7j a0 v0) N (xs, (xs.length : Int), i, ys) = some false
 | l, 0, _, _, _, _, _, h => by omega
 | [], N + 1, k, i, ys, h1, h2, _ => by
   have := z01 h1; rw [z6, z8d]; unfold z4e; simp only; rw [zF (by omega), zD, zF hv]
 | a :: l, N + 1, k, i, ys, h1, h2, h3 => by
   obtain ⟨g1, g2, g3⟩ := zl h1; subst h2; have ih := zua hv hs l N (k + 1) (w64 (k + 1)) ys g3 (by rw [zi (by omega) (by omega)]; omega) (by simp at h3; omega); rw [z6, z8d]; unfold z4e; simp only [Int.toNat_natCast, g2, ih]; rw [zT (show (k : Int) < xs.length by omega), zT (show (0 : Int) <= k by omega)]; simp only [zC, Bool.not_true, zD]; cases decide (a < 0) <;> cases decide (64 <= a) <;> rfl
theorem zub {xs : List Int} (hs : xs.length < 4294967296) : ∀ (l : List Int) (N k : Nat) (i : Int), xs.drop k = l -> i = k -> l.length < N -> zj z7n N (xs, (xs.length : Int), i) = some false
 | l, 0, _, _, _, _, h => by omega
 | [], N + 1, k, i, h1, h2, _ => by
   have := z01 h1; rw [z6, z8h]; unfold z4i; simp only; rw [zF (by omega), zD]
 | a :: l, N + 1, k, i, h1, h2, h3 => by
   obtain ⟨g1, g2, g3⟩ := zl h1; subst h2; have ih := zub hs l N (k + 1) (w64 (k + 1)) g3 (by rw [zi (by omega) (by omega)]; omega) (by simp at h3; omega); rw [z6, z8h]; unfold z4i; simp only [Int.toNat_natCast, g2, ih]; rw [zT (show (k : Int) < xs.length by omega), zT (show (0 : Int) <= k by omega)]; simp only [zC, Bool.not_true, zD]; cases decide (a < 0) <;> cases decide (64 <= a) <;> rfl
theorem znx {a0 : List Int} (hs : a0.length < 4294967296) {M : Nat} (hM : a0.length < M) {b : Nat} (hb : b < a0.length) : ∀ (m N i k : Nat) (ys : List Int), k + m = a0.length - b -> 1 <= k -> i + 1 <= b + k -> ys.length = a0.length -> m < N -> zj (z7k M a0) N ((i : Int), (b : Int), ((a0.length - b : Nat) : Int), (k : Int), ys) = some false
 | m, 0, _, _, _, _, _, _, _, h => by omega
 | 0, N + 1, i, k, ys, h1, h2, h3, h4, _ => by
   rw [z6, z8e]; unfold z4f; simp only [Int.toNat_natCast]; rw [zF (show ¬ (k : Int) < ((a0.length - b : Nat) : Int) by omega), zD]; rw [zT (show (0 : Int) <= i by omega), zT (show (i : Int) <= ys.length by omega), zT (show 0 < ys.length by omega)]; simp only [zC]; rw [zT (by simp; omega), zC]; by_cases c1 : 0 < a0.length
   · rw [zT (show (0 : Int) < (a0.length : Int) by omega), zC]; cases decide ((a0.length : Int) <= 8) with
     | false => rfl
     | true => rw [zC]; exact zua (by simp; omega) hs a0 M 0 0 _ rfl rfl hM
   · omega
 | m + 1, N + 1, i, k, ys, h1, h2, h3, h4, h5 => by
   have e1 : w64 ((k : Int) - 1) = ((k - 1 : Nat) : Int) := by rw [zi (by omega) (by omega)]; omega
   have e2 : w64 ((k : Int) + 1) = ((k + 1 : Nat) : Int) := by rw [zi (by omega) (by omega)]; rfl
   have e3 : w64 ((i : Int) + 1) = ((i + 1 : Nat) : Int) := by rw [zi (by omega) (by omega)]; rfl
   rw [z6, z8e]; unfold z4f; simp only [Int.toNat_natCast, e1, e2, e3]; rw [zT (show (k : Int) < ((a0.length - b : Nat) : Int) by omega), zT (show (0 : Int) <= k by omega), zT (show b + k < ys.length by omega), zT (show (0 : Int) <= ((k - 1 : Nat) : Int) by omega), zT (show ((k - 1 : Nat) : Int) < ((a0.length - b : Nat) : Int) by omega), zT (show b + (k - 1) < ys.length by omega), zT (show (0 : Int) <= i by omega), zT (show (i : Int) < ys.length by omega), zT (show i < ys.length by omega)]; simp only [zC]; rw [znx hs hM hb m N (i + 1) (k + 1) _ (by omega) (by omega) (by omega) (by simpa using h4) (by omega), znx hs hM hb m N i (k + 1) _ (by omega) (by omega) (by omega) h4 (by omega)]; cases (!decide (ys.getD (b + k) 0 = ys.getD (b + (k - 1)) 0)) <;> rfl
theorem zuc {a0 : List Int} (hs : a0.length < 4294967296) {M : Nat} (hM : a0.length < M) : ∀ (l : List Int) (N k : Nat) (i : Int), a0.drop k = l -> i = ((k + 1 : Nat) : Int) -> k < a0.length -> l.length < N -> zj (z7m M a0) N (i, a0) = some (noEq l && decide (0 < a0.length) && decide (a0.length <= 8) && a0.all inr)
 | l, 0, _, _, _, _, _, h => by omega
 | [], N + 1, k, i, h1, h2, h3, _ => by have := z01 h1; omega
 | [a], N + 1, k, i, h1, h2, h3, _ => by
   obtain ⟨g1, g2, g3⟩ := zl h1; have := z01 g3; rw [z6, z8g]; unfold z4h; simp only [noEq, Bool.true_and]; rw [zF (show ¬ i < (a0.length : Int) by omega), zD]; rw [zT (show (0 : Int) < (a0.length : Int) by omega), zC, zT (show 0 < a0.length by omega), Bool.true_and]; by_cases c : a0.length <= 8
   · rw [zT (show (a0.length : Int) <= 8 by omega), zC, zT c, Bool.true_and]; exact zu9 rfl hs a0 M 0 0 _ rfl rfl hM
   · rw [zF (show ¬ (a0.length : Int) <= 8 by omega), zD, zF c]; rfl
 | a :: b :: l, N + 1, k, i, h1, h2, h3, h4 => by
   obtain ⟨g1, g2, g3⟩ := zl h1; obtain ⟨g4, g5, g6⟩ := zl g3; subst h2; have e1 : w64 (((k + 1 : Nat) : Int) - 1) = (k : Int) := by rw [zi (by omega) (by omega)]; omega
   have ih := zuc hs hM (b :: l) N (k + 1) (w64 (((k + 1 : Nat) : Int) + 1)) g3 (by rw [zi (by omega) (by omega)]; omega) g4 (by simp at h4 ⊢; omega); rw [z6, z8g]; unfold z4h; simp only [Int.toNat_natCast, e1, g2, g5, ih]; rw [zT (show ((k + 1 : Nat) : Int) < a0.length by omega), zT (show (0 : Int) <= ((k + 1 : Nat) : Int) by omega), zT (show k + 1 < a0.length by omega), zT (show (0 : Int) <= (k : Int) by omega), zT (show (k : Int) < a0.length by omega), zT (show k < a0.length by omega), zT (show ((k + 1 : Nat) : Int) <= a0.length by omega)]; simp only [zC, noEq]; by_cases c : a = b
   · subst c; rw [zT rfl, zC]; rw [show (1 : Int) = ((1 : Nat) : Int) from rfl, znx hs hM g4 (a0.length - (k + 1) - 1) M (k + 1) 1 _ (by omega) (by omega) (by omega) rfl (by omega)]; simp
   · rw [zF (fun e => c e.symm), zD, zT c]; simp
theorem zrd {l : List Int} (hs : l.length < 4294967296) : zcn l = some (keysT l) := by
 refine z1z (l.length + 1) fun N hN => ?_
 unfold zcm keysT; rw [zrc hs, z8, zwj]; cases hnd : nd l with
 | false =>
   rw [zD]; have : (l.all inr && false && noEq l && decide (0 < l.length) && decide (l.length <= 8)) = false := by simp
   rw [this, zub hs l N 0 0 rfl rfl (by omega)]; cases decide (0 < (l.length : Int)) <;> cases decide ((l.length : Int) <= 8) <;> rfl
 | true =>
   rw [zC, zT (show l.length * 8 <= 70368744177664 by omega), zC, zT (show l.length <= 70368744177664 by omega), zC]; by_cases h2 : l.length < 2
   · rw [zT (show (l.length : Int) < 2 by omega), zC, zu8 hs l N 0 0 l rfl rfl (by omega)]; have hq : noEq l = true := by
      cases l with
      | nil => rfl
      | cons a l => cases l with
        | nil => rfl
        | cons => simp only [List.length_cons] at h2; omega
     rw [hq, Bool.and_true, Bool.and_true]; by_cases c1 : 0 < l.length
     · rw [zT (show (0 : Int) < (l.length : Int) by omega), zC, zT c1, zT (show (l.length : Int) <= 8 by omega), zC, zT (show l.length <= 8 by omega)]; simp
     · rw [zF (show ¬ (0 : Int) < (l.length : Int) by omega), zD, zF c1]; simp
   · rw [zF (show ¬ (l.length : Int) < 2 by omega), zD]; have hl0 : 0 < l.length := by omega
     rw [zuc hs (M := N) (by omega) l N 0 1 rfl rfl hl0 (by omega)]; congr 1
     cases l.all inr <;> cases noEq l <;> cases decide (0 < l.length) <;> cases decide (l.length <= 8) <;> rfl
end Clk
namespace Clk
open Go
def vr (n : Int) : Bool := decide (-1 <= n) && decide (n < 512)
def rightT (r : Record) : Bool :=
 decide (0 <= r.seq) && decide (r.seq <= 1099511627776) && keysT r.keys && (if r.kind = 1 then decide (r.values = []) else r.values.all vr && decide (r.kind = 2) && decide (r.values.length = r.keys.length))
def RecOk (r : Record) : Prop := r.keys.length < 4294967296 /\ r.values.length < 4294967296
theorem zdt {r : Record} (hr : RecOk r) : ∀ (l : List Int) (N k : Nat) (i : Int), r.values.drop k = l -> i = k -> l.length < N -> zj z6c N (r.values, (r.values.length : Int), i, r) = some (l.all vr && (if r.kind = 1 then decide (r.values = []) else decide (r.kind = 2) && decide (r.values.length = r.keys.length)))
 | l, 0, _, _, _, _, h => by omega
 | [], N + 1, k, i, h1, h2, _ => by
   have := z01 h1; rw [z6, z6w]; unfold z3j; simp only [List.all_nil, Bool.true_and]; rw [zF (by omega), zD]; by_cases c1 : r.kind = 1
   · rw [zT c1, zC, if_pos c1]; congr 1; rw [Bool.eq_iff_iff]; simp
   · rw [zF c1, zD, if_neg c1]; by_cases c : r.kind = 2
     · rw [zT c, zC, Bool.true_and]; congr 1; rw [Bool.eq_iff_iff]; simp only [decide_eq_true_eq]; omega
     · rw [zF c, zD]; rfl
 | a :: l, N + 1, k, i, h1, h2, h3 => by
   obtain ⟨g1, g2, g3⟩ := zl h1; have hv := hr.2; subst h2; have ih := zdt hr l N (k + 1) (w64 (k + 1)) g3 (by rw [zi (by omega) (by omega)]; omega) (by simp at h3; omega); rw [z6, z6w]; unfold z3j; simp only [Int.toNat_natCast, g2, ih, List.all_cons, vr]; rw [zT (show (k : Int) < r.values.length by omega), zT (show (0 : Int) <= k by omega)]; simp only [zC]; by_cases c1 : a < -1
   · rw [zT c1, zF (show ¬ -1 <= a by omega)]; simp
   · rw [zF c1, zT (show -1 <= a by omega), zD]; by_cases c2 : 512 <= a
     · rw [zT c2, zF (show ¬ a < 512 by omega)]; simp
     · rw [zF c2, zT (show a < 512 by omega), zD]; simp
theorem zny {r : Record} (hr : RecOk r) : zaq r = some (rightT r) := by
 refine z1z (r.values.length + 1) fun N hN => ?_
 unfold zap rightT; by_cases h1 : r.seq < 0
 · rw [zT h1, zC, zF (show ¬ 0 <= r.seq by omega)]; rfl
 · by_cases h2 : 1099511627776 < r.seq
   · rw [zF h1, zD, zT h2, zC, zF (show ¬ r.seq <= 1099511627776 by omega)]; simp
   · rw [zF h1, zD, zF h2, zD, zT (show 0 <= r.seq by omega), zT (show r.seq <= 1099511627776 by omega), zrd hr.1, z8]; cases keysT r.keys with
     | false => rfl
     | true =>
       simp only [Bool.not_true, zD, Bool.true_and]; rw [zdt hr r.values N 0 0 rfl rfl (by omega)]; by_cases h3 : r.kind = 1
       · rw [if_pos h3, if_pos h3]; congr 1
         cases hv : r.values with
         | nil => rfl
         | cons a l => simp
       · rw [if_neg h3, if_neg h3, Bool.and_assoc]
def movT (d : Int) (l : List Int) : List Int := l.map fun n => w64 (n + d)
def bodyT (r : Record) : Str := (packT [r.kind, r.seq]).1 ++ (packT r.keys).1 ++ (packT (movT 1 r.values)).1
def encT (r : Record) (data : Str) : Str × Int := if rightT r = false \/ 16 < data.length then ([], 1) else (bodyT r ++ bytes4 (crcT (bodyT r ++ data)), 0)
theorem zlz : ∀ (l : List Int) (s : Str), (packL l s).1.length <= s.length + 6 * l.length
 | [], s => by simp [packL]
 | n :: l, s => by
   unfold packL; split
   · simp
   · have h1 := zlz l (s ++ putV n); have h2 := zek n; simp at h1 ⊢; omega
theorem z6z (l : List Int) : (packT l).1.length <= 6 * l.length + 6 := by
 have h1 := zlz l (putV l.length); have h2 := zek l.length; unfold packT; omega
theorem zud {l : List Int} (h : keysT l = true) : 0 < l.length /\ l.length <= 8 := by
 unfold keysT at h; simp only [Bool.and_eq_true, decide_eq_true_eq] at h; exact ⟨h.1.2, h.2⟩
theorem zie {r : Record} (h : rightT r = true) : 0 < r.keys.length /\ r.keys.length <= 8 /\ r.values.length <= 8 /\ 0 <= r.seq /\ r.seq <= 1099511627776 /\ (r.kind = 1 \/ r.kind = 2) /\ (r.values.all vr = true) /\ keysT r.keys = true := by
 unfold rightT at h; simp only [Bool.and_eq_true, decide_eq_true_eq] at h; obtain ⟨⟨⟨h1, h2⟩, h3⟩, h4⟩ := h; obtain ⟨k1, k2⟩ := zud h3; split at h4
 · rename_i hk; have : r.values = [] := by simpa using h4
   rw [this]; exact ⟨k1, k2, by simp, h1, h2, .inl hk, rfl, h3⟩
 · simp only [Bool.and_eq_true, decide_eq_true_eq] at h4; exact ⟨k1, k2, by omega, h1, h2, .inr h4.1.2, h4.1.1, h3⟩
theorem zue {r : Record} (h : rightT r = true) : (bodyT r).length <= 200 := by
 obtain ⟨_, h1, h2, _⟩ := zie h; have q1 := z6z [r.kind, r.seq]; have q2 := z6z r.keys; have q3 := z6z (movT 1 r.values); have q4 : (movT 1 r.values).length = r.values.length := by simp [movT]
 simp only [List.length_cons, List.length_nil] at q1; unfold bodyT; simp only [List.length_append]; omega
theorem zel : ∀ (l : List Int) (s : Str), (∀ n ∈ l, 0 <= n /\ n <= 1099511627776) -> (packL l s).2 = 0
 | [], s, _ => rfl
 | n :: l, s, h => by
   have h1 := h n List.mem_cons_self; unfold packL; have : putV n ≠ [] := by
    unfold putV; rw [if_neg (by omega)]; exact zz0 5 _
   rw [if_neg this]; exact zel l _ fun m hm => h m (List.mem_cons_of_mem _ hm)
theorem zwk {l : List Int} (h : l.all vr = true) : ∀ n ∈ l, -1 <= n /\ n < 512 := by
 intro n hn; have := List.all_eq_true.1 h n hn; unfold vr at this; simpa using this
theorem zif : ∀ {l : List Int} {p : Option Int}, chkL p l = true -> ∀ n ∈ l, 0 <= n /\ n < 64
 | [], _, _, n, hn => by cases hn
 | a :: l, p, h, n, hn => by
   simp only [chkL, Bool.and_eq_true] at h; rcases List.mem_cons.1 hn with rfl | hn
   · have := h.1.1; unfold inr at this; simpa using this
   · exact zif h.2 n hn
theorem znz {l : List Int} (h : keysT l = true) : ∀ n ∈ l, 0 <= n /\ n < 64 := by
 unfold keysT at h; simp only [Bool.and_eq_true] at h; exact zif h.1.1
theorem zdu {d : Int} {n : Nat} (hs : n < 4294967296) : ∀ (l : List Int) (N k : Nat) (i : Int) (pre : List Int), pre.length = k -> k + l.length = n -> i = k -> l.length < N -> zj z6d N (d, (n : Int), i, pre ++ l) = some (pre ++ movT d l)
 | l, 0, _, _, _, _, _, _, h => by omega
 | [], N + 1, k, i, pre, h1, h2, h3, _ => by
   rw [z6, z6x]; unfold z3k; simp only [List.length_nil] at h2; simp only [movT, List.map_nil]; rw [zF (by omega), zD]
 | a :: l, N + 1, k, i, pre, h1, h2, h3, h4 => by
   subst h3; simp only [List.length_cons] at h2 h4; have g2 : ∀ d, (pre ++ a :: l).getD k d = a := fun d => by subst h1; simp [zI]
   have g3 : ∀ x, (pre ++ a :: l).set k x = (pre ++ [x]) ++ l := fun x => by subst h1; simp
   have ih := zdu (d := d) hs l N (k + 1) (w64 (k + 1)) (pre ++ [w64 (a + d)]) (by simp; omega) (by omega) (by rw [zi (by omega) (by omega)]; omega) (by omega); rw [z6, z6x]; unfold z3k; simp only [Int.toNat_natCast, g2, g3, ih]; have hl : (pre ++ a :: l).length = n := by simp; omega
   rw [hl, zT (show (k : Int) < n by omega), zT (show (0 : Int) <= k by omega), zT (show k < n by omega)]; simp [movT]
theorem zg5 {l : List Int} {d : Int} (hs : l.length < 4294967296) : z2a (l, d) = some (movT d l) := by
 refine z1z (l.length + 1) fun N hN => ?_
 show z7o N l d = _; unfold z7o; rw [zT (by omega), zC, zT (by omega), zC]; exact zdu hs l N 0 0 [] rfl (by simp) rfl (by omega)
theorem zm0 {r : Record} {data : Str} (hr : RecOk r) (hd : data.length < 4294967296) : z96 (r, data) = some (encT r data) := by
 show z5y r data = _; unfold z5y encT; rw [zny hr, z8]; cases h : rightT r with
 | false => rfl
 | true =>
   rw [Bool.not_true, zD]; by_cases h2 : 16 < data.length
   · rw [zT (show (16 : Int) < data.length by omega), zC, if_pos (.inr h2)]
   · have hb := zue h; obtain ⟨_, k1, k2, k3, k4, k5, k6, k7⟩ := zie h; have q1 := z6z [r.kind, r.seq]; have q2 := z6z r.keys; have q3 := z6z (movT 1 r.values); have q4 : (movT 1 r.values).length = r.values.length := by simp [movT]
     have e1 : (packT [r.kind, r.seq]).2 = 0 := zel _ _ (by intro n hn; simp at hn; rcases hn with rfl | rfl <;> omega); have e2 : (packT r.keys).2 = 0 := zel _ _ (by intro n hn; have := znz k7 n hn; omega); have e3 : (packT (movT 1 r.values)).2 = 0 := zel _ _ (by
      intro n hn; unfold movT at hn; obtain ⟨m, hm, rfl⟩ := List.mem_map.1 hn; have := zwk k6 m hm; rw [zi (by omega) (by omega)]; omega)
     have hb' := hb; unfold bodyT at hb'; simp only [List.length_cons, List.length_nil] at q1; rw [zF (show ¬ (16 : Int) < data.length by omega), zD, if_neg (by simp; omega), zg5 (by omega), z8, zav (by simp), z8, e1, zT rfl, Bool.not_true, zD, zT (by omega), zC, zav (by omega), z8, e2, zT rfl, Bool.not_true, zD, zT (by omega), zC, zav (by omega), z8, e3, zT rfl, Bool.not_true, zD, zT (by rw [List.length_append]; omega), zC, zT (by omega), zC]; rw [zu7 (by rw [List.length_append]; omega), z8, znw (zyz _), z8, zT (by simp only [bytes4, List.length_cons, List.length_nil]; omega), zC]; rfl
def zRec : Record := ⟨0, 0, [], []⟩
def mvT (l : List Int) : List Int := l.map fun n => w64 (n - 1)
def decT (tag data : Str) : Record × Int :=
 if (za tag).2.2 ≠ 0 \/ (za (za tag).2.1).2.2 ≠ 0 \/ (za (za (za tag).2.1).2.1).2.2 ≠ 0 \/ (za tag).1.length ≠ 2 then (zRec, 30)
 else
  if (encT ⟨(za tag).1.getD 0 0, (za tag).1.getD 1 0, (za (za tag).2.1).1, mvT (za (za (za tag).2.1).2.1).1⟩ data).2 ≠ 0 \/
   (encT ⟨(za tag).1.getD 0 0, (za tag).1.getD 1 0, (za (za tag).2.1).1, mvT (za (za (za tag).2.1).2.1).1⟩ data).1 ≠ tag then (zRec, 30)
  else (⟨(za tag).1.getD 0 0, (za tag).1.getD 1 0, (za (za tag).2.1).1, mvT (za (za (za tag).2.1).2.1).1⟩, 0)
theorem zg6 : ∀ (k : Nat) (s : Str) (acc : List Int), (unpackL k s acc).2.1.length <= s.length /\ (unpackL k s acc).1.length <= acc.length + k
 | 0, s, acc => by simp [unpackL]
 | k + 1, s, acc => by
   unfold unpackL; split
   · simp
   · have h1 := zg6 k (takeT s).2.1 (acc ++ [(takeT s).1]); have h2 := zbs s; simp at h1 ⊢; omega
theorem z2b (s : Str) : (za s).2.1.length <= s.length /\ (za s).1.length <= s.length := by
 unfold za; split
 · simp
 · rename_i h; have h1 := zg6 (takeT s).1.toNat (takeT s).2.1 []; have h2 := zbs s; have h3 : ¬ ((takeT s).2.1.length : Int) < (takeT s).1 := fun e => h (.inr e)
   simp at h1; omega
def PageOk (p : Page) : Prop := p.tag.length < 4294967296 /\ p.data.length < 4294967296
def lookT (p : Page) : Int × Record := if p.written = false then (0, zRec) else if (decT p.tag p.data).2 ≠ 0 then (2, zRec) else (1, (decT p.tag p.data).1)
end Clk
namespace Clk
open Go
def ChipOk (c : Chip) : Prop := c.blocks.length < 4294967296 /\ ∀ b ∈ c.blocks, b.pages.length < 4294967296
theorem z3u {α : Type} {l : List α} {i : Nat} {d : α} (h : i < l.length) : l.getD i d ∈ l := by
 rw [zI, zH h]; exact List.getElem_mem h
theorem ChipOk.get {c : Chip} (h : ChipOk c) {i : Nat} (hi : i < c.blocks.length) (d : Block) : (c.blocks.getD i d).pages.length < 4294967296 := h.2 _ (z3u hi)
def onT (c : Chip) : Chip := ⟨c.blocks, c.broken, false, c.ops⟩
end Clk
namespace Clk
open Go
def zPage : Page := ⟨false, [], []⟩
def zChip : Chip := ⟨[], false, false, 0⟩
def newL (n : Int) : List Int -> List Block -> Chip × Int
 | [], bs => (⟨bs, false, false, 0⟩, 0)
 | x :: l, bs => if x < 0 \/ n <= x then (zChip, 1) else newL n l (bBad bs x.toNat true)
def newT (blocks pages : Int) (bad : List Int) : Chip × Int :=
 if blocks < 1 \/ 32 < blocks \/ pages < 1 \/ 16 < pages then (zChip, 1) else newL blocks bad (List.replicate blocks.toNat ⟨List.replicate pages.toNat zPage, 0, 0, false⟩)
end Clk
namespace Clk
open Go
def placeT (b p : Int) : Int := if b < 0 \/ 32 <= b \/ p < 0 \/ 16 <= p then -1 else b * 16 + p
theorem zjs (b p : Int) : zjq (b, p) = some (placeT b p) := by
 show z7e b p = _; unfold z7e placeT; by_cases c1 : b < 0
 · rw [zT c1, zC, if_pos (.inl c1)]
 · rw [zF c1, zD]; by_cases c2 : 32 <= b
   · rw [zT c2, zC, if_pos (.inr (.inl c2))]
   · rw [zF c2, zD]; by_cases c3 : p < 0
     · rw [zT c3, zC, if_pos (.inr (.inr (.inl c3)))]
     · rw [zF c3, zD]; by_cases c4 : 16 <= p
       · rw [zT c4, zC, if_pos (.inr (.inr (.inr c4)))]
       · rw [zF c4, zD, if_neg (by omega), zi (n := b * 16) (by omega) (by omega), zi (by omega) (by omega)]
theorem zm1 (b p : Int) : z97 (b, p) = some (placeT b p) := zjs b p
def aheadT (a b : Found) : Bool := decide (a.record.seq < b.record.seq) || (decide (a.record.seq = b.record.seq) && decide (a.place < b.place))
def insT : List Found -> Found -> List Found
 | [], f => [f]
 | x :: l, f => if aheadT f x = true then f :: x :: l else x :: insT l f
theorem zpr : ∀ (l : List Found) (f : Found), (insT l f).length = l.length + 1
 | [], f => rfl
 | x :: l, f => by
   unfold insT; split
   · rfl
   · simp [zpr l f]
def pagesT (b : Nat) : Nat -> List Page -> List Found -> List Found
 | _, [], out => out
 | p, pg :: l, out => pagesT b (p + 1) l (if (lookT pg).1 = 1 /\ 0 <= placeT b p then insT out ⟨placeT b p, (lookT pg).2⟩ else out)
def blocksT : Nat -> List Block -> List Found -> List Found
 | _, [], out => out
 | b, x :: l, out => blocksT (b + 1) l (pagesT b 0 x.pages out)
def allT (c : Chip) : List Found := blocksT 0 c.blocks []
def PagesOk (c : Chip) : Prop := ∀ b ∈ c.blocks, ∀ p ∈ b.pages, PageOk p
theorem zig (b : Nat) : ∀ (l : List Page) (p : Nat) (out : List Found), out.length <= min (16 * b + min p 16) 512 -> (pagesT b p l out).length <= min (16 * (b + 1)) 512
 | [], p, out, h => by
   unfold pagesT; omega
 | pg :: l, p, out, h => by
   unfold pagesT; refine zig b l (p + 1) _ ?_; split
   · rename_i hc; have h2 := hc.2; unfold placeT at h2; split at h2
     · omega
     · rw [zpr]; omega
   · omega
theorem zwl {b p : Nat} (h : 0 <= placeT b p) : b < 32 /\ p < 16 := by
 unfold placeT at h; split at h <;> omega
theorem zg7 : ∀ (l : List Block) (b : Nat) (out : List Found), out.length <= min (16 * b) 512 -> (blocksT b l out).length <= 512
 | [], b, out, h => by unfold blocksT; omega
 | x :: l, b, out, h => by
   unfold blocksT; exact zg7 l (b + 1) _ (zig b _ 0 out (by omega))
theorem zwm (c : Chip) : (allT c).length <= 512 := zg7 _ 0 [] (by simp)
def tabT (n : Int) : Table := ⟨List.replicate (min n.toNat 64) (-1), List.replicate (min n.toNat 64) (-1)⟩
def TabOk (t : Table) : Prop := t.map.length < 4294967296 /\ t.by_.length < 4294967296
def app1 (f : Found) (i : Nat) (k : Int) (t : Table) : Table :=
 if 0 <= k /\ k < t.map.length /\ k < t.by_.length then
  if f.record.kind = 1 then ⟨t.map.set k.toNat f.place, t.by_.set k.toNat f.place⟩
  else if f.record.kind = 2 /\ i < f.record.values.length then ⟨t.map.set k.toNat (f.record.values.getD i 0), t.by_.set k.toNat f.place⟩
  else t
 else t
def appL (f : Found) : Nat -> List Int -> Table -> Table
 | _, [], t => t
 | i, k :: l, t => appL f (i + 1) l (app1 f i k t)
def applyT (t : Table) (f : Found) : Table := appL f 0 f.record.keys t
theorem zwn (f : Found) (i : Nat) (k : Int) (t : Table) : (app1 f i k t).map.length = t.map.length /\ (app1 f i k t).by_.length = t.by_.length := by
 unfold app1; split
 · split
   · simp
   · split <;> simp
 · simp
theorem zps (f : Found) : ∀ (l : List Int) (i : Nat) (t : Table), (appL f i l t).map.length = t.map.length /\ (appL f i l t).by_.length = t.by_.length
 | [], i, t => ⟨rfl, rfl⟩
 | k :: l, i, t => by
   unfold appL; obtain ⟨h1, h2⟩ := zps f l (i + 1) (app1 f i k t); obtain ⟨h3, h4⟩ := zwn f i k t; exact ⟨h1.trans h3, h2.trans h4⟩
theorem zih (t : Table) (f : Found) : (applyT t f).map.length = t.map.length /\ (applyT t f).by_.length = t.by_.length := zps f _ 0 t
theorem zm2 {f : Found} (hk : f.record.keys.length < 4294967296) (hv : f.record.values.length < 4294967296) : ∀ (l : List Int) (N i : Nat) (ii : Int) (t : Table), f.record.keys.drop i = l -> ii = i -> TabOk t -> l.length < N -> zj z0b N (f.record.keys, (f.record.keys.length : Int), ii, f, t.map, t.by_) = some (appL f i l t)
 | l, 0, _, _, _, _, _, _, h => by omega
 | [], N + 1, i, ii, t, h1, h2, h3, _ => by
   have h4 := z01 h1; rw [z6, z47]; unfold z1m; simp only [appL]; rw [zF (by omega), zD]
 | k :: l, N + 1, i, ii, t, h1, h2, h3, h4 => by
   obtain ⟨g1, g2, g3⟩ := zl h1; subst h2; have e1 : w64 ((i : Int) + 1) = ((i + 1 : Nat) : Int) := by rw [zi (by omega) (by omega)]; rfl
   have ih := fun t' h => zm2 hk hv l N (i + 1) _ t' g3 rfl h (by simp at h4; omega)
   have ihs := ih t h3; have hval : z6f (f, (i : Int)) = some (if f.record.kind = 1 then (f.place, true) else if f.record.kind = 2 /\ i < f.record.values.length then (f.record.values.getD i 0, true) else (-1, false)) := by
    show z3m f i = _; unfold z3m; by_cases c4 : f.record.kind = 1
    · rw [zT c4, zC, if_pos c4]
    · rw [zF c4, zD, if_neg c4]; by_cases c5 : f.record.kind = 2
      · rw [zT c5, zC]; by_cases c6 : i < f.record.values.length
        · rw [zT (show (i : Int) < f.record.values.length by omega), zC, if_pos ⟨c5, c6⟩, zT (show (0 : Int) <= i by omega), zC, zC, Int.toNat_natCast]
        · rw [zF (show ¬ (i : Int) < f.record.values.length by omega), zD, if_neg (fun h => c6 h.2)]
      · rw [zF c5, zD, if_neg (fun h => c5 h.1)]
   rw [z6, z47]; unfold z1m; simp only [Int.toNat_natCast, g2, e1, appL, hval, z8]; rw [zT (show (i : Int) < f.record.keys.length by omega), zT (show (0 : Int) <= i by omega)]; simp only [zC]; have hin : ∀ (v : Int) (X : Table), (0 <= k /\ k < t.map.length /\ k < t.by_.length -> X = ⟨t.map.set k.toNat v, t.by_.set k.toNat f.place⟩) -> (¬ (0 <= k /\ k < t.map.length /\ k < t.by_.length) -> X = t) ->
    (cond (decide (k < 0)) (zj z0b N (f.record.keys, (f.record.keys.length : Int), ((i + 1 : Nat) : Int), f, t.map, t.by_))
    (cond (decide ((min (t.map.length : Int) (t.by_.length : Int)) <= k)) (zj z0b N (f.record.keys, (f.record.keys.length : Int), ((i + 1 : Nat) : Int), f, t.map, t.by_))
      (cond (decide (0 <= k)) (cond (decide (k < (t.map.length : Int))) (cond (decide (k.toNat < t.map.length)) (cond (decide (0 <= k)) (cond (decide (k < (t.by_.length : Int))) (cond (decide (k.toNat < t.by_.length)) (zj z0b N (f.record.keys, (f.record.keys.length : Int), ((i + 1 : Nat) : Int), f, t.map.set k.toNat v, t.by_.set k.toNat f.place)) none) none) none) none) none) none))) = some (appL f (i + 1) l X) := by
    intro v X hX1 hX2; by_cases c1 : k < 0
    · rw [zT c1, zC, hX2 (by omega)]; exact ihs
    · rw [zF c1, zD]; by_cases c2 : min (t.map.length : Int) (t.by_.length : Int) <= k
      · rw [zT c2, zC, hX2 (by omega)]; exact ihs
      · rw [zF c2, zD, zT (show 0 <= k by omega), zT (show k < t.map.length by omega), zT (show k.toNat < t.map.length by omega), zT (show k < t.by_.length by omega), zT (show k.toNat < t.by_.length by omega)]; simp only [zC]; rw [hX1 (by omega)]; exact ih ⟨t.map.set k.toNat v, t.by_.set k.toNat f.place⟩ ⟨by simpa using h3.1, by simpa using h3.2⟩
   by_cases c4 : f.record.kind = 1
   · rw [if_pos c4, Bool.not_true, zD]; exact hin f.place _ (fun h => by unfold app1; rw [if_pos h, if_pos c4]) (fun h => by unfold app1; rw [if_neg h])
   · rw [if_neg c4]; by_cases c5 : f.record.kind = 2 /\ i < f.record.values.length
     · rw [if_pos c5, Bool.not_true, zD]; exact hin (f.record.values.getD i 0) _ (fun h => by unfold app1; rw [if_pos h, if_neg c4, if_pos c5]) (fun h => by unfold app1; rw [if_neg h])
     · rw [if_neg c5, Bool.not_false, zC]; have : app1 f i k t = t := by
        unfold app1; split
        · first | rfl | rw [if_neg c4, if_neg c5]
        · rfl
       rw [this]; exact ihs
theorem zhd {t : Table} {f : Found} (ht : TabOk t) (hr : RecOk f.record) : z6g (t, f) = some (applyT t f) := by
 have h1 := ht.1; have h2 := ht.2; have h3 := hr.1; refine z1z 4294967297 fun N hN => ?_
 show z3n N t f = _; unfold z3n; rw [zT (by omega), zC, zT (by omega), zC, zT (by omega), zC, zT (by omega), zC]; exact zm2 h3 hr.2 _ N 0 0 t rfl rfl ht (by omega)
end Clk
namespace Clk
open Go
def repL : List Found -> Table -> Int -> Table × Int
 | [], t, s => (t, s)
 | f :: l, t, s => repL l (applyT t f) (max s (w64 (f.record.seq + 1)))
def replayT (c : Chip) (n : Int) : Table × Int := repL (allT c) (tabT n) 0
def z5z (l : List Found) : Prop := ∀ f ∈ l, RecOk f.record
theorem z98 {s : Str} (h : s.length < 4294967296) : (za s).1.length < 4294967296 /\ (za s).2.1.length < 4294967296 := by
 have := z2b s; omega
theorem zz1 {tag data : Str} (h : tag.length < 4294967296) : RecOk (decT tag data).1 := by
 obtain ⟨h1, h2⟩ := z98 h; obtain ⟨h3, h4⟩ := z98 h2; obtain ⟨h5, h6⟩ := z98 h4; unfold decT; split
 · exact ⟨by simp [zRec], by simp [zRec]⟩
 · split
   · exact ⟨by simp [zRec], by simp [zRec]⟩
   · exact ⟨h3, by simp only [mvT, List.length_map]; exact h5⟩
theorem zwo {p : Page} (h : PageOk p) : RecOk (lookT p).2 := by
 unfold lookT; split
 · exact ⟨by simp [zRec], by simp [zRec]⟩
 · split
   · exact ⟨by simp [zRec], by simp [zRec]⟩
   · exact zz1 h.1
theorem zuf : ∀ {l : List Found} {f : Found}, z5z l -> RecOk f.record -> z5z (insT l f)
 | [], f, _, h => by intro g hg; simp [insT] at hg; subst hg; exact h
 | x :: l, f, h1, h2 => by
   unfold insT; split
   · intro g hg; rcases List.mem_cons.1 hg with rfl | hg
     · exact h2
     · exact h1 g hg
   · intro g hg; rcases List.mem_cons.1 hg with rfl | hg
     · exact h1 _ List.mem_cons_self
     · exact zuf (fun g hg => h1 g (List.mem_cons_of_mem _ hg)) h2 g hg
theorem zm3 (b : Nat) : ∀ (l : List Page) (p : Nat) (out : List Found), (∀ pg ∈ l, PageOk pg) -> z5z out -> z5z (pagesT b p l out)
 | [], p, out, _, h => h
 | pg :: l, p, out, h1, h2 => by
   unfold pagesT; refine zm3 b l (p + 1) _ (fun q hq => h1 q (List.mem_cons_of_mem _ hq)) ?_; split
   · exact zuf h2 (zwo (h1 pg List.mem_cons_self))
   · exact h2
theorem zii : ∀ (l : List Block) (b : Nat) (out : List Found), (∀ x ∈ l, ∀ p ∈ x.pages, PageOk p) -> z5z out -> z5z (blocksT b l out)
 | [], b, out, _, h => h
 | x :: l, b, out, h1, h2 => by
   unfold blocksT; exact zii l (b + 1) _ (fun y hy => h1 y (List.mem_cons_of_mem _ hy)) (zm3 b _ 0 out (h1 x List.mem_cons_self) h2)
theorem zz2 {c : Chip} (h : PagesOk c) : z5z (allT c) := zii _ 0 [] h (fun _ h => by cases h)
theorem zpt : ∀ (l : List Found) (t : Table) (s : Int), (repL l t s).1.map.length = t.map.length /\ (repL l t s).1.by_.length = t.by_.length
 | [], t, s => ⟨rfl, rfl⟩
 | f :: l, t, s => by
   unfold repL; obtain ⟨h1, h2⟩ := zpt l (applyT t f) (max s (w64 (f.record.seq + 1))); obtain ⟨h3, h4⟩ := zih t f; exact ⟨h1.trans h3, h2.trans h4⟩
theorem zug (n : Int) : TabOk (tabT n) := ⟨by simp [tabT]; omega, by simp [tabT]; omega⟩
def anyW : List Page -> Bool
 | [] => false
 | p :: l => p.written || anyW l
def fcT (bl : Block) (l : List Page) : Int := cond (anyW l) 2 (if bl.next = 0 then 0 else 2)
def stateT (c : Chip) (opn b : Int) : Int :=
 if b < 0 \/ (c.blocks.length : Int) <= b then 3
 else if (c.blocks.getD b.toNat default).bad = true then 3
 else if b = opn /\ 0 <= (c.blocks.getD b.toNat default).next /\ (c.blocks.getD b.toNat default).next < (c.blocks.getD b.toNat default).pages.length then 1
 else fcT (c.blocks.getD b.toNat default) (c.blocks.getD b.toNat default).pages
theorem zpu {bl : Block} (hs : bl.pages.length < 4294967296) : ∀ (l : List Page) (N k : Nat) (i : Int), bl.pages.drop k = l -> i = k -> l.length < N -> zj z0x N (i, bl) = some (fcT bl l)
 | l, 0, _, _, _, _, h => by omega
 | [], N + 1, k, i, h1, h2, _ => by
   have := z01 h1; rw [z6, z5d]; unfold z24; simp only [fcT, anyW, zD]; rw [zF (by omega), zD]; by_cases c : bl.next = 0
   · rw [zT c, zC, if_pos c]
   · rw [zF c, zD, if_neg c]
 | p :: l, N + 1, k, i, h1, h2, h3 => by
   obtain ⟨g1, g2, g3⟩ := zl h1; subst h2; rw [z6, z5d]; unfold z24; simp only [Int.toNat_natCast, g2, fcT, anyW]; rw [zT (show (k : Int) < bl.pages.length by omega), zT (show (0 : Int) <= k by omega)]; simp only [zC]; cases p.written with
   | true => rfl
   | false =>
     rw [zD, Bool.false_or]; exact zpu hs l N (k + 1) _ g3 (by rw [zi (by omega) (by omega)]; omega) (by simp at h3; omega)
theorem zjt {c : Chip} (hc : ChipOk c) (o b : Int) : z7g (c, o, b) = some (stateT c o b) := by
 refine z1z 4294967297 fun N hN => ?_
 show z4c N c o b = _; unfold z4c stateT; by_cases c1 : b < 0
 · rw [zT c1, zC, if_pos (.inl c1)]
 · rw [zF c1, zD]; by_cases c2 : (c.blocks.length : Int) <= b
   · rw [zT c2, zC, if_pos (.inr c2)]
   · have hb := hc.get (show b.toNat < c.blocks.length by omega) default; rw [zF c2, zD, if_neg (by omega), zT (show 0 <= b by omega), zT (show b < c.blocks.length by omega)]; simp only [zC]; cases c3 : (c.blocks.getD b.toNat default).bad with
     | true => rfl
     | false =>
       rw [zD, if_neg (by simp), zpu hb _ N 0 0 rfl rfl (by rw [List.drop_zero]; omega), List.drop_zero]; generalize fcT (c.blocks.getD b.toNat default) (c.blocks.getD b.toNat default).pages = X; by_cases c4 : b = o
       · rw [zT c4, zC]; by_cases c5 : 0 <= (c.blocks.getD b.toNat default).next
         · rw [zT c5, zC]; by_cases c6 : (c.blocks.getD b.toNat default).next < (c.blocks.getD b.toNat default).pages.length
           · rw [zT c6, zC, if_pos ⟨c4, c5, c6⟩]
           · rw [zF c6, zD, if_neg (fun h => c6 h.2.2)]
         · rw [zF c5, zD, if_neg (fun h => c5 h.2.1)]
       · rw [zF c4, zD, if_neg (fun h => c4 h.1)]
def pickL (c : Chip) (o : Int) : Nat -> List Block -> Int -> Int
 | _, [], best => best
 | i, x :: l, best => pickL c o (i + 1) l (if stateT c o i = 0 /\ (best < 0 \/ x.erases < (c.blocks.getD best.toNat default).erases) then (i : Int) else best)
def fitsT (g : Geometry) : Bool :=
 decide (1 <= g.blocks) && decide (g.blocks <= 32) && decide (2 <= g.pages) && decide (g.pages <= 16) && decide (1 <= g.sectors) && decide (g.sectors <= 64) && decide (0 <= g.spare) && decide (g.spare <= 32) && decide (2 * g.sectors < (g.blocks - 2 * g.spare - 3) * g.pages)
theorem z003 (g : Geometry) : zlt g = some (fitsT g) := by
 show z3t g = _; unfold z3t fitsT; by_cases c1 : 1 <= g.blocks
 · by_cases c2 : g.blocks <= 32
   · by_cases c3 : 2 <= g.pages
     · by_cases c4 : g.pages <= 16
       · by_cases c5 : 1 <= g.sectors
         · by_cases c6 : g.sectors <= 64
           · by_cases c7 : 0 <= g.spare
             · by_cases c8 : g.spare <= 32
               · have hm : -16000 <= (g.blocks - 2 * g.spare - 3) * g.pages /\ (g.blocks - 2 * g.spare - 3) * g.pages <= 16000 := by
                  have h1 : -100 <= g.blocks - 2 * g.spare - 3 := by omega
                  have h2 : g.blocks - 2 * g.spare - 3 <= 100 := by omega
                  generalize g.blocks - 2 * g.spare - 3 = x at h1 h2; constructor
                  · have := Int.mul_le_mul_of_nonneg_right h1 (show 0 <= g.pages by omega); omega
                  · have := Int.mul_le_mul_of_nonneg_right h2 (show 0 <= g.pages by omega); omega
                 rw [zi (n := 2 * g.sectors) (by omega) (by omega), zi (n := 2 * g.spare) (by omega) (by omega), zi (n := g.blocks - 2 * g.spare) (by omega) (by omega), zi (n := g.blocks - 2 * g.spare - 3) (by omega) (by omega), zi (n := (g.blocks - 2 * g.spare - 3) * g.pages) (by omega) (by omega)]; simp only [zT c1, zT c2, zT c3, zT c4, zT c5, zT c6, zT c7, zT c8, zC, Bool.true_and]
               · simp [c1, c2, c3, c4, c5, c6, c7, c8]
             · simp [c1, c2, c3, c4, c5, c6, c7]
           · simp [c1, c2, c3, c4, c5, c6]
         · simp [c1, c2, c3, c4, c5]
       · simp [c1, c2, c3, c4]
     · simp [c1, c2, c3]
   · simp [c1, c2]
 · simp [c1]
def badsL : List Block -> Int
 | [] => 0
 | b :: l => (if b.bad = true then 1 else 0) + badsL l
def badsT (c : Chip) : Int := badsL c.blocks
theorem zju : ∀ (l : List Block), 0 <= badsL l /\ badsL l <= l.length
 | [] => by simp [badsL]
 | b :: l => by have := zju l; unfold badsL; simp only [List.length_cons]; split <;> omega
def zDev : Device := ⟨⟨0, 0, 0, 0⟩, ⟨[], false, false, 0⟩, ⟨[], []⟩, 0, 0⟩
def mtL (g : Geometry) : Nat -> List Block -> Int -> Option Int
 | _, [], o => some o
 | i, b :: l, o => if (b.pages.length : Int) ≠ g.pages then none else mtL g (i + 1) l (if o < 0 /\ b.bad = false /\ 0 < b.next /\ b.next < g.pages then (i : Int) else o)
def mountT (g : Geometry) (c : Chip) : Device × Int :=
 if fitsT g = false \/ (c.blocks.length : Int) ≠ g.blocks then (zDev, 1)
 else match mtL g 0 c.blocks (-1) with
  | none => (zDev, 1)
  | some o => (⟨g, onT c, (replayT c g.sectors).1, (replayT c g.sectors).2, o⟩, 0)
def z0q (g : Geometry) (bad : List Int) : Device × Int :=
 if fitsT g = false \/ (newT g.blocks g.pages bad).2 ≠ 0 \/ g.spare < badsT (newT g.blocks g.pages bad).1 then (zDev, 1) else mountT g (newT g.blocks g.pages bad).1
theorem zo0 {n : Int} {m : Nat} : ∀ (l : List Int) (bs : List Block), (∀ b ∈ bs, b.pages.length <= 16 /\ ∀ p ∈ b.pages, p = zPage) -> bs.length = m -> (∀ b ∈ (newL n l bs).1.blocks, b.pages.length <= 16 /\ ∀ p ∈ b.pages, p = zPage) /\ ((newL n l bs).1.blocks.length = m \/ (newL n l bs).1.blocks.length = 0)
 | [], bs, h1, h2 => ⟨h1, .inl h2⟩
 | x :: l, bs, h1, h2 => by
   unfold newL; split
   · exact ⟨fun b hb => by simp [zChip] at hb, .inr rfl⟩
   · refine zo0 l _ (fun b hb => ?_) (by unfold bBad; simpa using h2); unfold bBad at hb; by_cases hx : x.toNat < bs.length
     · rcases List.mem_or_eq_of_mem_set hb with h | rfl
       · exact h1 b h
       · exact h1 (bs.getD x.toNat default) (z3u hx)
     · rw [List.set_eq_of_length_le (by omega)] at hb; exact h1 b hb
theorem zuh (n p : Int) (bad : List Int) : ChipOk (newT n p bad).1 /\ PagesOk (newT n p bad).1 := by
 unfold newT; split
 · exact ⟨⟨by simp [zChip], fun b hb => by simp [zChip] at hb⟩, fun b hb => by simp [zChip] at hb⟩
 · rename_i h; obtain ⟨h1, h2⟩ := zo0 (n := n) (m := n.toNat) bad (List.replicate n.toNat ⟨List.replicate p.toNat zPage, 0, 0, false⟩) (fun b hb => by
    obtain ⟨_, rfl⟩ := List.mem_replicate.1 hb; exact ⟨by simp; omega, fun q hq => (List.mem_replicate.1 hq).2⟩) (by simp)
   refine ⟨⟨by omega, fun b hb => by have := (h1 b hb).1; omega⟩, fun b hb q hq => ?_⟩; rw [(h1 b hb).2 q hq]; exact ⟨by simp [zPage], by simp [zPage]⟩
def DevOk (d : Device) : Prop := ChipOk d.chip /\ TabOk d.table
end Clk
namespace Clk
open Go
end Clk
namespace Clk
open Go
def smalls : List Geometry := [⟨8, 4, 5, 1⟩, ⟨5, 4, 3, 0⟩, ⟨12, 3, 5, 2⟩, ⟨6, 6, 8, 0⟩, ⟨16, 2, 4, 3⟩, ⟨10, 5, 12, 1⟩]
def smallT (n : Int) : Geometry := smalls.getD (n.toNat % 6) default
theorem zz3 {n : Int} (h0 : 0 <= n) (h1 : n < 256) : z7f n = some (smallT n) := by
 show z4b n = _; unfold z4b; obtain ⟨k, rfl⟩ : ∃ k : Nat, n = k := ⟨n.toNat, by omega⟩; have e : Int.tmod (w64 (k : Int)) (([(Geometry.mk 8 4 5 1), (Geometry.mk 5 4 3 0), (Geometry.mk 12 3 5 2), (Geometry.mk 6 6 8 0), (Geometry.mk 16 2 4 3), (Geometry.mk 10 5 12 1)].length : Nat) : Int) = ((k % 6 : Nat) : Int) := by
  rw [zi (by omega) (by omega)]; exact zwh k 6
 rw [e, zF (by decide), Bool.not_false, zC, zT (show (0 : Int) <= ((k % 6 : Nat) : Int) by omega), zC, zT (by simp only [List.length_cons, List.length_nil]; omega), zC, zT (by simp only [List.length_cons, List.length_nil]; omega), zC]; rfl
end Clk
namespace Clk
open Go
theorem zre (c : Chip) (n : Int) : TabOk (replayT c n).1 := by
 obtain ⟨h1, h2⟩ := zpt (allT c) (tabT n) 0; have := zug n; unfold replayT; exact ⟨by rw [h1]; exact this.1, by rw [h2]; exact this.2⟩
theorem zui {g : Geometry} {c : Chip} (h : ChipOk c) : DevOk (mountT g c).1 := by
 unfold mountT; split
 · exact ⟨⟨by simp [zDev], fun b hb => by simp [zDev] at hb⟩, ⟨by simp [zDev], by simp [zDev]⟩⟩
 · split
   · exact ⟨⟨by simp [zDev], fun b hb => by simp [zDev] at hb⟩, ⟨by simp [zDev], by simp [zDev]⟩⟩
   · exact ⟨⟨h.1, h.2⟩, zre c _⟩
theorem zij {g : Geometry} {bad : List Int} : DevOk (z0q g bad).1 := by
 unfold z0q; split
 · exact ⟨⟨by simp [zDev], fun b hb => by simp [zDev] at hb⟩, ⟨by simp [zDev], by simp [zDev]⟩⟩
 · exact zui (zuh _ _ _).1
end Clk
namespace Clk
open Go
end Clk
namespace Clk
open Go
section
variable {H : Type} {enc : TypeId × Value -> H} {P : Program} {w : World} {base : Nat} {spare : Nat -> Bool} {held : Bool}
open Go.ChangeShapes Go.WideShapes
end
end Clk
namespace Clk
open Go
inductive Sh where
 | int (k : IntKind) | bool | str | sl (l : List Sh)
def flatFs (r : TypeId -> Option (List Sh)) (sz : TypeId -> Nat) : Nat -> List Field -> Option (List Sh)
 | _, [] => some []
 | off, f :: fs => match r f.type with
   | some l => if f.offset = off /\ l.length = sz f.type then match flatFs r sz (off + l.length) fs with | some m => some (l ++ m) | none => none else none
   | none => none
def flatT (P : Program) : Nat -> TypeId -> Option (List Sh)
 | 0, _ => none
 | n + 1, t => match P.underlying t with
   | some (.int k) => some [.int k]
   | some .bool => some [.bool]
   | some .string => some [.str]
   | some (.slice e) => match flatT P n e with
     | some l => if 0 < l.length /\ l.length = P.cellsOf e then some [.sl l] else none
     | none => none
   | some (.struct fs) => match flatFs (flatT P n) P.cellsOf 0 fs.toList with
     | some l => if l.length = P.cellsOf t then some l else none
     | none => none
   | _ => none
inductive ShA : Sh -> AV -> Prop
 | int {k : IntKind} {n : Int} (h : (Lit.int k n).wf = true) : ShA (.int k) (.int k n)
 | bool (b : Bool) : ShA .bool (.bool b)
 | str {s : ByteArray} (h : s.size <= maxLen) : ShA .str (.str s)
 | sl {sh : List Sh} {l : List (List AV)} (h : l.length <= maxLen) (hl : ∀ row ∈ l, row.length = sh.length) (hr : ∀ row ∈ l, ∀ (j : Nat) s a, sh[j]? = some s -> row[j]? = some a -> ShA s a) : ShA (.sl sh) (.rows l)
def ShL (sh : List Sh) (l : List AV) : Prop := l.length = sh.length /\ ∀ (j : Nat) s a, sh[j]? = some s -> l[j]? = some a -> ShA s a
theorem ShL.nil : ShL [] [] := ⟨rfl, fun _ _ _ h => by simp at h⟩
theorem ShL.single {s : Sh} {a : AV} (h : ShA s a) : ShL [s] [a] := ⟨rfl, fun j s' a' h1 h2 => by
 cases j with
 | zero => simp at h1 h2; subst h1; subst h2; exact h
 | succ j => simp at h1⟩
theorem ShL.append {s1 s2 : List Sh} {l1 l2 : List AV} (h1 : ShL s1 l1) (h2 : ShL s2 l2) : ShL (s1 ++ s2) (l1 ++ l2) := by
 refine ⟨by simp [h1.1, h2.1], fun j s a e1 e2 => ?_⟩; by_cases hj : j < s1.length
 · rw [List.getElem?_append_left hj] at e1; rw [List.getElem?_append_left (by rw [h1.1]; exact hj)] at e2; exact h1.2 j s a e1 e2
 · rw [List.getElem?_append_right (by omega)] at e1; rw [List.getElem?_append_right (by rw [h1.1]; omega), h1.1] at e2; exact h2.2 _ s a e1 e2
section
variable {H : Type} {enc : TypeId × Value -> H} {P : Program} {w : World} {base : Nat} {spare : Nat -> Bool} {held : Bool} {N : Nat -> Prop}
def CellsA (w : World) (N : Nat -> Prop) (sh : List Sh) (cs : List Value) : Prop := ∃ l, ShL sh l /\ cs.length = l.length /\ ∀ (j : Nat) a v, l[j]? = some a -> cs[j]? = some v -> RelI w N a v
theorem CellsA.single {s : Sh} {a : AV} {v : Value} (h : ShA s a) (hr : RelI w N a v) : CellsA w N [s] [v] :=
 ⟨[a], ShL.single h, rfl, fun j a' v' h1 h2 => by
  cases j with
  | zero => simp at h1 h2; subst h1; subst h2; exact hr
  | succ j => simp at h1⟩
theorem zo1 {r : TypeId -> Option (List Sh)} {sz : TypeId -> Nat} {cs : List Value}
 (hr : ∀ t sh cs, r t = some sh -> (∃ fuel y, DataW.trod enc P w base spare held fuel t cs = some y) -> CellsA w N sh cs) :
 ∀ (fs : List Field) (off : Nat) (sh : List Sh), flatFs r sz off fs = some sh -> (∀ f ∈ fs, ∃ fuel y, DataW.trod enc P w base spare held fuel f.type ((cs.drop f.offset).take (sz f.type)) = some y) ->
  ∃ l, ShL sh l /\ ∀ (j : Nat) a v, l[j]? = some a -> cs[off + j]? = some v -> RelI w N a v := by
 intro fs; induction fs with
 | nil =>
   intro off sh h _; simp only [flatFs, Option.some.injEq] at h; subst h; exact ⟨[], ShL.nil, fun j a v h => by simp at h⟩
 | cons f fs ih =>
   intro off sh h hf; simp only [flatFs] at h; split at h
   · rename_i l1 hl1; split at h
     · rename_i hc; split at h
       · rename_i m hm; simp only [Option.some.injEq] at h; subst h; obtain ⟨la, ha1, ha2, ha3⟩ := hr _ _ _ hl1 (hf f (by simp)); obtain ⟨lb, hb1, hb2⟩ := ih _ _ hm (fun g hg => hf g (List.mem_cons_of_mem _ hg)); refine ⟨la ++ lb, ha1.append hb1, fun j a v e1 e2 => ?_⟩; have hlen := ha1.1; by_cases hj : j < la.length
         · rw [List.getElem?_append_left hj] at e1; refine ha3 j a v e1 ?_; rw [List.getElem?_take, if_pos (by omega), List.getElem?_drop, hc.1]; exact e2
         · rw [List.getElem?_append_right (by omega)] at e1; refine hb2 (j - la.length) a v e1 ?_; rw [<- e2]; congr 1
           omega
       · cases h
     · cases h
   · cases h
theorem zuj : ∀ (n : Nat) (t : TypeId) (sh : List Sh) (cs : List Value), flatT P n t = some sh -> (∃ fuel y, DataW.trod enc P w base spare held fuel t cs = some y) -> CellsA w (fun _ => False) sh cs := by
 intro n; induction n with
 | zero => intro t sh cs h; cases h
 | succ n ih =>
   intro t sh cs h hy; obtain ⟨fuel, x, hx⟩ := hy; unfold flatT at h; split at h
   · rename_i k hu; cases h; obtain ⟨n', rfl, _, hw⟩ := DataW.trod_int hu hx; exact CellsA.single (.int hw) (.int _ _)
   · rename_i hu; cases h; obtain ⟨b, rfl, _⟩ := DataW.trod_bool hu hx; exact CellsA.single (.bool b) (.bool _)
   · rename_i hu; cases h; obtain ⟨s, rfl, _, hs⟩ := DataW.trod_string hu hx; exact CellsA.single (.str hs) (.str _)
   · rename_i e hu; split at h
     · rename_i l hl; split at h
       · rename_i hc; cases h; rcases DataW.trod_slice hu hx with ⟨rfl, _⟩ | ⟨a, len, cap, elems, rest, m, rfl, rfl, _, hb, hlc, hm, hlen, hel, _, _⟩
         · refine CellsA.single (a := .rows []) (.sl (by simp) (fun _ h => absurd h List.not_mem_nil) (fun _ h => absurd h List.not_mem_nil)) ?_; exact RelI.rows (l := []) (k := 1) (u := fun _ _ => undef) (Nat.le_refl _) (fun _ _ h => by simp at h) (fun h => absurd h (by simp)) (fun _ _ _ _ _ _ h => by simp at h) (fun _ _ _ _ h => by simp at h)
         · have key : ∀ i, ∃ r : List Value × List AV, i < len -> w.cells? base (a.add (i * P.cellsOf e)) (P.cellsOf e) = some r.1 /\ ShL l r.2 /\ r.1.length = r.2.length /\ ∀ (j : Nat) x v, r.2[j]? = some x -> r.1[j]? = some v -> RelI w (fun _ => False) x v := fun i => by
            by_cases hi : i < len
            · have hi2 := hel i hi; rw [zH (by omega)] at hi2; obtain ⟨cs', hcs, hy⟩ := Option.bind_eq_some_iff.1 hi2; obtain ⟨lr, h1, h2, h3⟩ := ih e l cs' hl ⟨_, _, hy⟩; exact ⟨(cs', lr), fun _ => ⟨hcs, h1, h2, h3⟩⟩
            · exact ⟨([], []), fun h => absurd h hi⟩
           let f := fun i => Classical.choose (key i)
           have hf : ∀ i, i < len -> w.cells? base (a.add (i * P.cellsOf e)) (P.cellsOf e) = some (f i).1 /\ ShL l (f i).2 /\ (f i).1.length = (f i).2.length /\ ∀ (j : Nat) x v, (f i).2[j]? = some x -> (f i).1[j]? = some v -> RelI w (fun _ => False) x v := fun i hi => Classical.choose_spec (key i) hi
           have hget : ∀ (i : Nat) row, ((List.range len).map fun i => (f i).2)[i]? = some row -> i < len /\ row = (f i).2 := by
            intro i row q; simp only [List.getElem?_map, Option.map_eq_some_iff] at q; obtain ⟨j, q1, rfl⟩ := q; have hi := (zG.1 q1).1; simp only [List.length_range] at hi; rw [List.getElem?_range hi] at q1; cases q1; exact ⟨hi, rfl⟩
           have hlen' : ((List.range len).map fun i => (f i).2).length = len := by simp
           have hcell : ∀ i, i < len -> ∀ j, j < l.length -> w.cell? ((a.add (i * P.cellsOf e)).add j) = (f i).1[j]? := fun i hi j hj => (World.cells?_some (hf i hi).1).2.2 j (by rw [<- hc.2]; exact hj)
           have hspot : 0 < len -> a.spot = none /\ a.block < w.heap.size := by
            intro h0; have q := hcell 0 h0 0 hc.1; have hlt : 0 < (f 0).1.length := by rw [(hf 0 h0).2.2.1, (hf 0 h0).2.1.1]; exact hc.1
            rw [zH hlt] at q; have e0 : (a.add (0 * P.cellsOf e)).add 0 = a := by simp [Addr.add]
            rw [e0] at q; exact zt8 q
           have hadd : ∀ i j, 0 < len -> (a.add (i * P.cellsOf e)).add j = ⟨a.block, a.off + (i * l.length + j), none⟩ := by
            intro i j h0; have hs0 := (hspot h0).1; obtain ⟨b, o, s⟩ := a; simp only at hs0; subst hs0; rw [Go.WideShapes.add_plain, Go.WideShapes.add_plain, hc.2, Nat.add_assoc]
           refine CellsA.single (a := .rows ((List.range len).map fun i => (f i).2)) (.sl (by rw [hlen']; omega) (fun row hr => ?_) (fun row hr => ?_)) ?_
           · obtain ⟨i, hi, rfl⟩ := List.mem_map.1 hr; exact (hf i (List.mem_range.1 hi)).2.1.1
           · obtain ⟨i, hi, rfl⟩ := List.mem_map.1 hr; exact (hf i (List.mem_range.1 hi)).2.1.2
           · have := RelI.rows (w := w) (N := fun _ => False) (l := (List.range len).map fun i => (f i).2) (a := some a) (c := cap) (k := l.length) (u := fun i j => ((f i).1[j]?).getD undef) (by omega)
              (fun i row q => by rw [(hget i row q).2]; exact (hf i (hget i row q).1).2.1.1)
              (fun h0 => by
                rw [hlen'] at h0; exact ⟨a, rfl, (hspot h0).1, fun h => h, (hspot h0).2⟩)
              (fun ad i row j y e1 q1 q2 => by
                cases e1; obtain ⟨hi, rfl⟩ := hget i row q1; have hj := (zG.1 q2).1; rw [<- hadd i j (by omega), hcell i hi j (by rw [<- (hf i hi).2.1.1]; exact hj)]; rw [zH (by rw [(hf i hi).2.2.1]; exact hj)]; rfl)
              (fun i row j y q1 q2 => by
                obtain ⟨hi, rfl⟩ := hget i row q1; have hj := (zG.1 q2).1; refine (hf i hi).2.2.2 j y _ q2 ?_; rw [zH (by rw [(hf i hi).2.2.1]; exact hj)]; rfl)
             rw [hlen'] at this; exact this
       · cases h
     · cases h
   · rename_i fs hu; split at h
     · rename_i l hl; split at h
       · rename_i hc; cases h; obtain ⟨xs, m, rfl, _, hlen, hxl, hf⟩ := DataW.trod_struct hu hx; obtain ⟨l', h1, h2⟩ := zo1 (enc := enc) (base := base) (spare := spare) (held := held) (N := fun _ => False) (w := w) (cs := cs) (fun t sh cs a b => ih t sh cs a b) fs.toList 0 sh hl (fun f hfm => by
          obtain ⟨i, hi⟩ := List.getElem?_of_mem hfm; have hi' : fs[i]? = some f := by simpa using hi
          have := hf i f hi'; have hlt : i < fs.size := (Array.getElem?_eq_some_iff.1 hi').1; rw [zH (by omega)] at this; exact ⟨_, _, this⟩)
         exact ⟨l', h1, by rw [hlen, <- hc, h1.1], fun j a v e1 e2 => h2 j a v e1 (by simpa using e2)⟩
       · cases h
     · cases h
   · cases h
end
end Clk
namespace Clk
open Go
def shI : Sh := .int .i64
def shInts : Sh := .sl [shI]
def shStrs : Sh := .sl [.str]
def shPage : List Sh := [.bool, .str, .str]
def shBlock : List Sh := [.sl shPage, shI, shI, .bool]
def shFate : List Sh := [shI, .str, .str, shI]
def zem : List Sh := [shI, shI, shInts, shInts]
def zg8 : List Sh := [shI, shI, shI, shStrs]
def TC.sh : TC -> List Sh
 | .int k => [.int k]
 | .bool => [.bool]
 | .str => [.str]
 | .list c => [.sl c.sh]
 | .page => shPage
 | .block => shBlock
 | .chip => [.sl shBlock, .bool, .bool, shI]
 | .fate => shFate
 | .record => zem
 | .found => shI :: zem
 | .table => [shInts, shInts]
 | .slot => [shI, shI, shI]
 | .write => .str :: zem
 | .command => zg8
 | .geometry => [shI, shI, shI, shI]
 | .device => [shI, shI, shI, shI, .sl shBlock, .bool, .bool, shI, shInts, shInts, shI, shI]
 | .answer => [shI, shStrs]
 | .event => zg8 ++ [.sl shFate]
 | .report => [shI, shI, shI, shI, shI, shI, .bool]
 | .rank => [shI, shI]
theorem ShL.cons_inv {s : Sh} {sh : List Sh} {l : List AV} (h : ShL (s :: sh) l) : ∃ a l', l = a :: l' /\ ShA s a /\ ShL sh l' := by
 cases l with
 | nil => cases h.1
 | cons a l' => exact ⟨a, l', rfl, h.2 0 s a rfl rfl, by have := h.1; simp at this; exact this, fun j s' a' h1 h2 => h.2 (j + 1) s' a' (by simpa using h1) (by simpa using h2)⟩
theorem ShL.nil_inv {l : List AV} (h : ShL [] l) : l = [] := List.eq_nil_of_length_eq_zero h.1
theorem ShA.int_inv {k : IntKind} {a : AV} (h : ShA (.int k) a) : ∃ n, a = .int k n /\ (Lit.int k n).wf = true := by cases h with | int h => exact ⟨_, rfl, h⟩
theorem ShA.bool_inv {a : AV} (h : ShA .bool a) : ∃ b, a = .bool b := by cases h with | bool b => exact ⟨_, rfl⟩
theorem ShA.str_inv {a : AV} (h : ShA .str a) : ∃ s : Str, a = sA s /\ s.length <= maxLen := by
 cases h with
 | @str s h => exact ⟨s.data.toList, by simp [sA], by simpa using h⟩
theorem zik {α : Type} {f : α -> List AV} : ∀ {l : List (List AV)}, (∀ row ∈ l, ∃ x, f x = row) -> ∃ xs : List α, xs.map f = l
 | [], _ => ⟨[], rfl⟩
 | r :: l, h => by
   obtain ⟨x, hx⟩ := h r (by simp); obtain ⟨xs, hxs⟩ := zik (l := l) (fun row hr => h row (List.mem_cons_of_mem _ hr)); exact ⟨x :: xs, by simp [hx, hxs]⟩
theorem ShA.sl_inv {α : Type} {f : α -> List AV} {sh : List Sh} {a : AV} (hd : ∀ l, ShL sh l -> ∃ x : α, f x = l) (h : ShA (.sl sh) a) : ∃ xs : List α, a = .rows (xs.map f) := by
 cases h with
 | sl h hl hr =>
   obtain ⟨xs, hxs⟩ := zik (fun row hm => hd row ⟨hl row hm, hr row hm⟩); exact ⟨xs, by rw [hxs]⟩
theorem zz4 {l : List AV} (h : ShL [shI] l) : ∃ n : Int, [iA n] = l := by
 obtain ⟨a, l, rfl, ha, h1⟩ := h.cons_inv; have := h1.nil_inv; subst this; obtain ⟨n, rfl, _⟩ := ha.int_inv; exact ⟨n, rfl⟩
theorem zuk {l : List AV} (h : ShL [.str] l) : ∃ n : Str, [sA n] = l := by
 obtain ⟨a, l, rfl, ha, h1⟩ := h.cons_inv; have := h1.nil_inv; subst this; obtain ⟨n, rfl, _⟩ := ha.str_inv; exact ⟨n, rfl⟩
theorem ShA.ints_inv {a : AV} (h : ShA shInts a) : ∃ ns : List Int, a = eInts ns := ShA.sl_inv (fun _ h => zz4 h) h
theorem ShA.strs_inv {a : AV} (h : ShA shStrs a) : ∃ ns : List Str, a = eStrs ns := ShA.sl_inv (fun _ h => zuk h) h
theorem ShA.i_inv {a : AV} (h : ShA shI a) : ∃ n, a = iA n := by obtain ⟨n, e, _⟩ := h.int_inv; exact ⟨n, e⟩
theorem zpv {l : List AV} (h : ShL shPage l) : ∃ p : Page, ePage p = l := by
 obtain ⟨a, l, rfl, ha, h1⟩ := h.cons_inv; obtain ⟨b, l, rfl, hb, h2⟩ := h1.cons_inv; obtain ⟨c, l, rfl, hc, h3⟩ := h2.cons_inv; have := h3.nil_inv; subst this; obtain ⟨x, rfl⟩ := ha.bool_inv; obtain ⟨y, rfl, _⟩ := hb.str_inv; obtain ⟨z, rfl, _⟩ := hc.str_inv; exact ⟨⟨x, y, z⟩, rfl⟩
theorem zg9 {l : List AV} (h : ShL shBlock l) : ∃ p : Block, eBlock p = l := by
 obtain ⟨a, l, rfl, ha, h1⟩ := h.cons_inv; obtain ⟨b, l, rfl, hb, h2⟩ := h1.cons_inv; obtain ⟨c, l, rfl, hc, h3⟩ := h2.cons_inv; obtain ⟨d, l, rfl, hd, h4⟩ := h3.cons_inv; have := h4.nil_inv; subst this; obtain ⟨x, rfl⟩ := ha.sl_inv (fun _ h => zpv h); obtain ⟨y, rfl⟩ := hb.i_inv; obtain ⟨z, rfl⟩ := hc.i_inv; obtain ⟨u, rfl⟩ := hd.bool_inv; exact ⟨⟨x, y, z, u⟩, rfl⟩
theorem zpw {l : List AV} (h : ShL shFate l) : ∃ p : Fate, eFate p = l := by
 obtain ⟨a, l, rfl, ha, h1⟩ := h.cons_inv; obtain ⟨b, l, rfl, hb, h2⟩ := h1.cons_inv; obtain ⟨c, l, rfl, hc, h3⟩ := h2.cons_inv; obtain ⟨d, l, rfl, hd, h4⟩ := h3.cons_inv; have := h4.nil_inv; subst this; obtain ⟨x, rfl⟩ := ha.i_inv; obtain ⟨y, rfl, _⟩ := hb.str_inv; obtain ⟨z, rfl, _⟩ := hc.str_inv; obtain ⟨u, rfl⟩ := hd.i_inv; exact ⟨⟨x, y, z, u⟩, rfl⟩
theorem zcp {l : List AV} (h : ShL zem l) : ∃ p : Record, eRecord p = l := by
 obtain ⟨a, l, rfl, ha, h1⟩ := h.cons_inv; obtain ⟨b, l, rfl, hb, h2⟩ := h1.cons_inv; obtain ⟨c, l, rfl, hc, h3⟩ := h2.cons_inv; obtain ⟨d, l, rfl, hd, h4⟩ := h3.cons_inv; have := h4.nil_inv; subst this; obtain ⟨x, rfl⟩ := ha.i_inv; obtain ⟨y, rfl⟩ := hb.i_inv; obtain ⟨z, rfl⟩ := hc.ints_inv; obtain ⟨u, rfl⟩ := hd.ints_inv; exact ⟨⟨x, y, z, u⟩, rfl⟩
theorem zga {l l' : List AV} {sh : List Sh} (h : ShL (zg8 ++ sh) l) : ∃ (p : Command) (l' : List AV), l = z5t p ++ l' /\ ShL sh l' := by
 obtain ⟨a, l, rfl, ha, h1⟩ := ShL.cons_inv h; obtain ⟨b, l, rfl, hb, h2⟩ := ShL.cons_inv h1; obtain ⟨c, l, rfl, hc, h3⟩ := ShL.cons_inv h2; obtain ⟨d, l, rfl, hd, h4⟩ := ShL.cons_inv h3; obtain ⟨x, rfl⟩ := ha.i_inv; obtain ⟨y, rfl⟩ := hb.i_inv; obtain ⟨z, rfl⟩ := hc.i_inv; obtain ⟨u, rfl⟩ := hd.strs_inv; exact ⟨⟨x, y, z, u⟩, l, rfl, h4⟩
theorem dec : ∀ (c : TC) {l : List AV}, ShL c.sh l -> ∃ x : c.den, z5u c x = l
 | .int k, l, h => by
   obtain ⟨a, l, rfl, ha, h1⟩ := h.cons_inv; have := h1.nil_inv; subst this; obtain ⟨n, rfl, _⟩ := ha.int_inv; exact ⟨n, rfl⟩
 | .bool, l, h => by
   obtain ⟨a, l, rfl, ha, h1⟩ := h.cons_inv; have := h1.nil_inv; subst this; obtain ⟨n, rfl⟩ := ha.bool_inv; exact ⟨n, rfl⟩
 | .str, l, h => zuk h
 | .list c, l, h => by
   obtain ⟨a, l, rfl, ha, h1⟩ := h.cons_inv; have := h1.nil_inv; subst this; obtain ⟨xs, rfl⟩ := ha.sl_inv (fun _ h => dec c h); exact ⟨xs, rfl⟩
 | .page, l, h => zpv h
 | .block, l, h => zg9 h
 | .chip, l, h => by
   obtain ⟨a, l, rfl, ha, h1⟩ := h.cons_inv; obtain ⟨b, l, rfl, hb, h2⟩ := h1.cons_inv; obtain ⟨c, l, rfl, hc, h3⟩ := h2.cons_inv; obtain ⟨d, l, rfl, hd, h4⟩ := h3.cons_inv; have := h4.nil_inv; subst this; obtain ⟨x, rfl⟩ := ha.sl_inv (fun _ h => zg9 h); obtain ⟨y, rfl⟩ := hb.bool_inv; obtain ⟨z, rfl⟩ := hc.bool_inv; obtain ⟨u, rfl⟩ := hd.i_inv; exact ⟨⟨x, y, z, u⟩, rfl⟩
 | .fate, l, h => zpw h
 | .record, l, h => zcp h
 | .found, l, h => by
   obtain ⟨a, l, rfl, ha, h1⟩ := h.cons_inv; obtain ⟨x, rfl⟩ := ha.i_inv; obtain ⟨r, rfl⟩ := zcp h1; exact ⟨⟨x, r⟩, rfl⟩
 | .table, l, h => by
   obtain ⟨a, l, rfl, ha, h1⟩ := h.cons_inv; obtain ⟨b, l, rfl, hb, h2⟩ := h1.cons_inv; have := h2.nil_inv; subst this; obtain ⟨x, rfl⟩ := ha.ints_inv; obtain ⟨y, rfl⟩ := hb.ints_inv; exact ⟨⟨x, y⟩, rfl⟩
 | .slot, l, h => by
   obtain ⟨a, l, rfl, ha, h1⟩ := h.cons_inv; obtain ⟨b, l, rfl, hb, h2⟩ := h1.cons_inv; obtain ⟨c, l, rfl, hc, h3⟩ := h2.cons_inv; have := h3.nil_inv; subst this; obtain ⟨x, rfl⟩ := ha.i_inv; obtain ⟨y, rfl⟩ := hb.i_inv; obtain ⟨z, rfl⟩ := hc.i_inv; exact ⟨⟨x, y, z⟩, rfl⟩
 | .write, l, h => by
   obtain ⟨a, l, rfl, ha, h1⟩ := h.cons_inv; obtain ⟨x, rfl, _⟩ := ha.str_inv; obtain ⟨r, rfl⟩ := zcp h1; exact ⟨⟨x, r⟩, rfl⟩
 | .command, l, h => by
   obtain ⟨p, l', rfl, h1⟩ := zga (sh := []) (l' := []) (by rw [List.append_nil]; exact h); have := h1.nil_inv; subst this; exact ⟨p, by simp [z5u]⟩
 | .geometry, l, h => by
   obtain ⟨a, l, rfl, ha, h1⟩ := h.cons_inv; obtain ⟨b, l, rfl, hb, h2⟩ := h1.cons_inv; obtain ⟨c, l, rfl, hc, h3⟩ := h2.cons_inv; obtain ⟨d, l, rfl, hd, h4⟩ := h3.cons_inv; have := h4.nil_inv; subst this; obtain ⟨x, rfl⟩ := ha.i_inv; obtain ⟨y, rfl⟩ := hb.i_inv; obtain ⟨z, rfl⟩ := hc.i_inv; obtain ⟨u, rfl⟩ := hd.i_inv; exact ⟨⟨x, y, z, u⟩, rfl⟩
 | .device, l, h => by
   obtain ⟨a, l, rfl, ha, h1⟩ := h.cons_inv; obtain ⟨b, l, rfl, hb, h2⟩ := h1.cons_inv; obtain ⟨c, l, rfl, hc, h3⟩ := h2.cons_inv; obtain ⟨d, l, rfl, hd, h4⟩ := h3.cons_inv; obtain ⟨x, rfl⟩ := ha.i_inv; obtain ⟨y, rfl⟩ := hb.i_inv; obtain ⟨z, rfl⟩ := hc.i_inv; obtain ⟨u, rfl⟩ := hd.i_inv; obtain ⟨a, l, rfl, ha, h5⟩ := h4.cons_inv; obtain ⟨b, l, rfl, hb, h6⟩ := h5.cons_inv; obtain ⟨c, l, rfl, hc, h7⟩ := h6.cons_inv; obtain ⟨d, l, rfl, hd, h8⟩ := h7.cons_inv; obtain ⟨x2, rfl⟩ := ha.sl_inv (fun _ h => zg9 h); obtain ⟨y2, rfl⟩ := hb.bool_inv; obtain ⟨z2, rfl⟩ := hc.bool_inv; obtain ⟨u2, rfl⟩ := hd.i_inv; obtain ⟨a, l, rfl, ha, h9⟩ := h8.cons_inv; obtain ⟨b, l, rfl, hb, h10⟩ := h9.cons_inv; obtain ⟨c, l, rfl, hc, h11⟩ := h10.cons_inv; obtain ⟨d, l, rfl, hd, h12⟩ := h11.cons_inv; have := h12.nil_inv; subst this; obtain ⟨x3, rfl⟩ := ha.ints_inv; obtain ⟨y3, rfl⟩ := hb.ints_inv; obtain ⟨z3, rfl⟩ := hc.i_inv; obtain ⟨u3, rfl⟩ := hd.i_inv; exact ⟨⟨⟨x, y, z, u⟩, ⟨x2, y2, z2, u2⟩, ⟨x3, y3⟩, z3, u3⟩, rfl⟩
 | .answer, l, h => by
   obtain ⟨a, l, rfl, ha, h1⟩ := h.cons_inv; obtain ⟨b, l, rfl, hb, h2⟩ := h1.cons_inv; have := h2.nil_inv; subst this; obtain ⟨x, rfl⟩ := ha.i_inv; obtain ⟨y, rfl⟩ := hb.strs_inv; exact ⟨⟨x, y⟩, rfl⟩
 | .event, l, h => by
   obtain ⟨p, l', rfl, h1⟩ := zga (l' := []) h; obtain ⟨a, l, rfl, ha, h2⟩ := h1.cons_inv; have := h2.nil_inv; subst this; obtain ⟨x, rfl⟩ := ha.sl_inv (fun _ h => zpw h); exact ⟨⟨p, x⟩, rfl⟩
 | .report, l, h => by
   obtain ⟨a, l, rfl, ha, h1⟩ := h.cons_inv; obtain ⟨b, l, rfl, hb, h2⟩ := h1.cons_inv; obtain ⟨c, l, rfl, hc, h3⟩ := h2.cons_inv; obtain ⟨d, l, rfl, hd, h4⟩ := h3.cons_inv; obtain ⟨x, rfl⟩ := ha.i_inv; obtain ⟨y, rfl⟩ := hb.i_inv; obtain ⟨z, rfl⟩ := hc.i_inv; obtain ⟨u, rfl⟩ := hd.i_inv; obtain ⟨a, l, rfl, ha, h5⟩ := h4.cons_inv; obtain ⟨b, l, rfl, hb, h6⟩ := h5.cons_inv; obtain ⟨c, l, rfl, hc, h7⟩ := h6.cons_inv; have := h7.nil_inv; subst this; obtain ⟨x2, rfl⟩ := ha.i_inv; obtain ⟨y2, rfl⟩ := hb.i_inv; obtain ⟨z2, rfl⟩ := hc.bool_inv; exact ⟨⟨x, y, z, u, x2, y2, z2⟩, rfl⟩
 | .rank, l, h => by
   obtain ⟨a, l, rfl, ha, h1⟩ := h.cons_inv; obtain ⟨b, l, rfl, hb, h2⟩ := h1.cons_inv; have := h2.nil_inv; subst this; obtain ⟨x, rfl⟩ := ha.i_inv; obtain ⟨y, rfl⟩ := hb.i_inv; exact ⟨⟨x, y⟩, rfl⟩
def IsArg (c : TC) (w : World) (v : Value) (x : c.den) : Prop := RelI w (fun _ => False) (encV c x) v /\ ShL c.sh (z5u c x)
section
variable {H : Type} {enc : TypeId × Value -> H} {P : Program} {w : World} {base : Nat} {spare : Nat -> Bool} {held : Bool}
theorem zbt {c : TC} {n : Nat} {t : TypeId} {v : Value} {d : DataW H} {p : List MemPlace} (hf : flatT P n t = some c.sh) (hv : (c.agg = true /\ ∃ cs, v = .agg cs) \/ (c.agg = false /\ v.cells = #[v]))
 (hd : DataW.Trod enc P w base spare held t v d p) : ∃ x : c.den, IsArg c w v x := by
 obtain ⟨fuel, hd⟩ := hd; obtain ⟨l, h1, h2, h3⟩ := zuj n t c.sh _ hf ⟨_, _, hd⟩; obtain ⟨x, rfl⟩ := dec c h1; refine ⟨x, ?_, h1⟩; rcases hv with ⟨ha, cs, rfl⟩ | ⟨ha, hc⟩
 · simp only [encV, ha, if_true]; simp only [Value.cells] at h2 h3; exact .agg (by simpa using h2) (fun i a v e1 e2 => h3 i a v e1 (by simpa using e2))
 · rw [hc] at h2 h3; simp only [List.length_cons, List.length_nil] at h2; obtain ⟨a, hl⟩ : ∃ a, z5u c x = [a] := by
    match z5u c x, h2 with
    | [a], _ => exact ⟨a, rfl⟩
   have e : encV c x = a := by simp [encV, ha, hl]
   rw [e]; exact h3 0 a v (by rw [hl]; rfl) rfl
end
end Clk
namespace Clk
open Go
theorem zm4 {P : Program} {l : List (FuncId × Spec)} (hl : zo P (zx l)) {f : FuncId} {s : Spec} (hb : Body P f)
 (h : ∀ x y, s.h x = some y -> ∀ (w : World) (N : Nat -> Prop) (vs : Array Value), (∀ r, N r -> r < w.heap.size) -> IRel w N (encL s.params x) vs -> Calls P f vs w (z78 w N (encRes s.res y))) : zo P (zx ((f, s) :: l)) := by
 rw [zia]; intro g hg e; unfold addO at e; split at e
 · rename_i hgf; subst hgf; cases e; refine ⟨hb, fun args r e w N vs hN hr => callsIn_wide.2 ?_⟩; obtain ⟨x, y, rfl, h1, rfl⟩ := zxf e; exact h x y h1 w N vs hN hr
 · exact hl g hg e
theorem zul {P : Program} {l : List (FuncId × Spec)} (hl : zo P (zx l)) {f : FuncId} {s : Spec} (hs : z38 l f = some s) {x : z2z s.params} {y : z2z s.res} (h : s.h x = some y) {w : World} {N : Nat -> Prop} {vs : Array Value}
 (hN : ∀ r, N r -> r < w.heap.size) (hr : IRel w N (encL s.params x) vs) : Calls P f vs w (z78 w N (encRes s.res y)) :=
 callsIn_wide.1 ((hl f (oS s) (by unfold zx; rw [hs]; rfl)).2 _ _ (znu h) w N vs hN hr)
structure Gr (L : Nat -> Prop) (w w' : World) : Prop where
 os : w'.os = w.os
 tape : w'.tape = w.tape
 output : w'.output = w.output
 size : w.heap.size <= w'.heap.size
 same : ∀ r : Nat, r < w.heap.size -> ¬ L r -> w'.heap[r]? = w.heap[r]?
theorem Gr.refl (L : Nat -> Prop) (w : World) : Gr L w w := ⟨rfl, rfl, rfl, Nat.le_refl _, fun _ _ _ => rfl⟩
theorem Gr.trans {L : Nat -> Prop} {a b c : World} (h : Gr L a b) (k : Gr L b c) : Gr L a c :=
 ⟨k.os.trans h.os, k.tape.trans h.tape, k.output.trans h.output, Nat.le_trans h.size k.size, fun r hr hn => (k.same r (Nat.lt_of_lt_of_le hr h.size) hn).trans (h.same r hr hn)⟩
theorem Gr.wider {L L' : Nat -> Prop} {a b : World} (h : Gr L a b) (hl : ∀ r, L r -> L' r) : Gr L' a b :=
 ⟨h.os, h.tape, h.output, h.size, fun r hr hn => h.same r hr fun e => hn (hl r e)⟩
theorem Gr.rel {L N N' : Nat -> Prop} {w w' : World} (g : Gr L w w') (hL : ∀ r, L r -> N r) (hN : ∀ r, N' r -> N r) {x : AV} {v : Value} (h : RelI w N x v) : RelI w' N' x v :=
 h.mono g.size (fun r hr hn => g.same r hr fun e => hn (hL r e)) fun r _ e => hN r e
theorem Gr.rel' {L N : Nat -> Prop} {w w' : World} (g : Gr L w w') (hL : ∀ r, L r -> N r) {x : AV} {v : Value} (h : RelI w N x v) : RelI w' N x v := g.rel hL (fun _ h => h) h
theorem Gr.alloc (L : Nat -> Prop) (w : World) (o : Obj) : Gr L w (w.alloc o) :=
 ⟨rfl, rfl, rfl, by show _ <= (w.heap.push o).size; simp, fun r hr _ => by show (w.heap.push o)[r]? = _; rw [Array.getElem?_push, if_neg (by omega)]⟩
theorem z2j (w : World) (b o : Nat) (v : Value) (r : Nat) : (w.setCell ⟨b, o, none⟩ v).heap[r]? = if r = b then (w.heap[r]?).map (Sort.onCells (·.setIfInBounds o v)) else w.heap[r]? := by
 rw [Sort.setCell_eq]; show (w.heap.modify b _)[r]? = _; rw [Array.getElem?_modify]; by_cases h : b = r
 · subst h; simp
 · rw [if_neg h, if_neg fun e => h e.symm]
theorem Gr.setCell {L : Nat -> Prop} (w : World) (b o : Nat) (v : Value) (h : L b) : Gr L w (w.setCell ⟨b, o, none⟩ v) :=
 ⟨rfl, rfl, rfl, by rw [Sort.setCell_eq]; simp [Sort.mapBlock], fun r hr hn => by rw [z2j, if_neg (fun e => by subst e; exact hn h)]⟩
theorem Gr.of_ends {w w' : World} (h1 : w'.os = w.os) (h2 : w'.tape = w.tape) (h3 : w'.output = w.output) (h4 : w.heap.size <= w'.heap.size) (h5 : ∀ r : Nat, r < w.heap.size -> w'.heap[r]? = w.heap[r]?) (L : Nat -> Prop) : Gr L w w' :=
 ⟨h1, h2, h3, h4, fun r hr _ => h5 r hr⟩
theorem store4 (w : World) {p : Nat} {pc : Array Value} {T : TypeId} (hp : w.heap[p]? = some (.cells pc T (0, 0))) (hps : pc.size = 4) (a b c d : Value) :
 Gr (fun x => x = p) w ((((w.setCell ⟨p, 0, none⟩ a).setCell ⟨p, 1, none⟩ b).setCell ⟨p, 2, none⟩ c).setCell ⟨p, 3, none⟩ d) /\ ((((w.setCell ⟨p, 0, none⟩ a).setCell ⟨p, 1, none⟩ b).setCell ⟨p, 2, none⟩ c).setCell ⟨p, 3, none⟩ d).heap[p]? = some (.cells #[a, b, c, d] T (0, 0)) := by
 refine ⟨(((Gr.setCell (L := fun x => x = p) w p 0 a rfl).trans (Gr.setCell _ p 1 b rfl)).trans (Gr.setCell _ p 2 c rfl)).trans (Gr.setCell _ p 3 d rfl), ?_⟩; simp only [z2j, if_true, hp, Option.map_some, Sort.onCells]; obtain ⟨l⟩ := pc; match l, hps with
 | [_, _, _, _], _ => rfl
theorem store1 (w : World) {p : Nat} {x : Value} {T : TypeId} (hp : w.heap[p]? = some (.cells #[x] T (0, 0))) (a : Value) : Gr (fun x => x = p) w (w.setCell ⟨p, 0, none⟩ a) /\ (w.setCell ⟨p, 0, none⟩ a).heap[p]? = some (.cells #[a] T (0, 0)) := by
 refine ⟨Gr.setCell (L := fun x => x = p) w p 0 a rfl, ?_⟩; rw [z2j, if_pos rfl, hp]; rfl
theorem Gr.drew {L : Nat -> Prop} {w w' : World} (h : Gr L w w') : Gr L w w'.drew := ⟨h.os, h.tape, h.output, h.size, h.same⟩
theorem alloc3 (w : World) (o1 o2 o3 : Obj) : Gr (fun _ => False) w (((w.alloc o1).alloc o2).alloc o3) /\ (((w.alloc o1).alloc o2).alloc o3).heap[w.heap.size]? = some o1 /\ (((w.alloc o1).alloc o2).alloc o3).heap[w.heap.size + 1]? = some o2 /\ (((w.alloc o1).alloc o2).alloc o3).heap[w.heap.size + 1 + 1]? = some o3 /\ (((w.alloc o1).alloc o2).alloc o3).heap.size = w.heap.size + 3 := by
 refine ⟨((Gr.alloc _ w o1).trans (Gr.alloc _ _ o2)).trans (Gr.alloc _ _ o3), ?_, ?_, ?_, ?_⟩
 · show (((w.heap.push o1).push o2).push o3)[w.heap.size]? = _; rw [Array.getElem?_push, if_neg (by simp; omega), Array.getElem?_push, if_neg (by simp), Array.getElem?_push, if_pos rfl]
 · show (((w.heap.push o1).push o2).push o3)[w.heap.size + 1]? = _; rw [Array.getElem?_push, if_neg (by simp), Array.getElem?_push, if_pos (by simp)]
 · show (((w.heap.push o1).push o2).push o3)[w.heap.size + 1 + 1]? = _; rw [Array.getElem?_push, if_pos (by simp)]
 · show (((w.heap.push o1).push o2).push o3).size = _; simp
theorem cells4 {W : World} {b : Nat} {a0 a1 a2 a3 : Value} {t : TypeId} (h : W.heap[b]? = some (.cells #[a0, a1, a2, a3] t (0, 0))) : W.cell? ⟨b, 0, none⟩ = some a0 /\ W.cell? ⟨b, 1, none⟩ = some a1 /\ W.cell? ⟨b, 2, none⟩ = some a2 /\ W.cell? ⟨b, 3, none⟩ = some a3 /\ W.frozen? ⟨b, 0, none⟩ = false /\ W.frozen? ⟨b, 1, none⟩ = false /\ W.frozen? ⟨b, 2, none⟩ = false /\ W.frozen? ⟨b, 3, none⟩ = false := by
 unfold World.cell? World.frozen?; rw [h]; simp
theorem cells1 {W : World} {b : Nat} {a0 : Value} {t : TypeId} (h : W.heap[b]? = some (.cells #[a0] t (0, 0))) : W.cell? ⟨b, 0, none⟩ = some a0 /\ W.frozen? ⟨b, 0, none⟩ = false := by
 unfold World.cell? World.frozen?; rw [h]; simp
theorem Gr.hide {L : Nat -> Prop} {w a b : World} (h : Gr (fun _ => False) w a) (k : Gr L a b) (hl : ∀ r, L r -> w.heap.size <= r) : Gr (fun _ => False) w b :=
 ⟨k.os.trans h.os, k.tape.trans h.tape, k.output.trans h.output, Nat.le_trans h.size k.size, fun r hr _ => (k.same r (Nat.lt_of_lt_of_le hr h.size) fun e => by have := hl r e; omega).trans (h.same r hr id)⟩
theorem zen {w : World} {N : Nat -> Prop} {l : List Int} {v : Value} (h : RelI w N (eInts l) v) : ∃ a c, v = .slice a l.length c /\ (∀ i (hi : i < l.length), ∃ ad : Addr, a = some ad /\ ad.spot = none /\ ¬ N ad.block /\ ad.block < w.heap.size /\ w.cell? ⟨ad.block, ad.off + i, none⟩ = some (.int .i64 l[i])) := by
 unfold eInts at h; generalize hm : l.map (fun n => [iA n]) = m at h; cases h with
 | @rows _ a c k u hc hk ha hu hr =>
   have hlen : m.length = l.length := by rw [<- hm]; simp
   refine ⟨a, c, by rw [hlen], fun i hi => ?_⟩; have hrow : m[i]? = some [iA l[i]] := by rw [<- hm, List.getElem?_map, zH hi]; rfl
   obtain ⟨ad, e1, e2, e3, e4⟩ := ha (by omega); have hk1 : k = 1 := by have := hk i _ hrow; simpa using this.symm
   subst hk1; have := hu ad i _ 0 _ e1 hrow rfl; rw [Nat.mul_one, Nat.add_zero] at this; have hv := hr i _ 0 _ hrow rfl; unfold iA at hv; generalize u i 0 = x at this hv; cases hv; exact ⟨ad, e1, e2, e3, e4, this⟩
theorem zgb (w : World) (b o : Nat) (v : Value) (b' i : Nat) (h : b' ≠ b) : (w.setCell ⟨b, o, none⟩ v).cell? ⟨b', i, none⟩ = w.cell? ⟨b', i, none⟩ := z2f (by rw [z2j, if_neg h])
theorem store3 (w : World) {p : Nat} {a b c d : Value} {T : TypeId} (hp : w.heap[p]? = some (.cells #[a, b, c, d] T (0, 0))) (x : Value) : Gr (fun r => r = p) w (w.setCell ⟨p, 3, none⟩ x) /\ (w.setCell ⟨p, 3, none⟩ x).heap[p]? = some (.cells #[a, b, c, x] T (0, 0)) := by
 refine ⟨Gr.setCell (L := fun r => r = p) w p 3 x rfl, ?_⟩; rw [z2j, if_pos rfl, hp]; rfl
theorem zjv {w : World} {N : Nat -> Prop} {a b : Int} {l m : List Int} {u v : Value} (hu : RelI w N (eInts l) u) (hv : RelI w N (eInts m) v) : RelI w N (.agg (eRecord ⟨a, b, l, m⟩)) (.agg #[.int .i64 a, .int .i64 b, u, v]) := by
 refine .agg rfl fun i x y h1 h2 => ?_
 match i, h1, h2 with
 | 0, h1, h2 => cases h1; cases h2; exact .int _ _
 | 1, h1, h2 => cases h1; cases h2; exact .int _ _
 | 2, h1, h2 => cases h1; cases h2; exact hu
 | 3, h1, h2 => cases h1; cases h2; exact hv
 | i + 4, h1, h2 => simp [eRecord] at h1
theorem zcq {w : World} {N : Nat -> Prop} : RelI w N (eInts []) (.slice none 0 0) :=
 RelI.rows (l := []) (k := 1) (u := fun _ _ => undef) (Nat.le_refl _) (fun _ _ h => by simp at h) (fun h => absurd h (by simp)) (fun _ _ _ _ _ _ h => by simp at h) (fun _ _ _ _ h => by simp at h)
theorem zum {w : World} {N : Nat -> Prop} {a b c : AV} {v : Value} (h : RelI w N (.tup [a, b, c]) v) : ∃ x y z, v = .tuple #[x, y, z] /\ RelI w N a x /\ RelI w N b y /\ RelI w N c z := by
 cases h with
 | @tup _ vs h hc =>
   obtain ⟨l⟩ := vs; match l, h with
   | [x, y, z], _ => exact ⟨x, y, z, rfl, hc 0 a x rfl rfl, hc 1 b y rfl rfl, hc 2 c z rfl rfl⟩
theorem zpx {w : World} {N : Nat -> Prop} {s : ByteArray} {v : Value} (h : RelI w N (.str s) v) : v = .string s := by cases h; rfl
theorem zwp {w : World} {N : Nat -> Prop} {k : IntKind} {n : Int} {v : Value} (h : RelI w N (.int k n) v) : v = .int k n := by cases h; rfl
end Clk
namespace Clk
open Go
def readF (U : Str -> Option (List Int × Str × Int)) (M : List Int -> Option (List Int)) (s : Str) : Option (Record × Int) := match U s with
 | none => none
 | some (l1, r1, e1) => cond (decide (e1 = 0)) (cond (decide (l1.length = 2)) (match U r1 with
   | none => none
   | some (l2, r2, e2) => cond (decide (e2 = 0)) (match U r2 with
     | none => none
     | some (l3, _, e3) => cond (decide (e3 = 0)) (match M l3 with
       | none => none
       | some l4 => some (⟨l1.getD 0 0, l1.getD 1 0, l2, l4⟩, 0)) (some (⟨0, 0, [], []⟩, 30))) none) (some (⟨0, 0, [], []⟩, 30))) (some (⟨0, 0, [], []⟩, 30))
def z7q (P : Program) (f : Nat) (U : Str -> Option (List Int × Str × Int)) : Prop := ∀ (s : Str) (l : List Int) (r : Str) (e : Int), U s = some (l, r, e) -> ∀ (w : World) (N : Nat -> Prop), (∀ b, N b -> b < w.heap.size) ->
 Calls P f #[.string ⟨s.toArray⟩] w fun en w' => ∃ v, en = .returned (.tuple #[v, .string ⟨r.toArray⟩, .int .i64 e]) /\ Gr (fun _ => False) w w' /\ RelI w' N (eInts l) v
def MovedAt (P : Program) (f : Nat) (M : List Int -> Option (List Int)) : Prop := ∀ (l l' : List Int), M l = some l' -> ∀ (w : World) (N : Nat -> Prop) (v : Value), (∀ b, N b -> b < w.heap.size) -> RelI w N (eInts l) v ->
 Calls P f #[v, .int .i64 (-1)] w fun en w' => ∃ v', en = .returned v' /\ Gr (fun _ => False) w w' /\ RelI w' N (eInts l') v'
def ReadAt (P : Program) (f : Nat) (U : Str -> Option (List Int × Str × Int)) (M : List Int -> Option (List Int)) : Prop := ∀ (s : Str) (r : Record) (e : Int), readF U M s = some (r, e) -> ∀ w : World,
 Calls P f #[.string ⟨s.toArray⟩] w fun en w' => ∃ v, en = .returned (.tuple #[v, .int .i64 e]) /\ Gr (fun _ => False) w w' /\ RelI w' (fun x => x < w.heap.size) (.agg (eRecord r)) v
theorem zil {w : World} {N : Nat -> Prop} {r : AV} {e : Ending} {w' : World} (h : z78 w N r e w') : ∃ v, e = .returned v /\ Gr (fun _ => False) w w' /\ RelI w' N r v := by
 obtain ⟨v, h1, h2, h3, h4, h5, h6, h7⟩ := h; exact ⟨v, h1, Gr.of_ends h2 h3 h4 h5 h6 _, h7⟩
theorem zrf {w w' : World} {N : Nat -> Prop} {r : AV} {v : Value} (g : Gr (fun _ => False) w w') (h : RelI w' N r v) : z78 w N r (.returned v) w' :=
 ⟨v, rfl, g.os, g.tape, g.output, g.size, fun r hr => g.same r hr id, h⟩
theorem zun {P : Program} {l : List (FuncId × Spec)} (hl : zo P (zx l)) {f : FuncId} {h : Str -> Option (List Int × Str × Int)} (hs : z38 l f = some ⟨[.str], [.list .i, .str, .i], h⟩) : z7q P f h := by
 intro s xs r e hu w N hN; refine (zul (s := ⟨[.str], [.list .i, .str, .i], h⟩) hl hs (x := s) (y := (xs, r, e)) hu hN ⟨rfl, fun i a v h1 h2 => ?_⟩).mono fun en w' he => ?_
 · match i, h1, h2 with
   | 0, h1, h2 => cases h1; cases h2; exact .str _
   | i + 1, h1, h2 => simp [encL] at h1
 · obtain ⟨v, e1, g, hv⟩ := zil he; obtain ⟨x, y, z, rfl, hx, hy, hz⟩ := zum (a := eInts xs) (b := sA r) (c := iA e) hv; have hy := zpx hy; have hz := zwp hz; subst hy hz; exact ⟨x, e1, g, hx⟩
theorem zwq {P : Program} {l : List (FuncId × Spec)} (hl : zo P (zx l)) {f : FuncId} {h : List Int × Int -> Option (List Int)} (hs : z38 l f = some ⟨[.list .i, .i], [.list .i], h⟩) : MovedAt P f (fun xs => h (xs, -1)) := by
 intro xs ys hm w N v hN hv; refine (zul (s := ⟨[.list .i, .i], [.list .i], h⟩) hl hs (x := (xs, -1)) (y := ys) hm hN ⟨rfl, fun i a u h1 h2 => ?_⟩).mono fun en w' he => ?_
 · match i, h1, h2 with
   | 0, h1, h2 => cases h1; cases h2; exact hv
   | 1, h1, h2 => cases h1; cases h2; exact .int _ _
   | i + 2, h1, h2 => simp [encL] at h1
 · obtain ⟨u, e1, g, hu⟩ := zil he; exact ⟨u, e1, g, hu⟩
theorem zuo {P : Program} {l : List (FuncId × Spec)} (hl : zo P (zx l)) {f : FuncId} (hb : Body P f) {U : Str -> Option (List Int × Str × Int)} {M : List Int -> Option (List Int)} (R : ReadAt P f U M) : zo P (zx ((f, ⟨[.str], [.record, .i], readF U M⟩) :: l)) := by
 refine zm4 hl hb fun (x : Str) y hxy w N vs hN hr => ?_
 obtain ⟨r, e⟩ := y; obtain ⟨hsz, hc⟩ := hr; obtain ⟨u0, rfl⟩ : ∃ u0, vs = #[u0] := by
  obtain ⟨k⟩ := vs; match k, hsz with
  | [a], _ => exact ⟨a, rfl⟩
 have h0 := zpx (hc 0 _ u0 rfl rfl); subst h0; refine (R x r e hxy w).mono fun en w' ⟨v, he, g, hv⟩ => ?_
 subst he; refine zrf g (.tup rfl fun i a u h1 h2 => ?_); match i, h1, h2 with
 | 0, h1, h2 => cases h1; cases h2; exact (Gr.refl (fun _ => False) w').rel (fun _ h => h.elim) (fun r h => hN r h) hv
 | 1, h1, h2 => cases h1; cases h2; exact .int _ _
 | i + 2, h1, h2 => simp [encL] at h1
end Clk
namespace Clk
open Go
noncomputable def z71 (a0 : Int) (a1 : Int) : Option (Int × Int) :=
 some ((Go.IntKind.u64.wrap ((Go.IntKind.u64.wrap ((Go.IntKind.u64.wrap ((Int.fdiv a0 (2 ^ (min 32 64))) * (Int.fdiv a1 (2 ^ (min 32 64))))) + (Int.fdiv (Go.IntKind.u64.wrap ((Go.IntKind.u64.wrap ((Int.fdiv a0 (2 ^ (min 32 64))) * (Go.IntKind.u64.wrap (bAnd .u64 a1 4294967295)))) + (Int.fdiv (Go.IntKind.u64.wrap ((Go.IntKind.u64.wrap (bAnd .u64 a0 4294967295)) * (Go.IntKind.u64.wrap (bAnd .u64 a1 4294967295)))) (2 ^ (min 32 64))))) (2 ^ (min 32 64))))) + (Int.fdiv (Go.IntKind.u64.wrap ((Go.IntKind.u64.wrap (bAnd .u64 (Go.IntKind.u64.wrap ((Go.IntKind.u64.wrap ((Int.fdiv a0 (2 ^ (min 32 64))) * (Go.IntKind.u64.wrap (bAnd .u64 a1 4294967295)))) + (Int.fdiv (Go.IntKind.u64.wrap ((Go.IntKind.u64.wrap (bAnd .u64 a0 4294967295)) * (Go.IntKind.u64.wrap (bAnd .u64 a1 4294967295)))) (2 ^ (min 32 64))))) 4294967295)) + (Go.IntKind.u64.wrap ((Go.IntKind.u64.wrap (bAnd .u64 a0 4294967295)) * (Int.fdiv a1 (2 ^ (min 32 64))))))) (2 ^ (min 32 64))))), (Go.IntKind.u64.wrap (a0 * a1)))
noncomputable def z72 (x : Int × Int) : Option (Int × Int) := z71 x.1 x.2
noncomputable def z99 (a0 : Int) (a1 : Int) : Option (Int × Int) :=
 Option.bind (z72 (a0, a1)) fun r1 =>
 some (r1.1, r1.2)
noncomputable def z9a (x : Int × Int) : Option (Int × Int) := z99 x.1 x.2
noncomputable def zbu (ih0 : (Int × (List Int)) -> Option ((List Int))) (v1 : Int) (v2 : (List Int)) : Option ((List Int)) :=
 cond (decide (v1 < (v2.length : Int)))
  (cond (decide (0 <= v1)) (cond (decide (v1 <= (v2.length : Int))) (cond (decide (0 <= v1)) (cond (decide (v1 <= (v2.length : Int))) (ih0 ((w64 (v1 + (((min ((v2.drop 0).take v1.toNat).length (v2.length - v1.toNat)) : Nat) : Int))), (v2.take v1.toNat ++ ((v2.drop 0).take v1.toNat).take (min ((v2.drop 0).take v1.toNat).length (v2.length - v1.toNat)) ++ v2.drop (v1.toNat + (min ((v2.drop 0).take v1.toNat).length (v2.length - v1.toNat)))))) none) none) none) none)
  (some v2)
noncomputable def zbv := fun ih (x : (Int × (List Int))) => zbu ih x.1 x.2
noncomputable def z5f (N : Nat) (a0 : (List Int)) (a1 : Int) : Option ((List Int)) :=
 cond (decide (a1 < 0))
  (none)
  (Option.bind (z9a ((Go.IntKind.u64.wrap (a0.length : Int)), (Go.IntKind.u64.wrap a1))) fun r1 =>
  cond (decide (0 < r1.1))
   (none)
   (cond (decide (9223372036854775807 < r1.2))
     (none)
     (cond (decide (0 <= (w64 r1.2))) (cond (decide ((w64 r1.2) <= (w64 r1.2))) (cond (decide (((w64 r1.2) * 8) <= 70368744177664)) (cond (decide ((w64 r1.2) <= 70368744177664)) (zj zbv N ((((min a0.length (List.replicate (Int.toNat (w64 r1.2)) (0 : Int)).length) : Nat) : Int), (a0.take (List.replicate (Int.toNat (w64 r1.2)) (0 : Int)).length ++ (List.replicate (Int.toNat (w64 r1.2)) (0 : Int)).drop a0.length))) none) none) none) none)))
noncomputable def z2r (x : (List Int) × Int) : Option ((List Int)) := lim fun N => z5f N x.1 x.2
noncomputable def z60 (a0 : Int) : Option Table :=
 Option.bind (z2r ([(-1)], (min (max a0 0) 64))) fun r1 =>
 Option.bind (z2r ([(-1)], (min (max a0 0) 64))) fun r2 =>
 some (Table.mk r1 r2)
noncomputable def z9b (x : Int) : Option Table := z60 x
noncomputable def z4k (a0 : Int) (a1 : Str) (a2 : Bool) : Option (Int × Str × Bool) :=
 cond (!a2)
  (some (0, [], false))
  (cond (decide (1099511627776 < a0))
    (some (0, [], false))
    (some (a0, a1, true)))
noncomputable def z4l (x : Int × Str × Bool) : Option (Int × Str × Bool) := z4k x.1 x.2.1 x.2.2
noncomputable def z20 (ih0 : (Str × Int × Int × Int) -> Option (Int × Str × Bool)) (v1 : Str) (v2 : Int) (v3 : Int) (v4 : Int) : Option (Int × Str × Bool) :=
 cond (decide (v4 < v3))
  (cond (decide (0 <= v4)) (cond (decide (v4 < (v1.length : Int))) (cond (decide (0 <= (w64 (7 * v4)))) (cond (decide ((w64 ((v1.getD v4.toNat 0).toNat : Int)) < 128))
    (cond (decide (0 <= (w64 (v4 + 1)))) (cond (decide ((w64 (v4 + 1)) <= (v1.length : Int))) (cond (decide (v4 = 0))
      (Option.bind (z4l ((w64 (bOr .i64 v2 (w64 ((w64 (bAndNot .i64 (w64 ((v1.getD v4.toNat 0).toNat : Int)) 128)) * 2 ^ (min (Int.toNat (w64 (7 * v4))) 64))))), (v1.drop (Int.toNat (w64 (v4 + 1)))), true)) fun r5 =>
      some (r5.1, r5.2.1, r5.2.2))
      (Option.bind (z4l ((w64 (bOr .i64 v2 (w64 ((w64 (bAndNot .i64 (w64 ((v1.getD v4.toNat 0).toNat : Int)) 128)) * 2 ^ (min (Int.toNat (w64 (7 * v4))) 64))))), (v1.drop (Int.toNat (w64 (v4 + 1)))), (decide (0 < (w64 ((v1.getD v4.toNat 0).toNat : Int)))))) fun r6 =>
      some (r6.1, r6.2.1, r6.2.2))) none) none)
    (ih0 (v1, (w64 (bOr .i64 v2 (w64 ((w64 (bAndNot .i64 (w64 ((v1.getD v4.toNat 0).toNat : Int)) 128)) * 2 ^ (min (Int.toNat (w64 (7 * v4))) 64))))), v3, (w64 (v4 + 1))))) none) none) none)
  (some (0, [], false))
noncomputable def z6h := fun ih (x : (Str × Int × Int × Int)) => z20 ih x.1 x.2.1 x.2.2.1 x.2.2.2
theorem z3c (ih) (x) : z6h ih x = z20 ih x.1 x.2.1 x.2.2.1 x.2.2.2 := rfl
noncomputable def zgc (N : Nat) (a0 : Str) : Option (Int × Str × Bool) :=
 zj z6h N (a0, 0, (min (a0.length : Int) 6), 0)
noncomputable def z7r (x : Str) : Option (Int × Str × Bool) := lim fun N => zgc N x
noncomputable def z26 (ih0 : (Str × Int × Int × (List Int)) -> Option ((List Int) × Str × Int)) (v1 : Str) (v2 : Int) (v3 : Int) (v4 : (List Int)) : Option ((List Int) × Str × Int) :=
 cond (decide (v3 < v2))
  (Option.bind (z7r v1) fun r5 =>
  cond (!r5.2.2)
   (some ([], [], 20))
   (cond (decide ((v4.length + [r5.1].length) * 8 <= 70368744177664)) (cond (decide (v4.length + [r5.1].length <= 70368744177664)) (ih0 (r5.2.1, v2, (w64 (v3 + 1)), (v4 ++ [r5.1]))) none) none))
  (some (v4, v1, 0))
noncomputable def z43 := fun ih (x : (Str × Int × Int × (List Int))) => z26 ih x.1 x.2.1 x.2.2.1 x.2.2.2
theorem z5g (ih) (x) : z43 ih x = z26 ih x.1 x.2.1 x.2.2.1 x.2.2.2 := rfl
noncomputable def z4m (N : Nat) (a0 : Str) : Option ((List Int) × Str × Int) :=
 Option.bind (z7r a0) fun r1 =>
 cond (!r1.2.2)
  (some ([], [], 20))
  (cond (decide (((r1.2.1.length : Nat) : Int) < r1.1))
    (some ([], [], 20))
    (zj z43 N (r1.2.1, r1.1, 0, [])))
noncomputable def z2s (x : Str) : Option ((List Int) × Str × Int) := lim fun N => z4m N x
noncomputable def zcr (x : Str) : Option (Record × Int) := readF z2s (fun l => z2a (l, -1)) x
noncomputable def z61 (a0 : Str) (a1 : Str) : Option (Record × Int) :=
 Option.bind (zcr a0) fun r1 =>
 cond (!(decide (r1.2 = 0)))
  (some ((Record.mk 0 0 [] []), r1.2))
  (Option.bind (z96 (r1.1, a1)) fun r2 =>
  cond (!(decide (r2.2 = 0)))
   (some ((Record.mk 0 0 [] []), 30))
   (cond (!(decide (r2.1 = a0)))
     (some ((Record.mk 0 0 [] []), 30))
     (some (r1.1, 0))))
noncomputable def z9c (x : Str × Str) : Option (Record × Int) := z61 x.1 x.2
noncomputable def z7s (a0 : Page) : Option (Int × Record) :=
 cond (!a0.written)
  (some (0, (Record.mk 0 0 [] [])))
  (Option.bind (z9c (a0.tag, a0.data)) fun r1 =>
  cond (decide (r1.2 = 0))
   (some (1, r1.1))
   (some (2, (Record.mk 0 0 [] []))))
noncomputable def zaw (x : Page) : Option (Int × Record) := z7s x
noncomputable def z4n (ih0 : ((List Block) × Int × Int × (List Found)) -> Option ((List Found))) (ih1 : (Int × (List Block) × Int × Int × (List Page) × Int × Int × (List Found)) -> Option ((List Found))) (v2 : Int) (v3 : (List Block)) (v4 : Int) (v5 : Int) (v6 : (List Page)) (v7 : Int) (v8 : Int) (v9 : (List Found)) : Option ((List Found)) :=
 cond (decide (v8 < v7))
  (cond (decide (0 <= v8)) (cond (decide (v8 < (v6.length : Int))) (Option.bind (z97 (v2, v8)) fun r10 =>
  cond (decide (0 <= r10))
   (Option.bind (zaw (v6.getD v8.toNat default)) fun r11 =>
   cond (decide (r11.1 = 1))
    (cond (decide ((v9.length + [(Found.mk r10 r11.2)].length) * 72 <= 70368744177664)) (cond (decide (v9.length + [(Found.mk r10 r11.2)].length <= 70368744177664)) (ih1 (v2, v3, v4, v5, v6, v7, (w64 (v8 + 1)), (v9 ++ [(Found.mk r10 r11.2)]))) none) none)
    (ih1 (v2, v3, v4, v5, v6, v7, (w64 (v8 + 1)), v9)))
   (ih1 (v2, v3, v4, v5, v6, v7, (w64 (v8 + 1)), v9))) none) none)
  (ih0 (v3, v4, (w64 (v5 + 1)), v9))
noncomputable def z7t (ih5 : ((List Block) × Int × Int × (List Found)) -> Option ((List Found))) := fun ih (x : (Int × (List Block) × Int × Int × (List Page) × Int × Int × (List Found))) => z4n ih5 ih x.1 x.2.1 x.2.2.1 x.2.2.2.1 x.2.2.2.2.1 x.2.2.2.2.2.1 x.2.2.2.2.2.2.1 x.2.2.2.2.2.2.2
theorem z8j (ih5 : ((List Block) × Int × Int × (List Found)) -> Option ((List Found))) (ih) (x) : z7t ih5 ih x = z4n ih5 ih x.1 x.2.1 x.2.2.1 x.2.2.2.1 x.2.2.2.2.1 x.2.2.2.2.2.1 x.2.2.2.2.2.2.1 x.2.2.2.2.2.2.2 := rfl
noncomputable def z4o (N : Nat) (ih0 : ((List Block) × Int × Int × (List Found)) -> Option ((List Found))) (v1 : (List Block)) (v2 : Int) (v3 : Int) (v4 : (List Found)) : Option ((List Found)) :=
 cond (decide (v3 < v2))
  (cond (decide (0 <= v3)) (cond (decide (v3 < (v1.length : Int))) (zj (z7t ih0) N (v3, v1, v2, v3, (v1.getD v3.toNat default).pages, (((v1.getD v3.toNat default).pages.length : Nat) : Int), 0, v4)) none) none)
  (cond (distF v4) (cond (decide (v4.length <= 70368744177664)) (some (sortF v4)) none) none)
noncomputable def z7u (N : Nat) := fun ih (x : ((List Block) × Int × Int × (List Found))) => z4o N ih x.1 x.2.1 x.2.2.1 x.2.2.2
theorem z8k (N : Nat) (ih) (x) : z7u N ih x = z4o N ih x.1 x.2.1 x.2.2.1 x.2.2.2 := rfl
noncomputable def z9z (N : Nat) (a0 : Chip) : Option ((List Found)) :=
 zj (z7u N) N (a0.blocks, (a0.blocks.length : Int), 0, [])
noncomputable def zcs (x : Chip) : Option ((List Found)) := lim fun N => z9z N x
noncomputable def z15 (v0 : Table) (ih1 : (Int × (List Found) × Int × Int) -> Option (Table × Int)) (v2 : Int) (v3 : (List Found)) (v4 : Int) (v5 : Int) : Option (Table × Int) :=
 cond (decide (v5 < v4))
  (cond (decide (0 <= v5)) (cond (decide (v5 < (v3.length : Int))) (ih1 ((max v2 (w64 ((v3.getD v5.toNat default).record.seq + 1))), v3, v4, (w64 (v5 + 1)))) none) none)
  (some (v0, v2))
noncomputable def z2t (v6 : Table) := fun ih (x : (Int × (List Found) × Int × Int)) => z15 v6 ih x.1 x.2.1 x.2.2.1 x.2.2.2
theorem z3v (v6 : Table) (ih) (x) : z2t v6 ih x = z15 v6 ih x.1 x.2.1 x.2.2.1 x.2.2.2 := rfl
noncomputable def z16 (N : Nat) (r0 : (List Found)) (ih1 : ((List Found) × Int × Int × Table) -> Option (Table × Int)) (v2 : (List Found)) (v3 : Int) (v4 : Int) (v5 : Table) : Option (Table × Int) :=
 cond (decide (v4 < v3))
  (cond (decide (0 <= v4)) (cond (decide (v4 < (v2.length : Int))) (Option.bind (z6g (v5, (v2.getD v4.toNat default))) fun r6 =>
  ih1 (v2, v3, (w64 (v4 + 1)), r6)) none) none)
  (zj (z2t v5) N (0, r0, (r0.length : Int), 0))
noncomputable def z2u (N : Nat) (r1 : (List Found)) := fun ih (x : ((List Found) × Int × Int × Table)) => z16 N r1 ih x.1 x.2.1 x.2.2.1 x.2.2.2
theorem z3w (N : Nat) (r1 : (List Found)) (ih) (x) : z2u N r1 ih x = z16 N r1 ih x.1 x.2.1 x.2.2.1 x.2.2.2 := rfl
noncomputable def z2v (N : Nat) (a0 : Chip) (a1 : Int) : Option (Table × Int) :=
 Option.bind (zcs a0) fun r1 =>
 Option.bind (z9b a1) fun r2 =>
 zj (z2u N r1) N (r1, (r1.length : Int), 0, r2)
noncomputable def z1d (x : Chip × Int) : Option (Table × Int) := lim fun N => z2v N x.1 x.2
end Clk
namespace Clk
open Go
noncomputable def z7v (a0 : Chip) (a1 : Int) : Option (Page × Bool) :=
 cond (decide (a1 < 0))
  (some ((Page.mk false [] []), false))
  (cond (decide ((min (a0.blocks.length : Int) 32) <= (w64 (Int.tdiv a1 16))))
    (some ((Page.mk false [] []), false))
    (cond (decide (0 <= (w64 (Int.tdiv a1 16)))) (cond (decide ((w64 (Int.tdiv a1 16)) < (a0.blocks.length : Int))) (cond (decide ((((a0.blocks.getD (Int.toNat (w64 (Int.tdiv a1 16))) default).pages.length : Nat) : Int) <= (Int.tmod a1 16)))
      (some ((Page.mk false [] []), false))
      (cond (decide (0 <= (w64 (Int.tdiv a1 16)))) (cond (decide ((w64 (Int.tdiv a1 16)) < (a0.blocks.length : Int))) (cond (decide (0 <= (Int.tmod a1 16))) (cond (decide ((Int.tmod a1 16) < (((a0.blocks.getD (Int.toNat (w64 (Int.tdiv a1 16))) default).pages.length : Nat) : Int))) (some (((a0.blocks.getD (Int.toNat (w64 (Int.tdiv a1 16))) default).pages.getD (Int.toNat (Int.tmod a1 16)) default), true)) none) none) none) none)) none) none))
noncomputable def zax (x : Chip × Int) : Option (Page × Bool) := z7v x.1 x.2
end Clk
namespace Clk
open Go
end Clk
namespace Clk
open Go
noncomputable def z0c (ih0 : ((List Bool) × Bool × Int × Int) -> Option Int) (v1 : (List Bool)) (v2 : Bool) (v3 : Int) (v4 : Int) : Option Int :=
 cond (decide (v4 < v3))
  (cond (decide (0 <= v4)) (cond (decide (v4 < (v1.length : Int))) (cond (v2 == (v1.getD v4.toNat false))
    (some v4)
    (ih0 (v1, v2, v3, (w64 (v4 + 1))))) none) none)
  (some (-1))
noncomputable def z0d := fun ih (x : ((List Bool) × Bool × Int × Int)) => z0c ih x.1 x.2.1 x.2.2.1 x.2.2.2
theorem z02 (ih) (x) : z0d ih x = z0c ih x.1 x.2.1 x.2.2.1 x.2.2.2 := rfl
noncomputable def za8 (N : Nat) (a0 : (List Bool)) (a1 : Bool) : Option Int :=
 zj z0d N (a0, a1, (a0.length : Int), 0)
noncomputable def z6i (x : (List Bool) × Bool) : Option Int := lim fun N => za8 N x.1 x.2
noncomputable def z1n (a0 : (List Bool)) (a1 : Bool) : Option Bool :=
 Option.bind (z6i (a0, a1)) fun r1 =>
 some (decide (0 <= r1))
noncomputable def z3d (x : (List Bool) × Bool) : Option Bool := z1n x.1 x.2
noncomputable def za0 (a0 : (List Bool)) : Option Bool :=
 Option.bind (z3d (a0, false)) fun r1 =>
 some (!r1)
noncomputable def zct (x : (List Bool)) : Option Bool := za0 x
noncomputable def z4p (a0 : Int) (a1 : Int) (a2 : Int) : Option Bool :=
 cond (decide (a1 <= a0))
  (some (decide (a0 <= a2)))
  (some false)
noncomputable def z1o (x : Int × Int × Int) : Option Bool := z4p x.1 x.2.1 x.2.2
noncomputable def z7w (a0 : Geometry) : Option Bool :=
 Option.bind (z1o (a0.blocks, 1, 32)) fun r1 =>
 Option.bind (z1o (a0.pages, 2, 16)) fun r2 =>
 Option.bind (z1o (a0.sectors, 1, 64)) fun r3 =>
 Option.bind (z1o (a0.spare, 0, 32)) fun r4 =>
 Option.bind (zct [r1, r2, r3, r4]) fun r5 =>
 cond (!r5)
  (some false)
  (some (decide ((w64 (2 * a0.sectors)) < (w64 ((w64 ((w64 (a0.blocks - (w64 (2 * a0.spare)))) - 3)) * a0.pages)))))
noncomputable def z2c (x : Geometry) : Option Bool := z7w x
noncomputable def zm5 (a0 : Chip) : Option Chip :=
 some (Chip.mk a0.blocks a0.broken false a0.ops)
noncomputable def z9d (x : Chip) : Option Chip := zm5 x
noncomputable def z2w (ih0 : ((List Block) × Int × Int × Geometry × Device) -> Option (Device × Int)) (v1 : (List Block)) (v2 : Int) (v3 : Int) (v4 : Geometry) (v5 : Device) : Option (Device × Int) :=
 cond (decide (v3 < v2))
  (cond (decide (0 <= v3)) (cond (decide (v3 < (v1.length : Int))) (cond (!(v1.getD v3.toNat default).bad)
    (cond (decide (0 < (v1.getD v3.toNat default).next))
      (cond (decide ((v1.getD v3.toNat default).next < v4.pages))
        (some ((Device.mk v5.geometry v5.chip v5.table v5.seq v3), 0))
        (ih0 (v1, v2, (w64 (v3 + 1)), v4, v5)))
      (ih0 (v1, v2, (w64 (v3 + 1)), v4, v5)))
    (ih0 (v1, v2, (w64 (v3 + 1)), v4, v5))) none) none)
  (some ((Device.mk v5.geometry v5.chip v5.table v5.seq (-1)), 0))
noncomputable def z1e := fun ih (x : ((List Block) × Int × Int × Geometry × Device)) => z2w ih x.1 x.2.1 x.2.2.1 x.2.2.2.1 x.2.2.2.2
theorem z62 (ih) (x) : z1e ih x = z2w ih x.1 x.2.1 x.2.2.1 x.2.2.2.1 x.2.2.2.2 := rfl
noncomputable def z2x (N : Nat) (ih0 : ((List Block) × Int × Int × Geometry × Chip) -> Option (Device × Int)) (v1 : (List Block)) (v2 : Int) (v3 : Int) (v4 : Geometry) (v5 : Chip) : Option (Device × Int) :=
 cond (decide (v3 < v2))
  (cond (decide (0 <= v3)) (cond (decide (v3 < (v1.length : Int))) (cond (!(decide ((((v1.getD v3.toNat default).pages.length : Nat) : Int) = v4.pages)))
    (cond (decide (0 <= v3))
      (some ((Device.mk (Geometry.mk 0 0 0 0) (Chip.mk [] false false 0) (Table.mk [] []) 0 0), 1))
      (Option.bind (z9d v5) fun r6 =>
      Option.bind (z1d (v5, v4.sectors)) fun r7 =>
      zj z1e N (v5.blocks, (v5.blocks.length : Int), 0, v4, (Device.mk v4 r6 r7.1 r7.2 (-1)))))
    (ih0 (v1, v2, (w64 (v3 + 1)), v4, v5))) none) none)
  (Option.bind (z9d v5) fun r8 =>
  Option.bind (z1d (v5, v4.sectors)) fun r9 =>
  zj z1e N (v5.blocks, (v5.blocks.length : Int), 0, v4, (Device.mk v4 r8 r9.1 r9.2 (-1))))
noncomputable def z5h (N : Nat) := fun ih (x : ((List Block) × Int × Int × Geometry × Chip)) => z2x N ih x.1 x.2.1 x.2.2.1 x.2.2.2.1 x.2.2.2.2
theorem z63 (N : Nat) (ih) (x) : z5h N ih x = z2x N ih x.1 x.2.1 x.2.2.1 x.2.2.2.1 x.2.2.2.2 := rfl
noncomputable def z64 (N : Nat) (a0 : Geometry) (a1 : Chip) : Option (Device × Int) :=
 Option.bind (z2c a0) fun r1 =>
 cond (!r1)
  (some ((Device.mk (Geometry.mk 0 0 0 0) (Chip.mk [] false false 0) (Table.mk [] []) 0 0), 1))
  (cond (!(decide ((a1.blocks.length : Int) = a0.blocks)))
    (some ((Device.mk (Geometry.mk 0 0 0 0) (Chip.mk [] false false 0) (Table.mk [] []) 0 0), 1))
    (zj (z5h N) N (a1.blocks, (a1.blocks.length : Int), 0, a0, a1)))
noncomputable def z65 (x : Geometry × Chip) : Option (Device × Int) := lim fun N => z64 N x.1 x.2
noncomputable def z4q (ih0 : ((List Int) × Int × Int × (List Block) × Bool × Bool × Int) -> Option (Chip × Int)) (v1 : (List Int)) (v2 : Int) (v3 : Int) (v4 : (List Block)) (v5 : Bool) (v6 : Bool) (v7 : Int) : Option (Chip × Int) :=
 cond (decide (v3 < v2))
  (cond (decide (0 <= v3)) (cond (decide (v3 < (v1.length : Int))) (cond (decide (0 <= (v1.getD v3.toNat 0))) (cond (decide ((v1.getD v3.toNat 0) < (v4.length : Int))) (cond (decide ((Int.toNat (v1.getD v3.toNat 0)) < v4.length)) (ih0 (v1, v2, (w64 (v3 + 1)), (bBad v4 (Int.toNat (v1.getD v3.toNat 0)) true), v5, v6, v7)) none) none) none) none) none)
  (some ((Chip.mk v4 v5 v6 v7), 0))
noncomputable def z7x := fun ih (x : ((List Int) × Int × Int × (List Block) × Bool × Bool × Int)) => z4q ih x.1 x.2.1 x.2.2.1 x.2.2.2.1 x.2.2.2.2.1 x.2.2.2.2.2.1 x.2.2.2.2.2.2
theorem z8l (ih) (x) : z7x ih x = z4q ih x.1 x.2.1 x.2.2.1 x.2.2.2.1 x.2.2.2.2.1 x.2.2.2.2.2.1 x.2.2.2.2.2.2 := rfl
noncomputable def z4r (N : Nat) (ih0 : (Int × (List Int) × Int × Int × (List Block) × Bool × Bool × Int) -> Option (Chip × Int)) (v1 : Int) (v2 : (List Int)) (v3 : Int) (v4 : Int) (v5 : (List Block)) (v6 : Bool) (v7 : Bool) (v8 : Int) : Option (Chip × Int) :=
 cond (decide (v4 < v3))
  (cond (decide (0 <= v1)) (cond (decide (v1 <= v1)) (cond (decide ((v1 * 40) <= 70368744177664)) (cond (decide (v1 <= 70368744177664)) (cond (decide (0 <= v4)) (cond (decide (v4 < (v5.length : Int))) (cond (decide (v4.toNat < v5.length)) (ih0 (v1, v2, v3, (w64 (v4 + 1)), (bPages v5 v4.toNat (List.replicate v1.toNat (default : Page))), v6, v7, v8)) none) none) none) none) none) none) none)
  (zj z7x N (v2, (v2.length : Int), 0, v5, v6, v7, v8))
noncomputable def z2y (N : Nat) := fun ih (x : (Int × (List Int) × Int × Int × (List Block) × Bool × Bool × Int)) => z4r N ih x.1 x.2.1 x.2.2.1 x.2.2.2.1 x.2.2.2.2.1 x.2.2.2.2.2.1 x.2.2.2.2.2.2.1 x.2.2.2.2.2.2.2
theorem z8m (N : Nat) (ih) (x) : z2y N ih x = z4r N ih x.1 x.2.1 x.2.2.1 x.2.2.2.1 x.2.2.2.2.1 x.2.2.2.2.2.1 x.2.2.2.2.2.2.1 x.2.2.2.2.2.2.2 := rfl
noncomputable def z4s (N : Nat) (a1 : Int) (a2 : (List Int)) (ih0 : ((List Int) × Int × Int × Int) -> Option (Chip × Int)) (v1 : (List Int)) (v2 : Int) (v3 : Int) (v4 : Int) : Option (Chip × Int) :=
 cond (decide (v3 < v2))
  (cond (decide (0 <= v3)) (cond (decide (v3 < (v1.length : Int))) (cond (decide ((v1.getD v3.toNat 0) < 0))
    (cond (decide (0 <= v3))
      (some ((Chip.mk [] false false 0), 1))
      (cond (decide (0 <= v4)) (cond (decide (v4 <= v4)) (cond (decide ((v4 * 48) <= 70368744177664)) (cond (decide (v4 <= 70368744177664)) (zj (z2y N) N (a1, a2, (((List.replicate v4.toNat (default : Block)).length : Nat) : Int), 0, (List.replicate v4.toNat (default : Block)), false, false, 0)) none) none) none) none))
    (cond (decide (v4 <= (v1.getD v3.toNat 0)))
      (cond (decide (0 <= v3))
        (some ((Chip.mk [] false false 0), 1))
        (cond (decide (0 <= v4)) (cond (decide (v4 <= v4)) (cond (decide ((v4 * 48) <= 70368744177664)) (cond (decide (v4 <= 70368744177664)) (zj (z2y N) N (a1, a2, (((List.replicate v4.toNat (default : Block)).length : Nat) : Int), 0, (List.replicate v4.toNat (default : Block)), false, false, 0)) none) none) none) none))
      (ih0 (v1, v2, (w64 (v3 + 1)), v4)))) none) none)
  (cond (decide (0 <= v4)) (cond (decide (v4 <= v4)) (cond (decide ((v4 * 48) <= 70368744177664)) (cond (decide (v4 <= 70368744177664)) (zj (z2y N) N (a1, a2, (((List.replicate v4.toNat (default : Block)).length : Nat) : Int), 0, (List.replicate v4.toNat (default : Block)), false, false, 0)) none) none) none) none)
noncomputable def z7y (N : Nat) (a1 : Int) (a2 : (List Int)) := fun ih (x : ((List Int) × Int × Int × Int)) => z4s N a1 a2 ih x.1 x.2.1 x.2.2.1 x.2.2.2
theorem z8n (N : Nat) (a1 : Int) (a2 : (List Int)) (ih) (x) : z7y N a1 a2 ih x = z4s N a1 a2 ih x.1 x.2.1 x.2.2.1 x.2.2.2 := rfl
noncomputable def za1 (N : Nat) (a0 : Int) (a1 : Int) (a2 : (List Int)) : Option (Chip × Int) :=
 cond (decide (a0 < 1))
  (some ((Chip.mk [] false false 0), 1))
  (cond (decide (32 < a0))
    (some ((Chip.mk [] false false 0), 1))
    (cond (decide (a1 < 1))
      (some ((Chip.mk [] false false 0), 1))
      (cond (decide (16 < a1))
        (some ((Chip.mk [] false false 0), 1))
        (zj (z7y N a1 a2) N (a2, (a2.length : Int), 0, a0)))))
noncomputable def zcu (x : Int × Int × (List Int)) : Option (Chip × Int) := lim fun N => za1 N x.1 x.2.1 x.2.2
noncomputable def z3o (ih0 : (Int × (List Block) × Int × Int) -> Option Int) (v1 : Int) (v2 : (List Block)) (v3 : Int) (v4 : Int) : Option Int :=
 cond (decide (v4 < v3))
  (cond (decide (0 <= v4)) (cond (decide (v4 < (v2.length : Int))) (cond (v2.getD v4.toNat default).bad
    (ih0 ((w64 (v1 + 1)), v2, v3, (w64 (v4 + 1))))
    (ih0 (v1, v2, v3, (w64 (v4 + 1))))) none) none)
  (some v1)
noncomputable def z6j := fun ih (x : (Int × (List Block) × Int × Int)) => z3o ih x.1 x.2.1 x.2.2.1 x.2.2.2
theorem z73 (ih) (x) : z6j ih x = z3o ih x.1 x.2.1 x.2.2.1 x.2.2.2 := rfl
noncomputable def zgd (N : Nat) (a0 : Chip) : Option Int :=
 zj z6j N (0, a0.blocks, (a0.blocks.length : Int), 0)
noncomputable def z7z (x : Chip) : Option Int := lim fun N => zgd N x
noncomputable def z4t (a0 : Geometry) (a1 : (List Int)) : Option (Device × Int) :=
 Option.bind (z2c a0) fun r1 =>
 cond (!r1)
  (some ((Device.mk (Geometry.mk 0 0 0 0) (Chip.mk [] false false 0) (Table.mk [] []) 0 0), 1))
  (Option.bind (zcu (a0.blocks, a0.pages, a1)) fun r2 =>
  cond (!(decide (r2.2 = 0)))
   (some ((Device.mk (Geometry.mk 0 0 0 0) (Chip.mk [] false false 0) (Table.mk [] []) 0 0), 1))
   (Option.bind (z7z r2.1) fun r3 =>
   cond (decide (a0.spare < r3))
    (some ((Device.mk (Geometry.mk 0 0 0 0) (Chip.mk [] false false 0) (Table.mk [] []) 0 0), 1))
    (Option.bind (z65 (a0, r2.1)) fun r4 =>
    some (r4.1, r4.2))))
noncomputable def z0h (x : Geometry × (List Int)) : Option (Device × Int) := z4t x.1 x.2
noncomputable def za2 (a0 : Chip) (a1 : Table) (a2 : Int) : Option Str :=
 cond (decide (a2 < 0))
  (some [])
  (cond (decide ((a1.map.length : Int) <= a2))
    (some [])
    (cond (decide (0 <= a2)) (cond (decide (a2 < (a1.map.length : Int))) (Option.bind (zax (a0, (a1.map.getD a2.toNat 0))) fun r1 =>
    some r1.1.data) none) none))
noncomputable def zcv (x : Chip × Table × Int) : Option Str := za2 x.1 x.2.1 x.2.2
noncomputable def z4u (ih0 : (Int × Int × Device × (List Str)) -> Option ((List Str))) (v1 : Int) (v2 : Int) (v3 : Device) (v4 : (List Str)) : Option ((List Str)) :=
 cond (decide (v2 < v1))
  (Option.bind (zcv (v3.chip, v3.table, v2)) fun r5 =>
  cond (decide (0 <= v2)) (cond (decide (v2 < (v4.length : Int))) (cond (decide (v2.toNat < v4.length)) (ih0 (v1, (w64 (v2 + 1)), v3, (v4.set v2.toNat r5))) none) none) none)
  (some v4)
noncomputable def z80 := fun ih (x : (Int × Int × Device × (List Str))) => z4u ih x.1 x.2.1 x.2.2.1 x.2.2.2
theorem z8o (ih) (x) : z80 ih x = z4u ih x.1 x.2.1 x.2.2.1 x.2.2.2 := rfl
noncomputable def za3 (N : Nat) (a0 : Device) : Option ((List Str)) :=
 cond (decide (0 <= (a0.table.map.length : Int))) (cond (decide ((a0.table.map.length : Int) <= (a0.table.map.length : Int))) (cond (decide (((a0.table.map.length : Int) * 16) <= 70368744177664)) (cond (decide ((a0.table.map.length : Int) <= 70368744177664)) (zj z80 N ((((List.replicate (Int.toNat (a0.table.map.length : Int)) ([] : Str)).length : Nat) : Int), 0, a0, (List.replicate (Int.toNat (a0.table.map.length : Int)) ([] : Str)))) none) none) none) none
noncomputable def zcw (x : Device) : Option ((List Str)) := lim fun N => za3 N x
noncomputable def z3p (a0 : Device) : Option Int :=
 Option.bind (z7z a0.chip) fun r1 =>
 some (w64 (2 + (w64 (2 * (max (w64 (a0.geometry.spare - r1)) 0)))))
noncomputable def z3q (x : Device) : Option Int := z3p x
noncomputable def z4v : Option Bool :=
 Option.bind (z7f 0) fun r1 =>
 Option.bind (z0h (r1, [2])) fun r2 =>
 Option.bind (z0h (r1, [2, 3])) fun r3 =>
 Option.bind (z65 (r1, (Chip.mk [] false false 0))) fun r4 =>
 Option.bind (zcw r2.1) fun r5 =>
 Option.bind (z2c r1) fun r6 =>
 cond r6
  (Option.bind (z2c (Geometry.mk 0 0 0 0)) fun r7 =>
  cond (!r7)
   (cond (decide (r2.2 = 0))
     (cond (decide (r3.2 = 1))
       (cond (decide (r4.2 = 1))
         (cond (decide ((r5.length : Int) = 5))
           (cond (decide (0 < (r5.length : Int))) (cond (decide ((r5.getD 0 []) = []))
             (cond (decide (r2.1.opn = (-1)))
               (Option.bind (z3q r2.1) fun r8 =>
               cond (decide (r8 = 2))
                (some (decide (((r2.1.chip.blocks.length : Nat) : Int) = 8)))
                (some false))
               (some false))
             (some false)) none)
           (some false))
         (some false))
       (some false))
     (some false))
   (some false))
  (some false)
noncomputable def z81 (x : Unit) : Option Bool := z4v
end Clk
namespace Clk
open Go
noncomputable def z0t (ih0 : (Bool × Int × Int × Geometry × Device) -> Option Bool) (v1 : Bool) (v2 : Int) (v3 : Int) (v4 : Geometry) (v5 : Device) : Option Bool :=
 cond (decide (v3 < (v5.chip.blocks.length : Int)))
  (Option.bind (z7g (v5.chip, (-1), v3)) fun r6 =>
  cond (decide (r6 = 0))
   (ih0 (v1, (w64 (v2 + 1)), (w64 (v3 + 1)), v4, v5))
   (ih0 (v1, v2, (w64 (v3 + 1)), v4, v5)))
  (cond v1
    (Option.bind (z2c v4) fun r7 =>
    cond r7
     (Option.bind (z3q v5) fun r8 =>
     some (decide (r8 < v2)))
     (some false))
    (some false))
noncomputable def z05 := fun ih (x : (Bool × Int × Int × Geometry × Device)) => z0t ih x.1 x.2.1 x.2.2.1 x.2.2.2.1 x.2.2.2.2
theorem z31 (ih) (x) : z05 ih x = z0t ih x.1 x.2.1 x.2.2.1 x.2.2.2.1 x.2.2.2.2 := rfl
noncomputable def z2d (N : Nat) (ih0 : ((List Int) × Bool × Int × Geometry × (List Int)) -> Option Bool) (v1 : (List Int)) (v2 : Bool) (v3 : Int) (v4 : Geometry) (v5 : (List Int)) : Option Bool :=
 cond (decide (v3 < (v1.length : Int)))
  (cond (decide (v3 < v4.spare))
    (cond (decide (v3 < 15))
      (cond (decide (0 <= v3)) (cond (decide (v3 < (v1.length : Int))) (cond (decide ((v5.length + [(Int.tmod (w64 (v1.getD v3.toNat 0)) 33)].length) * 8 <= 70368744177664)) (cond (decide (v5.length + [(Int.tmod (w64 (v1.getD v3.toNat 0)) 33)].length <= 70368744177664)) (ih0 (v1, v2, (w64 (v3 + 1)), v4, (v5 ++ [(Int.tmod (w64 (v1.getD v3.toNat 0)) 33)]))) none) none) none) none)
      (Option.bind (z0h (v4, v5)) fun r6 =>
      cond (!(decide (r6.2 = 0)))
       (cond v2
         (some (decide (((r6.1.chip.blocks.length : Nat) : Int) = 0)))
         (some false))
       (zj z05 N (v2, 0, 0, v4, r6.1))))
    (Option.bind (z0h (v4, v5)) fun r7 =>
    cond (!(decide (r7.2 = 0)))
     (cond v2
       (some (decide (((r7.1.chip.blocks.length : Nat) : Int) = 0)))
       (some false))
     (zj z05 N (v2, 0, 0, v4, r7.1))))
  (Option.bind (z0h (v4, v5)) fun r8 =>
  cond (!(decide (r8.2 = 0)))
   (cond v2
     (some (decide (((r8.1.chip.blocks.length : Nat) : Int) = 0)))
     (some false))
   (zj z05 N (v2, 0, 0, v4, r8.1)))
noncomputable def z2e (N : Nat) := fun ih (x : ((List Int) × Bool × Int × Geometry × (List Int))) => z2d N ih x.1 x.2.1 x.2.2.1 x.2.2.2.1 x.2.2.2.2
theorem z8r (N : Nat) (ih) (x) : z2e N ih x = z2d N ih x.1 x.2.1 x.2.2.1 x.2.2.2.1 x.2.2.2.2 := rfl
noncomputable def z27 (N : Nat) (a0 : Int) (a1 : Int) (a2 : Int) (a3 : Int) (a4 : (List Int)) : Option Bool :=
 Option.bind (z81 ()) fun r1 =>
 cond (!r1)
  (some false)
  (zj (z2e N) N (a4, r1, 0, (Geometry.mk (Int.tmod (w64 a0) 33) (Int.tmod (w64 a1) 17) (Int.tmod (w64 a2) 65) (Int.tmod (w64 a3) 16)), []))
noncomputable def z44 (x : Int × Int × Int × Int × (List Int)) : Option Bool := lim fun N => z27 N x.1 x.2.1 x.2.2.1 x.2.2.2.1 x.2.2.2.2
end Clk
