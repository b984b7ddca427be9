/- A part of the proof of ReplayPlaces: an evaluator of the program's code that the kernel runs, its soundness, what the functions compute. -/
import Derived.Test.YtnkakbjfdfoehabPartF
import Derived.KernelRfl
set_option linter.unusedVariables false
set_option linter.unusedSimpArgs false
namespace Clk
open Go
set_option linter.unusedVariables false
def placeT (b p : Int) : Int := if b < 0 ∨ 32 ≤ b ∨ p < 0 ∨ 16 ≤ p then -1 else b * 16 + p
theorem s_ref06_Place (b p : Int) : S_ref06_Place (b, p) = some (placeT b p) := by
 show G_ref06_Place b p = _
 unfold G_ref06_Place placeT
 by_cases c1 : b < 0
 · rw [decide_eq_true c1, cond_true, if_pos (.inl c1)]
 · rw [decide_eq_false c1, cond_false]
   by_cases c2 : 32 ≤ b
   · rw [decide_eq_true c2, cond_true, if_pos (.inr (.inl c2))]
   · rw [decide_eq_false c2, cond_false]
     by_cases c3 : p < 0
     · rw [decide_eq_true c3, cond_true, if_pos (.inr (.inr (.inl c3)))]
     · rw [decide_eq_false c3, cond_false]
       by_cases c4 : 16 ≤ p
       · rw [decide_eq_true c4, cond_true, if_pos (.inr (.inr (.inr c4)))]
       · rw [decide_eq_false c4, cond_false, if_neg (by omega), w64_id (n := b * 16) (by omega) (by omega), w64_id (by omega) (by omega)]
theorem s_scan_Place (b p : Int) : S_scan_Place (b, p) = some (placeT b p) := s_ref06_Place b p
def aheadT (a b : Found) : Bool := decide (a.record.seq < b.record.seq) || (decide (a.record.seq = b.record.seq) && decide (a.place < b.place))
theorem s_ahead (a b : Found) : S_ref06_ahead (a, b) = some (aheadT a b) := by
 show G_ref06_ahead a b = _
 unfold G_ref06_ahead aheadT
 cases decide (a.record.seq < b.record.seq) <;> cases decide (a.record.seq = b.record.seq) <;> rfl
def insT : List Found → Found → List Found
 | [], f => [f]
 | x :: l, f => if aheadT f x = true then f :: x :: l else x :: insT l f
theorem insT_len : ∀ (l : List Found) (f : Found), (insT l f).length = l.length + 1
 | [], f => rfl
 | x :: l, f => by
   unfold insT
   split
   · rfl
   · simp [insT_len l f]
theorem put_L1t {xs : List Found} {f : Found} (hs : xs.length < 4294967296) : ∀ (l : List Found) (N k : Nat) (i : Int) (acc : List Found), xs.drop k = l → i = k → acc.length + l.length < 4294967298 → l.length < N → iterF F_ref06_put_L1 N (xs, true, i, f, acc) = some (acc ++ l)
 | l, 0, _, _, _, _, _, _, h => by omega
 | [], N + 1, k, i, acc, h1, h2, h3, _ => by
   have := drop_nil h1
   rw [iterF_succ, F_ref06_put_L1_eq]
   unfold G_ref06_put_L1
   simp only [Bool.not_true, cond_false, List.append_nil]
   rw [decide_eq_false (by omega), cond_false]
 | x :: l, N + 1, k, i, acc, h1, h2, h3, h4 => by
   obtain ⟨g1, g2, g3⟩ := drop_cons h1
   subst h2
   simp only [List.length_cons] at h3 h4
   rw [iterF_succ, F_ref06_put_L1_eq]
   unfold G_ref06_put_L1
   simp only [Int.toNat_natCast, g2, Bool.not_true, cond_false, List.length_singleton]
   rw [decide_eq_true (show (k : Int) < xs.length by omega), decide_eq_true (show (0 : Int) ≤ k by omega), decide_eq_true (by omega), decide_eq_true (by omega)]
   simp only [cond_true]
   rw [put_L1t hs l N (k + 1) _ _ g3 (by rw [w64_id (by omega) (by omega)]; omega) (by simp; omega) (by omega)]
   simp
theorem put_L1 {xs : List Found} {f : Found} (hs : xs.length < 4294967296) : ∀ (l : List Found) (N k : Nat) (i : Int) (acc : List Found), xs.drop k = l → i = k → acc.length + l.length < 4294967296 → l.length < N → iterF F_ref06_put_L1 N (xs, false, i, f, acc) = some (acc ++ insT l f)
 | l, 0, _, _, _, _, _, _, h => by omega
 | [], N + 1, k, i, acc, h1, h2, h3, _ => by
   have := drop_nil h1
   rw [iterF_succ, F_ref06_put_L1_eq]
   unfold G_ref06_put_L1
   simp only [Bool.not_false, cond_true, List.length_singleton, insT]
   rw [decide_eq_false (show ¬ i < (xs.length : Int) by omega), cond_false, decide_eq_true (by omega), cond_true, decide_eq_true (by omega), cond_true]
 | x :: l, N + 1, k, i, acc, h1, h2, h3, h4 => by
   obtain ⟨g1, g2, g3⟩ := drop_cons h1
   subst h2
   simp only [List.length_cons] at h3 h4
   rw [iterF_succ, F_ref06_put_L1_eq]
   unfold G_ref06_put_L1
   simp only [Int.toNat_natCast, g2, Bool.not_false, List.length_singleton, s_ahead, some_bind', insT, List.length_append]
   rw [decide_eq_true (show (k : Int) < xs.length by omega), decide_eq_true (show (0 : Int) ≤ k by omega)]
   simp only [cond_true]
   cases aheadT f x with
   | true =>
     rw [cond_true, decide_eq_true (by omega), cond_true, decide_eq_true (by omega), cond_true, decide_eq_true (by omega), cond_true, decide_eq_true (by omega), cond_true, if_pos rfl]
     rw [put_L1t hs l N (k + 1) _ _ g3 (by rw [w64_id (by omega) (by omega)]; omega) (by simp; omega) (by omega)]
     simp
   | false =>
     rw [cond_false, decide_eq_true (by omega), cond_true, decide_eq_true (by omega), cond_true, if_neg (by simp)]
     rw [put_L1 hs l N (k + 1) _ _ g3 (by rw [w64_id (by omega) (by omega)]; omega) (by simp; omega) (by omega)]
     simp
theorem s_put {l : List Found} {f : Found} (hs : l.length < 4294967296) : S_ref06_put (l, f) = some (insT l f) := by
 refine lim_eq (l.length + 1) fun N hN => ?_
 have := put_L1 (f := f) hs l N 0 0 [] rfl rfl (by simpa using hs) (by omega)
 rw [List.nil_append] at this
 exact this
def pagesT (b : Nat) : Nat → List Page → List Found → List Found
 | _, [], out => out
 | p, pg :: l, out => pagesT b (p + 1) l (if (lookT pg).1 = 1 ∧ 0 ≤ placeT b p then insT out ⟨placeT b p, (lookT pg).2⟩ else out)
def blocksT : Nat → List Block → List Found → List Found
 | _, [], out => out
 | b, x :: l, out => blocksT (b + 1) l (pagesT b 0 x.pages out)
def allT (c : Chip) : List Found := blocksT 0 c.blocks []
def PagesOk (c : Chip) : Prop := ∀ b ∈ c.blocks, ∀ p ∈ b.pages, PageOk p
theorem pagesT_len (b : Nat) : ∀ (l : List Page) (p : Nat) (out : List Found), out.length ≤ min (16 * b + min p 16) 512 → (pagesT b p l out).length ≤ min (16 * (b + 1)) 512
 | [], p, out, h => by
   unfold pagesT
   omega
 | pg :: l, p, out, h => by
   unfold pagesT
   refine pagesT_len b l (p + 1) _ ?_
   split
   · rename_i hc
     have h2 := hc.2
     unfold placeT at h2
     split at h2
     · omega
     · rw [insT_len]; omega
   · omega
theorem place_nn {b p : Nat} (h : 0 ≤ placeT b p) : b < 32 ∧ p < 16 := by
 unfold placeT at h
 split at h <;> omega
theorem All_L2 {ih0 : List Found × Int × Chip → Option (List Found)} {c : Chip} (hc : ChipOk c) (hp : PagesOk c) {b : Nat} (hb : b < c.blocks.length) {bi : Int} (hbi : bi = b) : ∀ (l : List Page) (N p : Nat) (i : Int) (out : List Found), (c.blocks.getD b default).pages.drop p = l → i = p → out.length ≤ min (16 * b + min p 16) 512 → l.length < N → iterF (F_ref06_All_L2 ih0) N (out, bi, i, c) = ih0 (pagesT b p l out, ((b + 1 : Nat) : Int), c)
 | l, 0, _, _, _, _, _, _, h => by omega
 | [], N + 1, p, i, out, h1, h2, h3, _ => by
   have h4 := drop_nil h1
   have h5 := hc.1
   subst hbi
   rw [iterF_succ, F_ref06_All_L2_eq]
   unfold G_ref06_All_L2
   simp only [Int.toNat_natCast, pagesT]
   rw [decide_eq_true (show (0 : Int) ≤ b by omega), decide_eq_true (show (b : Int) < c.blocks.length by omega), decide_eq_false (show ¬ i < ((c.blocks.getD b default).pages.length : Int) by omega), w64_id (n := (b : Int) + 1) (by omega) (by omega)]
   rfl
 | pg :: l, N + 1, p, i, out, h1, h2, h3, h4 => by
   obtain ⟨g1, g2, g3⟩ := drop_cons h1
   have h5 := hc.1
   have h6 := hc.get hb default
   subst hbi
   subst h2
   have hpg : PageOk pg := by
    have := hp _ (getD_mem' (d := default) hb) pg
    apply this
    rw [← g2 default]
    exact getD_mem' g1
   have e1 : w64 ((p : Int) + 1) = ((p + 1 : Nat) : Int) := by rw [w64_id (by omega) (by omega)]; rfl
   have hol : out.length < 4294967296 := by omega
   rw [iterF_succ, F_ref06_All_L2_eq]
   unfold G_ref06_All_L2
   simp only [Int.toNat_natCast, g2, s_ref04_Look hpg, some_bind', s_ref06_Place, s_put hol, e1]
   rw [decide_eq_true (show (0 : Int) ≤ b by omega), decide_eq_true (show (b : Int) < c.blocks.length by omega), decide_eq_true (show (p : Int) < ((c.blocks.getD b default).pages.length : Int) by omega), decide_eq_true (show (0 : Int) ≤ p by omega)]
   simp only [cond_true]
   have ih := fun out' h => All_L2 (ih0 := ih0) hc hp hb (rfl : (b : Int) = b) l N (p + 1) _ out' g3 rfl h (by simp at h4; omega)
   rw [pagesT]
   by_cases c1 : (lookT pg).1 = 1
   · rw [decide_eq_true c1, cond_true]
     by_cases c2 : 0 ≤ placeT b p
     · have := place_nn c2
       rw [decide_eq_true c2, cond_true, if_pos ⟨c1, c2⟩]
       exact ih _ (by rw [insT_len]; omega)
     · rw [decide_eq_false c2, cond_false, if_neg (fun h => c2 h.2)]
       exact ih _ (by omega)
   · rw [decide_eq_false c1, cond_false, if_neg (fun h => c1 h.1)]
     exact ih _ (by omega)
theorem All_L1 {c : Chip} (hc : ChipOk c) (hp : PagesOk c) {M : Nat} (hM : 4294967296 < M) : ∀ (l : List Block) (N b : Nat) (i : Int) (out : List Found), c.blocks.drop b = l → i = b → out.length ≤ min (16 * b) 512 → l.length < N → iterF (F_ref06_All_L1 M) N (out, i, c) = some (blocksT b l out)
 | l, 0, _, _, _, _, _, _, h => by omega
 | [], N + 1, b, i, out, h1, h2, h3, _ => by
   have h4 := drop_nil h1
   rw [iterF_succ, F_ref06_All_L1_eq]
   unfold G_ref06_All_L1
   simp only [blocksT]
   rw [decide_eq_false (by omega), cond_false]
 | x :: l, N + 1, b, i, out, h1, h2, h3, h4 => by
   obtain ⟨g1, g2, g3⟩ := drop_cons h1
   have h6 := hc.get g1 default
   subst h2
   rw [iterF_succ, F_ref06_All_L1_eq]
   unfold G_ref06_All_L1
   simp only [blocksT]
   rw [decide_eq_true (show (b : Int) < c.blocks.length by omega), cond_true, All_L2 hc hp g1 rfl _ M 0 0 out rfl rfl (by omega) (by rw [List.drop_zero]; omega), List.drop_zero, g2]
   rw [g2] at h6
   exact All_L1 hc hp hM l N (b + 1) _ _ g3 rfl (pagesT_len b _ 0 out (by omega)) (by simp at h4; omega)
theorem s_All {c : Chip} (hc : ChipOk c) (hp : PagesOk c) : S_ref06_All c = some (allT c) := by
 have := hc.1
 refine lim_eq 4294967297 fun N hN => ?_
 exact All_L1 hc hp (by omega) c.blocks N 0 0 [] rfl rfl (by simp) (by omega)
theorem blocksT_len : ∀ (l : List Block) (b : Nat) (out : List Found), out.length ≤ min (16 * b) 512 → (blocksT b l out).length ≤ 512
 | [], b, out, h => by unfold blocksT; omega
 | x :: l, b, out, h => by
   unfold blocksT
   exact blocksT_len l (b + 1) _ (pagesT_len b _ 0 out (by omega))
theorem allT_len (c : Chip) : (allT c).length ≤ 512 := blocksT_len _ 0 [] (by simp)
def tabT (n : Int) : Table := ⟨List.replicate (min n.toNat 64) (-1), List.replicate (min n.toNat 64) (-1)⟩
def TabOk (t : Table) : Prop := t.map.length < 4294967296 ∧ t.by_.length < 4294967296
def app1 (f : Found) (i : Nat) (k : Int) (t : Table) : Table :=
 if 0 ≤ k ∧ k < t.map.length ∧ k < t.by_.length then
  if f.record.kind = 1 then ⟨t.map.set k.toNat f.place, t.by_.set k.toNat f.place⟩
  else if f.record.kind = 2 ∧ i < f.record.values.length then ⟨t.map.set k.toNat (f.record.values.getD i 0), t.by_.set k.toNat f.place⟩
  else t
 else t
def appL (f : Found) : Nat → List Int → Table → Table
 | _, [], t => t
 | i, k :: l, t => appL f (i + 1) l (app1 f i k t)
def applyT (t : Table) (f : Found) : Table := appL f 0 f.record.keys t
theorem app1_len (f : Found) (i : Nat) (k : Int) (t : Table) : (app1 f i k t).map.length = t.map.length ∧ (app1 f i k t).by_.length = t.by_.length := by
 unfold app1
 split
 · split
   · simp
   · split <;> simp
 · simp
theorem appL_len (f : Found) : ∀ (l : List Int) (i : Nat) (t : Table), (appL f i l t).map.length = t.map.length ∧ (appL f i l t).by_.length = t.by_.length
 | [], i, t => ⟨rfl, rfl⟩
 | k :: l, i, t => by
   unfold appL
   obtain ⟨h1, h2⟩ := appL_len f l (i + 1) (app1 f i k t)
   obtain ⟨h3, h4⟩ := app1_len f i k t
   exact ⟨h1.trans h3, h2.trans h4⟩
theorem applyT_len (t : Table) (f : Found) : (applyT t f).map.length = t.map.length ∧ (applyT t f).by_.length = t.by_.length := appL_len f _ 0 t
theorem pApply_L1 {f : Found} (hk : f.record.keys.length < 4294967296) (hv : f.record.values.length < 4294967296) : ∀ (l : List Int) (N i : Nat) (ii : Int) (t : Table), f.record.keys.drop i = l → ii = i → TabOk t → l.length < N → iterF F_replay_Apply_L1 N (f.record.keys, (f.record.keys.length : Int), ii, f, t.map, t.by_) = some (appL f i l t)
 | l, 0, _, _, _, _, _, _, h => by omega
 | [], N + 1, i, ii, t, h1, h2, h3, _ => by
   have h4 := drop_nil h1
   rw [iterF_succ, F_replay_Apply_L1_eq]
   unfold G_replay_Apply_L1
   simp only [appL]
   rw [decide_eq_false (by omega), cond_false]
 | k :: l, N + 1, i, ii, t, h1, h2, h3, h4 => by
   obtain ⟨g1, g2, g3⟩ := drop_cons h1
   subst h2
   have e1 : w64 ((i : Int) + 1) = ((i + 1 : Nat) : Int) := by rw [w64_id (by omega) (by omega)]; rfl
   have ih := fun t' h => pApply_L1 hk hv l N (i + 1) _ t' g3 rfl h (by simp at h4; omega)
   have ihs := ih t h3
   have hval : S_replay_value (f, (i : Int)) = some (if f.record.kind = 1 then (f.place, true) else if f.record.kind = 2 ∧ i < f.record.values.length then (f.record.values.getD i 0, true) else (-1, false)) := by
    show G_replay_value f i = _
    unfold G_replay_value
    by_cases c4 : f.record.kind = 1
    · rw [decide_eq_true c4, cond_true, if_pos c4]
    · rw [decide_eq_false c4, cond_false, if_neg c4]
      by_cases c5 : f.record.kind = 2
      · rw [decide_eq_true c5, cond_true]
        by_cases c6 : i < f.record.values.length
        · rw [decide_eq_true (show (i : Int) < f.record.values.length by omega), cond_true, if_pos ⟨c5, c6⟩, decide_eq_true (show (0 : Int) ≤ i by omega), cond_true, cond_true, Int.toNat_natCast]
        · rw [decide_eq_false (show ¬ (i : Int) < f.record.values.length by omega), cond_false, if_neg (fun h => c6 h.2)]
      · rw [decide_eq_false c5, cond_false, if_neg (fun h => c5 h.1)]
   rw [iterF_succ, F_replay_Apply_L1_eq]
   unfold G_replay_Apply_L1
   simp only [Int.toNat_natCast, g2, e1, appL, hval, some_bind']
   rw [decide_eq_true (show (i : Int) < f.record.keys.length by omega), decide_eq_true (show (0 : Int) ≤ i by omega)]
   simp only [cond_true]
   have hin : ∀ (v : Int) (X : Table), (0 ≤ k ∧ k < t.map.length ∧ k < t.by_.length → X = ⟨t.map.set k.toNat v, t.by_.set k.toNat f.place⟩) → (¬ (0 ≤ k ∧ k < t.map.length ∧ k < t.by_.length) → X = t) →
    (cond (decide (k < 0)) (iterF F_replay_Apply_L1 N (f.record.keys, (f.record.keys.length : Int), ((i + 1 : Nat) : Int), f, t.map, t.by_))
    (cond (decide ((min ((t.map.length : Nat) : Int) ((t.by_.length : Nat) : Int)) ≤ k)) (iterF F_replay_Apply_L1 N (f.record.keys, (f.record.keys.length : Int), ((i + 1 : Nat) : Int), f, t.map, t.by_))
      (cond (decide (0 ≤ k)) (cond (decide (k < ((t.map.length : Nat) : Int))) (cond (decide (k.toNat < t.map.length)) (cond (decide (0 ≤ k)) (cond (decide (k < ((t.by_.length : Nat) : Int))) (cond (decide (k.toNat < t.by_.length)) (iterF F_replay_Apply_L1 N (f.record.keys, (f.record.keys.length : Int), ((i + 1 : Nat) : Int), f, t.map.set k.toNat v, t.by_.set k.toNat f.place)) none) none) none) none) none) none))) = some (appL f (i + 1) l X) := by
    intro v X hX1 hX2
    by_cases c1 : k < 0
    · rw [decide_eq_true c1, cond_true, hX2 (by omega)]; exact ihs
    · rw [decide_eq_false c1, cond_false]
      by_cases c2 : min (t.map.length : Int) (t.by_.length : Int) ≤ k
      · rw [decide_eq_true c2, cond_true, hX2 (by omega)]; exact ihs
      · rw [decide_eq_false c2, cond_false, decide_eq_true (show 0 ≤ k by omega), decide_eq_true (show k < t.map.length by omega), decide_eq_true (show k.toNat < t.map.length by omega), decide_eq_true (show k < t.by_.length by omega), decide_eq_true (show k.toNat < t.by_.length by omega)]
        simp only [cond_true]
        rw [hX1 (by omega)]
        exact ih ⟨t.map.set k.toNat v, t.by_.set k.toNat f.place⟩ ⟨by simpa using h3.1, by simpa using h3.2⟩
   by_cases c4 : f.record.kind = 1
   · rw [if_pos c4, Bool.not_true, cond_false]
     exact hin f.place _ (fun h => by unfold app1; rw [if_pos h, if_pos c4]) (fun h => by unfold app1; rw [if_neg h])
   · rw [if_neg c4]
     by_cases c5 : f.record.kind = 2 ∧ i < f.record.values.length
     · rw [if_pos c5, Bool.not_true, cond_false]
       exact hin (f.record.values.getD i 0) _ (fun h => by unfold app1; rw [if_pos h, if_neg c4, if_pos c5]) (fun h => by unfold app1; rw [if_neg h])
     · rw [if_neg c5, Bool.not_false, cond_true]
       have : app1 f i k t = t := by
        unfold app1
        split
        · first | rfl | rw [if_neg c4, if_neg c5]
        · rfl
       rw [this]; exact ihs
theorem s_replay_Apply {t : Table} {f : Found} (ht : TabOk t) (hr : RecOk f.record) : S_replay_Apply (t, f) = some (applyT t f) := by
 have h1 := ht.1
 have h2 := ht.2
 have h3 := hr.1
 refine lim_eq 4294967297 fun N hN => ?_
 show G_replay_Apply N t f = _
 unfold G_replay_Apply
 rw [decide_eq_true (by omega), cond_true, decide_eq_true (by omega), cond_true, decide_eq_true (by omega), cond_true, decide_eq_true (by omega), cond_true]
 exact pApply_L1 h3 hr.2 _ N 0 0 t rfl rfl ht (by omega)
end Clk
namespace Clk
open Go
set_option linter.unusedVariables false
def repL : List Found → Table → Int → Table × Int
 | [], t, s => (t, s)
 | f :: l, t, s => repL l (applyT t f) (max s (w64 (f.record.seq + 1)))
def replayT (c : Chip) (n : Int) : Table × Int := repL (allT c) (tabT n) 0
def FoundsOk (l : List Found) : Prop := ∀ f ∈ l, RecOk f.record
theorem unpackT_len2 {s : Str} (h : s.length < 4294967296) : (unpackT s).1.length < 4294967296 ∧ (unpackT s).2.1.length < 4294967296 := by
 have := unpackT_len s; omega
theorem decT_ok {tag data : Str} (h : tag.length < 4294967296) : RecOk (decT tag data).1 := by
 obtain ⟨h1, h2⟩ := unpackT_len2 h
 obtain ⟨h3, h4⟩ := unpackT_len2 h2
 obtain ⟨h5, h6⟩ := unpackT_len2 h4
 unfold decT
 split
 · exact ⟨by simp [zRec], by simp [zRec]⟩
 · split
   · exact ⟨by simp [zRec], by simp [zRec]⟩
   · exact ⟨h3, by simp only [mvT, List.length_map]; exact h5⟩
theorem lookT_ok {p : Page} (h : PageOk p) : RecOk (lookT p).2 := by
 unfold lookT
 split
 · exact ⟨by simp [zRec], by simp [zRec]⟩
 · split
   · exact ⟨by simp [zRec], by simp [zRec]⟩
   · exact decT_ok h.1
theorem insT_ok : ∀ {l : List Found} {f : Found}, FoundsOk l → RecOk f.record → FoundsOk (insT l f)
 | [], f, _, h => by intro g hg; simp [insT] at hg; subst hg; exact h
 | x :: l, f, h1, h2 => by
   unfold insT
   split
   · intro g hg
     rcases List.mem_cons.1 hg with rfl | hg
     · exact h2
     · exact h1 g hg
   · intro g hg
     rcases List.mem_cons.1 hg with rfl | hg
     · exact h1 _ List.mem_cons_self
     · exact insT_ok (fun g hg => h1 g (List.mem_cons_of_mem _ hg)) h2 g hg
theorem pagesT_ok (b : Nat) : ∀ (l : List Page) (p : Nat) (out : List Found), (∀ pg ∈ l, PageOk pg) → FoundsOk out → FoundsOk (pagesT b p l out)
 | [], p, out, _, h => h
 | pg :: l, p, out, h1, h2 => by
   unfold pagesT
   refine pagesT_ok b l (p + 1) _ (fun q hq => h1 q (List.mem_cons_of_mem _ hq)) ?_
   split
   · exact insT_ok h2 (lookT_ok (h1 pg List.mem_cons_self))
   · exact h2
theorem blocksT_ok : ∀ (l : List Block) (b : Nat) (out : List Found), (∀ x ∈ l, ∀ p ∈ x.pages, PageOk p) → FoundsOk out → FoundsOk (blocksT b l out)
 | [], b, out, _, h => h
 | x :: l, b, out, h1, h2 => by
   unfold blocksT
   exact blocksT_ok l (b + 1) _ (fun y hy => h1 y (List.mem_cons_of_mem _ hy)) (pagesT_ok b _ 0 out (h1 x List.mem_cons_self) h2)
theorem allT_ok {c : Chip} (h : PagesOk c) : FoundsOk (allT c) := blocksT_ok _ 0 [] h (fun _ h => by cases h)
theorem repL_len : ∀ (l : List Found) (t : Table) (s : Int), (repL l t s).1.map.length = t.map.length ∧ (repL l t s).1.by_.length = t.by_.length
 | [], t, s => ⟨rfl, rfl⟩
 | f :: l, t, s => by
   unfold repL
   obtain ⟨h1, h2⟩ := repL_len l (applyT t f) (max s (w64 (f.record.seq + 1)))
   obtain ⟨h3, h4⟩ := applyT_len t f
   exact ⟨h1.trans h3, h2.trans h4⟩
theorem tabT_ok (n : Int) : TabOk (tabT n) := ⟨by simp [tabT]; omega, by simp [tabT]; omega⟩
def tSameT (a b : Table) : Bool := decide (a.map = b.map) && decide (a.by_ = b.by_)
theorem s_ref07_Same {a b : Table} (ha : TabOk a) : S_ref07_Same (a, b) = some (tSameT a b) := by
 show G_ref07_Same a b = _
 unfold G_ref07_Same tSameT
 rw [s_ref02_Same ha.1, some_bind']
 cases decide (a.map = b.map) with
 | false => rfl
 | true => rw [cond_true, s_ref02_Same ha.2, some_bind', Bool.true_and]
theorem newL_ok {n : Int} {m : Nat} : ∀ (l : List Int) (bs : List Block), (∀ b ∈ bs, b.pages.length ≤ 16 ∧ ∀ p ∈ b.pages, p = zPage) → bs.length = m → (∀ b ∈ (newL n l bs).1.blocks, b.pages.length ≤ 16 ∧ ∀ p ∈ b.pages, p = zPage) ∧ ((newL n l bs).1.blocks.length = m ∨ (newL n l bs).1.blocks.length = 0)
 | [], bs, h1, h2 => ⟨h1, .inl h2⟩
 | x :: l, bs, h1, h2 => by
   unfold newL
   split
   · exact ⟨fun b hb => by simp [zChip] at hb, .inr rfl⟩
   · refine newL_ok l _ (fun b hb => ?_) (by unfold bBad; simpa using h2)
     unfold bBad at hb
     by_cases hx : x.toNat < bs.length
     · rcases List.mem_or_eq_of_mem_set hb with h | rfl
       · exact h1 b h
       · exact h1 (bs.getD x.toNat default) (getD_mem' hx)
     · rw [List.set_eq_of_length_le (by omega)] at hb
       exact h1 b hb
theorem newT_ok (n p : Int) (bad : List Int) : ChipOk (newT n p bad).1 ∧ PagesOk (newT n p bad).1 := by
 unfold newT
 split
 · exact ⟨⟨by simp [zChip], fun b hb => by simp [zChip] at hb⟩, fun b hb => by simp [zChip] at hb⟩
 · rename_i h
   obtain ⟨h1, h2⟩ := newL_ok (n := n) (m := n.toNat) bad (List.replicate n.toNat ⟨List.replicate p.toNat zPage, 0, 0, false⟩) (fun b hb => by
    obtain ⟨_, rfl⟩ := List.mem_replicate.1 hb
    exact ⟨by simp; omega, fun q hq => (List.mem_replicate.1 hq).2⟩) (by simp)
   refine ⟨⟨by omega, fun b hb => by have := (h1 b hb).1; omega⟩, fun b hb q hq => ?_⟩
   rw [(h1 b hb).2 q hq]
   exact ⟨by simp [zPage], by simp [zPage]⟩
end Clk
namespace Clk
open Go
set_option linter.unusedVariables false
def zFate : Fate := ⟨0, [], [], 0⟩
def nextOf (c : Chip) (o : Int) : Int := (c.blocks.getD o.toNat default).next
theorem progT_ok {c : Chip} (h : ChipOk c) (b p : Int) (page : Page) (f : Fate) : ChipOk (progT c b p page f).1 := by
 unfold progT
 split
 · exact h
 · split
   · rename_i hc
     obtain ⟨h1, h2, _⟩ := canProg_iff.1 hc
     refine ⟨by simpa using h.1, fun x hx => ?_⟩
     rcases List.mem_or_eq_of_mem_set hx with h3 | rfl
     · exact h.2 x h3
     · have := h.get (show b.toNat < c.blocks.length by omega) default
       simpa [newBlock] using this
   · exact h
theorem progT_blocks (c : Chip) (b p : Int) (page : Page) (f : Fate) : (progT c b p page f).1.blocks.length = c.blocks.length := by
 unfold progT
 split
 · rfl
 · split
   · simp
   · rfl
end Clk
namespace Clk
open Go
set_option linter.unusedVariables false
def pk (l : List Int) (i : Nat) (n : Int) : Int := l.getD i 0 % n
def mkL (l : List Int) (kind : Int) : Nat → Nat → Int → List Int × List Int
 | 0, _, _ => ([], [])
 | n + 1, at_, key => if key < 64 then
    (if kind = 2 then (key :: (mkL l kind n (at_ + 2) (key + 1 + pk l at_ 10)).1, (pk l (at_ + 1) 513 - 1) :: (mkL l kind n (at_ + 2) (key + 1 + pk l at_ 10)).2)
     else (key :: (mkL l kind n (at_ + 1) (key + 1 + pk l at_ 10)).1, (mkL l kind n (at_ + 1) (key + 1 + pk l at_ 10)).2))
   else ([], [])
def madeT (l : List Int) : Record :=
 ⟨1 + pk l 0 2, pk l 1 60000 * (1 + pk l 2 1000), (mkL l (1 + pk l 0 2) (pk l 4 8 + 1).toNat 5 (pk l 3 20)).1, (mkL l (1 + pk l 0 2) (pk l 4 8 + 1).toNat 5 (pk l 3 20)).2⟩
def U16 (l : List Int) : Prop := ∀ n ∈ l, 0 ≤ n ∧ n < 65536
theorem U16.get {l : List Int} (h : U16 l) (i : Nat) : 0 ≤ l.getD i 0 ∧ l.getD i 0 < 65536 := by
 by_cases hi : i < l.length
 · exact h _ (getD_mem' hi)
 · rw [List.getD_eq_getElem?_getD, List.getElem?_eq_none (by omega)]; exact ⟨Int.le_refl 0, show (0 : Int) < 65536 by omega⟩
theorem pk_none {l : List Int} {i : Nat} (h : l.length ≤ i) (n : Int) : pk l i n = 0 := by
 unfold pk
 rw [List.getD_eq_getElem?_getD, List.getElem?_eq_none h]; simp
theorem pk_range {l : List Int} (h : U16 l) (i : Nat) {n : Int} (hn : 0 < n) : 0 ≤ pk l i n ∧ pk l i n < n := ⟨Int.emod_nonneg _ (by omega), Int.emod_lt_of_pos _ hn⟩
theorem pk_tmod {l : List Int} (h : U16 l) (i : Nat) (n : Int) : Int.tmod (w64 (l.getD i 0)) n = pk l i n := by
 have := h.get i
 rw [w64_id (by omega) (by omega), Int.tmod_eq_emod_of_nonneg this.1]; rfl
theorem Made_L1 {l : List Int} (hl : U16 l) (hn : l.length < 9223372036854775808) {kind seq : Int} : ∀ (n N at_ : Nat) (cnt key ati : Int) (ks vs : List Int), cnt = (n : Int) - 1 → ati = at_ → n ≤ 9 → at_ + 2 * n ≤ 4294967296 → 0 ≤ key → key ≤ 100 → ks.length + n ≤ 100 → vs.length + n ≤ 100 → n < N →
 iterF F_law03_Made_L1 N (key, cnt, l, kind, seq, ati, ks, vs) = some ⟨kind, seq, ks ++ (mkL l kind n at_ key).1, vs ++ (mkL l kind n at_ key).2⟩
 | n, 0, _, _, _, _, _, _, _, _, _, _, _, _, _, _, h => by omega
 | 0, N + 1, at_, cnt, key, ati, ks, vs, h1, h2, _, _, _, _, _, _, _ => by
   rw [iterF_succ, F_law03_Made_L1_eq]
   unfold G_law03_Made_L1
   simp only [mkL, List.append_nil]
   rw [decide_eq_false (by omega), cond_false]
 | n + 1, N + 1, at_, cnt, key, ati, ks, vs, h1, h2, h3, h4, h5, h6, h7, h8, h9 => by
   subst h2
   rw [iterF_succ, F_law03_Made_L1_eq]
   unfold G_law03_Made_L1
   simp only [mkL]
   rw [decide_eq_true (show 0 ≤ cnt by omega), cond_true]
   by_cases hk : key < 64
   · have p1 := pk_range hl at_ (n := 10) (by omega)
     have p2 := pk_range hl (at_ + 1) (n := 513) (by omega)
     have ih := fun (a : Nat) (ha : a + 2 * n ≤ 4294967296) (k' : Int) (hk' : 0 ≤ k' ∧ k' ≤ 100) (ks' vs' : List Int) (hks : ks'.length + n ≤ 100) (hvs : vs'.length + n ≤ 100) => Made_L1 hl hn (kind := kind) (seq := seq) n N a (w64 (cnt - 1)) k' (a : Int) ks' vs' (by rw [w64_id (by omega) (by omega)]; omega) rfl (by omega) ha hk'.1 hk'.2 hks hvs (by omega)
     rw [decide_eq_true hk, cond_true, if_pos hk, decide_eq_true (by simp only [List.length_singleton]; omega), cond_true, decide_eq_true (by simp only [List.length_singleton]; omega), cond_true]
     have w1 : w64 ((at_ : Int) + 1) = ((at_ + 1 : Nat) : Int) := by rw [w64_id (by omega) (by omega)]; rfl
     have w2 : w64 (((at_ + 1 : Nat) : Int) + 1) = ((at_ + 2 : Nat) : Int) := by rw [w64_id (by omega) (by omega)]; rfl
     have w3 : w64 (((at_ + 1 : Nat) : Int) - 1) = (at_ : Int) := by rw [w64_id (by omega) (by omega)]; omega
     have w4 : w64 (((at_ + 2 : Nat) : Int) - 1) = ((at_ + 1 : Nat) : Int) := by rw [w64_id (by omega) (by omega)]; omega
     have w5 : w64 (key + 1) = key + 1 := w64_id (by omega) (by omega)
     have w6 : w64 (key + 1 + pk l at_ 10) = key + 1 + pk l at_ 10 := w64_id (by omega) (by omega)
     have w7 : w64 (pk l (at_ + 1) 513 - 1) = pk l (at_ + 1) 513 - 1 := w64_id (by omega) (by omega)
     simp only [w1, w2, w3, w4, w5, Int.toNat_natCast, pk_tmod hl, w6, w7]
     have v1 : [key].length = 1 := rfl
     by_cases c2 : kind = 2
     · simp only [decide_eq_true c2, cond_true, if_pos c2]
       by_cases c1 : l.length < at_ + 1
       · have z := pk_none (show l.length ≤ at_ by omega) 10
         have z2 := pk_none (show l.length ≤ at_ + 1 by omega) 513
         rw [decide_eq_true (show (l.length : Int) < ((at_ + 1 : Nat) : Int) by omega), cond_true, decide_eq_true (show (l.length : Int) < ((at_ + 2 : Nat) : Int) by omega), cond_true, decide_eq_true (by simp only [List.length_singleton]; omega), cond_true, decide_eq_true (by simp only [List.length_singleton]; omega), cond_true, z, z2, w64_id (n := key + 1 + 0) (by omega) (by omega)]
         rw [ih (at_ + 2) (by omega) _ (by omega) _ _ (by simp only [List.length_append, List.length_singleton]; omega) (by simp only [List.length_append, List.length_singleton]; omega)]
         simp
       · rw [decide_eq_false (show ¬ (l.length : Int) < ((at_ + 1 : Nat) : Int) by omega), cond_false, decide_eq_true (show (0 : Int) ≤ (at_ : Int) by omega), cond_true, decide_eq_true (show (at_ : Int) < l.length by omega), cond_true]
         by_cases c3 : l.length < at_ + 2
         · have z2 := pk_none (show l.length ≤ at_ + 1 by omega) 513
           rw [decide_eq_true (show (l.length : Int) < ((at_ + 2 : Nat) : Int) by omega), cond_true, decide_eq_true (by simp only [List.length_singleton]; omega), cond_true, decide_eq_true (by simp only [List.length_singleton]; omega), cond_true, z2]
           rw [ih (at_ + 2) (by omega) _ (by omega) _ _ (by simp only [List.length_append, List.length_singleton]; omega) (by simp only [List.length_append, List.length_singleton]; omega)]
           simp
         · rw [decide_eq_false (show ¬ (l.length : Int) < ((at_ + 2 : Nat) : Int) by omega), cond_false, decide_eq_true (show (0 : Int) ≤ ((at_ + 1 : Nat) : Int) by omega), cond_true, decide_eq_true (show ((at_ + 1 : Nat) : Int) < l.length by omega), cond_true, decide_eq_true (by simp only [List.length_singleton]; omega), cond_true, decide_eq_true (by simp only [List.length_singleton]; omega), cond_true]
           rw [ih (at_ + 2) (by omega) _ (by omega) _ _ (by simp only [List.length_append, List.length_singleton]; omega) (by simp only [List.length_append, List.length_singleton]; omega)]
           simp
     · simp only [decide_eq_false c2, cond_false, if_neg c2]
       by_cases c1 : l.length < at_ + 1
       · have z := pk_none (show l.length ≤ at_ by omega) 10
         rw [decide_eq_true (show (l.length : Int) < ((at_ + 1 : Nat) : Int) by omega), cond_true, z, w64_id (n := key + 1 + 0) (by omega) (by omega)]
         rw [ih (at_ + 1) (by omega) _ (by omega) _ _ (by simp only [List.length_append, List.length_singleton]; omega) (by omega)]
         simp
       · rw [decide_eq_false (show ¬ (l.length : Int) < ((at_ + 1 : Nat) : Int) by omega), cond_false, decide_eq_true (show (0 : Int) ≤ (at_ : Int) by omega), cond_true, decide_eq_true (show (at_ : Int) < l.length by omega), cond_true]
         rw [ih (at_ + 1) (by omega) _ (by omega) _ _ (by simp only [List.length_append, List.length_singleton]; omega) (by omega)]
         simp
   · rw [decide_eq_false hk, cond_false, if_neg hk]; simp
theorem s_law03_Made {l : List Int} (hl : U16 l) (hn : l.length < 9223372036854775808) : S_law03_Made l = some (madeT l) := by
 refine lim_eq 10 fun N hN => ?_
 have q0 := pk_range hl 0 (n := 2) (by omega)
 have q1 := pk_range hl 1 (n := 60000) (by omega)
 have q2 := pk_range hl 2 (n := 1000) (by omega)
 have q3 := pk_range hl 3 (n := 20) (by omega)
 have q4 := pk_range hl 4 (n := 8) (by omega)
 have key := fun kind seq => Made_L1 hl hn (kind := kind) (seq := seq) (pk l 4 8 + 1).toNat N 5 (pk l 4 8) (pk l 3 20) 5 [] [] (by omega) rfl (by omega) (by omega) (by omega) (by omega) (by simp; omega) (by simp; omega) (by omega)
 simp only [List.nil_append] at key
 have hm : 0 ≤ pk l 1 60000 * (1 + pk l 2 1000) ∧ pk l 1 60000 * (1 + pk l 2 1000) ≤ 60000 * 1001 := by
  refine ⟨Int.mul_nonneg q1.1 (by omega), Int.mul_le_mul (by omega) (by omega) (by omega) (by omega)⟩
 have w0 : w64 (1 + pk l 0 2) = 1 + pk l 0 2 := w64_id (by omega) (by omega)
 have w1 : w64 (1 + pk l 2 1000) = 1 + pk l 2 1000 := w64_id (by omega) (by omega)
 have w2 : w64 (pk l 1 60000 * (1 + pk l 2 1000)) = pk l 1 60000 * (1 + pk l 2 1000) := w64_id (by omega) (by omega)
 unfold G_law03_Made madeT
 simp only [pk_tmod hl, w0, w1, w2]
 by_cases c1 : l.length < 1
 · simp only [pk_none (show l.length ≤ 0 by omega), pk_none (show l.length ≤ 1 by omega), pk_none (show l.length ≤ 2 by omega), pk_none (show l.length ≤ 3 by omega), pk_none (show l.length ≤ 4 by omega)] at key ⊢
   rw [decide_eq_true (show (l.length : Int) < 1 by omega), cond_true, decide_eq_true (show (l.length : Int) < 2 by omega), cond_true, decide_eq_true (show (l.length : Int) < 3 by omega), cond_true, decide_eq_true (show (l.length : Int) < 4 by omega), cond_true, decide_eq_true (show (l.length : Int) < 5 by omega), cond_true]
   exact key 1 0
 · rw [decide_eq_false (show ¬ (l.length : Int) < 1 by omega), cond_false, decide_eq_true (show (0 : Int) < l.length by omega), cond_true]
   by_cases c2 : l.length < 2
   · simp only [pk_none (show l.length ≤ 1 by omega), pk_none (show l.length ≤ 2 by omega), pk_none (show l.length ≤ 3 by omega), pk_none (show l.length ≤ 4 by omega)] at key ⊢
     rw [decide_eq_true (show (l.length : Int) < 2 by omega), cond_true, decide_eq_true (show (l.length : Int) < 3 by omega), cond_true, decide_eq_true (show (l.length : Int) < 4 by omega), cond_true, decide_eq_true (show (l.length : Int) < 5 by omega), cond_true]
     exact key _ 0
   · rw [decide_eq_false (show ¬ (l.length : Int) < 2 by omega), cond_false, decide_eq_true (show (1 : Int) < l.length by omega), cond_true]
     by_cases c3 : l.length < 3
     · simp only [pk_none (show l.length ≤ 2 by omega), pk_none (show l.length ≤ 3 by omega), pk_none (show l.length ≤ 4 by omega)] at key ⊢
       rw [decide_eq_true (show (l.length : Int) < 3 by omega), cond_true, decide_eq_true (show (l.length : Int) < 4 by omega), cond_true, decide_eq_true (show (l.length : Int) < 5 by omega), cond_true, w64_id (n := pk l 1 60000 * 1) (by omega) (by omega)]
       exact key _ _
     · rw [decide_eq_false (show ¬ (l.length : Int) < 3 by omega), cond_false, decide_eq_true (show (2 : Int) < l.length by omega), cond_true]
       by_cases c4 : l.length < 4
       · simp only [pk_none (show l.length ≤ 3 by omega), pk_none (show l.length ≤ 4 by omega)] at key ⊢
         rw [decide_eq_true (show (l.length : Int) < 4 by omega), cond_true, decide_eq_true (show (l.length : Int) < 5 by omega), cond_true]
         exact key _ _
       · rw [decide_eq_false (show ¬ (l.length : Int) < 4 by omega), cond_false, decide_eq_true (show (3 : Int) < l.length by omega), cond_true]
         by_cases c5 : l.length < 5
         · simp only [pk_none (show l.length ≤ 4 by omega)] at key ⊢
           rw [decide_eq_true (show (l.length : Int) < 5 by omega), cond_true]
           exact key _ _
         · rw [decide_eq_false (show ¬ (l.length : Int) < 5 by omega), cond_false, decide_eq_true (show (4 : Int) < l.length by omega), cond_true]
           exact key _ _
theorem mkL_len (l : List Int) (kind : Int) : ∀ (n a : Nat) (key : Int), (mkL l kind n a key).1.length ≤ n ∧ (mkL l kind n a key).2.length ≤ n
 | 0, a, key => by simp [mkL]
 | n + 1, a, key => by
   unfold mkL
   split
   · split
     · have := mkL_len l kind n (a + 2) (key + 1 + pk l a 10)
       simp only [List.length_cons]; omega
     · have := mkL_len l kind n (a + 1) (key + 1 + pk l a 10)
       simp only [List.length_cons]; omega
   · simp
theorem madeT_ok {l : List Int} (hl : U16 l) : RecOk (madeT l) ∧ (madeT l).keys.length ≤ 8 := by
 have q4 := pk_range hl 4 (n := 8) (by omega)
 have := mkL_len l (1 + pk l 0 2) (pk l 4 8 + 1).toNat 5 (pk l 3 20)
 unfold madeT RecOk
 simp only
 omega
end Clk
namespace Clk
open Go
set_option linter.unusedVariables false
theorem encT_len (r : Record) (data : Str) : (encT r data).1.length ≤ 204 := by
 unfold encT
 split
 · simp
 · rename_i h
   have := bodyT_len (r := r) (by cases hr : rightT r with
    | true => rfl
    | false => exact absurd (.inl hr) h)
   simp only [List.length_append, bytes4, List.length_cons, List.length_nil]; omega
theorem makeT_ok {w : Write} (h : WriteOk w) : PageOk (makeT w).1 := by
 have := encT_len w.record w.data
 unfold makeT
 split
 · exact ⟨by simp, by simp⟩
 · exact ⟨by simp only; omega, h.2⟩
def pgT (seq : Int) (l : List Int) : Page := (makeT ⟨[100], ⟨(madeT l).kind, seq, (madeT l).keys, (madeT l).values⟩⟩).1
theorem pgT_w {l : List Int} (hl : U16 l) (seq : Int) : WriteOk ⟨[100], ⟨(madeT l).kind, seq, (madeT l).keys, (madeT l).values⟩⟩ := ⟨(madeT_ok hl).1, by simp⟩
theorem s_law06_Page {seq : Int} {l : List Int} (hl : U16 l) (hn : l.length < 9223372036854775808) : S_law06_Page (seq, l) = some (pgT seq l) := by
 show G_law06_Page seq l = _
 unfold G_law06_Page
 rw [s_law03_Made hl hn, some_bind', s_ref04_Make (pgT_w hl seq)]; rfl
def nextAt (l : List Int) (a : Nat) : Nat := min (a + 1 + (l.getD a 0).toNat / 50 % 8) l.length
def stepC (l : List Int) (m : Int) (a : Nat) (c : Chip) : Chip :=
 let n := l.getD a 0
 let page := pgT (n / 7 % 30) ((l.drop a).take (nextAt l a - a))
 let f : Fate := if n % 11 = 0 then ⟨1, [120], page.tag, 0⟩ else zFate
 let c1 := if n % 29 = 0 then (eraT c (n % m) zFate).1 else c
 let r := progT c1 (n % m) (nextOf c1 (n % m)) page f
 if r.2 = 1 then c1 else r.1
def chipL (l : List Int) (m : Int) : Nat → Nat → Chip → Chip
 | 0, _, c => c
 | k + 1, a, c => if a < l.length then chipL l m k (max (nextAt l a) (a + 1)) (stepC l m a c) else c
def chipT (l : List Int) (blocks pages : Int) : Chip := chipL l blocks 40 0 (newT blocks pages []).1
theorem eraT_ok {c : Chip} (h : ChipOk c) (b : Int) (f : Fate) : ChipOk (eraT c b f).1 ∧ (eraT c b f).1.blocks.length = c.blocks.length := by
 unfold eraT
 split
 · exact ⟨h, rfl⟩
 · split
   · rename_i hc
     unfold canEra at hc
     simp only [Bool.and_eq_true, decide_eq_true_eq] at hc
     refine ⟨⟨by simpa using h.1, fun x hx => ?_⟩, by simp⟩
     rcases List.mem_or_eq_of_mem_set hx with h3 | rfl
     · exact h.2 x h3
     · have := h.get (show b.toNat < c.blocks.length by omega) default
       unfold eraBlock
       split
       · exact this
       · simp only [clrT_len]; exact this
   · exact ⟨h, rfl⟩
theorem clrT_ok (all : Bool) (n : Int) : ∀ (i : Nat) (l : List Page), (∀ p ∈ l, PageOk p) → ∀ p ∈ clrT all n i l, PageOk p
 | _, [], _, p, hp => by cases hp
 | i, q :: l, h, p, hp => by
   unfold clrT at hp
   rcases List.mem_cons.1 hp with rfl | hp
   · split
     · exact ⟨by simp [zPage], by simp [zPage]⟩
     · exact h _ List.mem_cons_self
   · exact clrT_ok all n (i + 1) l (fun x hx => h x (List.mem_cons_of_mem _ hx)) p hp
theorem eraT_pages {c : Chip} (h : PagesOk c) (b : Int) (f : Fate) : PagesOk (eraT c b f).1 := by
 unfold eraT
 split
 · exact h
 · split
   · rename_i hc
     unfold canEra at hc
     simp only [Bool.and_eq_true, decide_eq_true_eq] at hc
     intro x hx
     rcases List.mem_or_eq_of_mem_set hx with h3 | rfl
     · exact h x h3
     · have := h _ (getD_mem' (d := default) (show b.toNat < c.blocks.length by omega))
       unfold eraBlock
       split
       · exact this
       · exact clrT_ok _ _ 0 _ this
   · exact h
theorem progT_pages {c : Chip} (h : PagesOk c) (b p : Int) {page : Page} {f : Fate} (hp : PageOk page) (hf : f.tag.length < 4294967296 ∧ f.data.length < 4294967296) : PagesOk (progT c b p page f).1 := by
 unfold progT
 split
 · exact h
 · split
   · rename_i hc
     obtain ⟨h1, h2, _⟩ := canProg_iff.1 hc
     intro x hx
     rcases List.mem_or_eq_of_mem_set hx with h3 | rfl
     · exact h x h3
     · have h4 := h _ (getD_mem' (d := default) (show b.toNat < c.blocks.length by omega))
       unfold newBlock
       intro q hq
       rcases List.mem_or_eq_of_mem_set hq with h5 | rfl
       · exact h4 q h5
       · split
         · exact ⟨hp.1, hp.2⟩
         · exact hf
   · exact h
theorem U16.sub {l m : List Int} (h : U16 l) (hm : ∀ n ∈ m, n ∈ l) : U16 m := fun n hn => h n (hm n hn)
theorem U16.part {l : List Int} (h : U16 l) (a k : Nat) : U16 ((l.drop a).take k) := h.sub fun n hn => List.mem_of_mem_drop (List.mem_of_mem_take hn)
structure CI (c : Chip) (m : Int) : Prop where
 ok : ChipOk c
 pages : PagesOk c
 len : (c.blocks.length : Int) = m
theorem stepC_ok {l : List Int} (hl : U16 l) {m : Int} {a : Nat} {c : Chip} (h : CI c m) : CI (stepC l m a c) m := by
 have h1 : CI (if l.getD a 0 % 29 = 0 then (eraT c (l.getD a 0 % m) zFate).1 else c) m := by
  split
  · exact ⟨(eraT_ok h.ok _ _).1, eraT_pages h.pages _ _, by rw [(eraT_ok h.ok _ _).2]; exact h.len⟩
  · exact h
 have h2 : PageOk (pgT (l.getD a 0 / 7 % 30) ((l.drop a).take (nextAt l a - a))) := makeT_ok (pgT_w (hl.part a _) _)
 have h3 : (if l.getD a 0 % 11 = 0 then (⟨1, [120], (pgT (l.getD a 0 / 7 % 30) ((l.drop a).take (nextAt l a - a))).tag, 0⟩ : Fate) else zFate).tag.length < 4294967296 ∧ (if l.getD a 0 % 11 = 0 then (⟨1, [120], (pgT (l.getD a 0 / 7 % 30) ((l.drop a).take (nextAt l a - a))).tag, 0⟩ : Fate) else zFate).data.length < 4294967296 := by
  split
  · exact ⟨h2.1, by simp⟩
  · exact ⟨by simp [zFate], by simp [zFate]⟩
 unfold stepC
 simp only
 generalize (if l.getD a 0 % 29 = 0 then (eraT c (l.getD a 0 % m) zFate).1 else c) = c1 at h1
 generalize (if l.getD a 0 % 11 = 0 then (⟨1, [120], (pgT (l.getD a 0 / 7 % 30) ((l.drop a).take (nextAt l a - a))).tag, 0⟩ : Fate) else zFate) = f at h3
 split
 · exact h1
 · exact ⟨progT_ok h1.ok _ _ _ _, progT_pages h1.pages _ _ h2 h3, by rw [progT_blocks]; exact h1.len⟩
theorem law06_Made_L1 {l : List Int} (hl : U16 l) (hn : l.length < 9223372036854775808) {m : Int} (hm : 0 < m) (hm2 : m < 4294967296) : ∀ (k N a : Nat) (ai i : Int) (c : Chip), ai = a → i = 40 - (k : Int) → k ≤ 40 → a + 10 * k ≤ 400 → CI c m → k < N → iterF F_law06_Made_L1 N (l, m, ai, i, c) = some (chipL l m k a c)
 | k, 0, _, _, _, _, _, _, _, _, _, h => by omega
 | 0, N + 1, a, ai, i, c, h1, h2, _, _, _, _ => by
   rw [iterF_succ, F_law06_Made_L1_eq]
   unfold G_law06_Made_L1
   simp only [chipL]
   rw [decide_eq_false (by omega), cond_false]
 | k + 1, N + 1, a, ai, i, c, h1, h2, h3, ha4, h4, h5 => by
   subst h1
   rw [iterF_succ, F_law06_Made_L1_eq]
   unfold G_law06_Made_L1
   simp only [Int.toNat_natCast, chipL]
   rw [decide_eq_true (show i < 40 by omega), cond_true]
   by_cases ha : a < l.length
   · rw [decide_eq_true (show (a : Int) < l.length by omega), cond_true, if_pos ha]
     have hg := hl.get a
     have hci := stepC_ok hl (a := a) h4
     have hna : nextAt l a ≤ a + 10 := by unfold nextAt; omega
     have ih := law06_Made_L1 hl hn hm hm2 k N (max (nextAt l a) (a + 1)) ((max (nextAt l a) (a + 1) : Nat) : Int) (w64 (i + 1)) _ rfl (by rw [w64_id (by omega) (by omega)]; omega) (by omega) (by omega) hci (by omega)
     rw [← ih]
     obtain ⟨q, hq⟩ : ∃ q : Nat, l.getD a 0 = q := ⟨(l.getD a 0).toNat, by omega⟩
     have hnx : nextAt l a = min (a + 1 + q / 50 % 8) l.length := by unfold nextAt; rw [hq]; rfl
     have b0 : ∀ m : Int, 0 < m → Int.tmod (q : Int) m = (q : Int) % m := fun m hm => Int.tmod_eq_emod_of_nonneg (by omega)
     have bm : 0 ≤ (q : Int) % m ∧ (q : Int) % m < m := ⟨Int.emod_nonneg _ (by omega), Int.emod_lt_of_pos _ hm⟩
     have d50 : Int.tdiv (q : Int) 50 = ((q / 50 : Nat) : Int) := tdiv_nat q 50
     have d7 : Int.tdiv (q : Int) 7 = ((q / 7 : Nat) : Int) := tdiv_nat q 7
     have m8 : Int.tmod ((q / 50 : Nat) : Int) 8 = ((q / 50 % 8 : Nat) : Int) := tmod_nat (q / 50) 8
     have m30 : Int.tmod ((q / 7 : Nat) : Int) 30 = ((q / 7 % 30 : Nat) : Int) := tmod_nat (q / 7) 30
     have m11 : Int.tmod (q : Int) 11 = (q : Int) % 11 := b0 11 (by omega)
     have m29 : Int.tmod (q : Int) 29 = (q : Int) % 29 := b0 29 (by omega)
     have emin : min (w64 (w64 ((a : Int) + 1) + ((q / 50 % 8 : Nat) : Int))) (l.length : Int) = ((nextAt l a : Nat) : Int) := by
      rw [w64_id (n := (a : Int) + 1) (by omega) (by omega), w64_id (by omega) (by omega), hnx]; omega
     have eseq : ((q / 7 % 30 : Nat) : Int) = l.getD a 0 / 7 % 30 := by rw [hq]; omega
     have hpage : S_law06_Page (((q / 7 % 30 : Nat) : Int), (l.drop a).take (Int.toNat ((nextAt l a : Nat) : Int) - a)) = some (pgT (l.getD a 0 / 7 % 30) ((l.drop a).take (nextAt l a - a))) := by
      rw [s_law06_Page (hl.part a _) (by simp only [List.length_take, List.length_drop]; omega), eseq, Int.toNat_natCast]
     have emax : max ((nextAt l a : Nat) : Int) (w64 ((a : Int) + 1)) = ((max (nextAt l a) (a + 1) : Nat) : Int) := by rw [w64_id (n := (a : Int) + 1) (by omega) (by omega)]; omega
     have wi : w64 (i + 1) = i + 1 := w64_id (by omega) (by omega)
     simp only [hq]
     rw [w64_id (n := (q : Int)) (by omega) (by omega), d50, d7, w64_id (n := ((q / 50 : Nat) : Int)) (by omega) (by omega), w64_id (n := ((q / 7 : Nat) : Int)) (by omega) (by omega), m8, m30, m11, m29, b0 m hm, emin, emax, hpage]
     simp only [some_bind', s_ref05_Erase h4.ok]
     rw [decide_eq_true (show (0 : Int) ≤ a by omega), decide_eq_false (show ¬ m = 0 by omega), decide_eq_true (show (a : Int) ≤ ((nextAt l a : Nat) : Int) by rw [hnx]; omega), decide_eq_true (show ((nextAt l a : Nat) : Int) ≤ l.length by rw [hnx]; omega), decide_eq_true bm.1]
     simp only [cond_true, Bool.not_false]
     have fin : ∀ (c1 : Chip) (f : Fate), CI c1 m → c1 = (if l.getD a 0 % 29 = 0 then (eraT c (l.getD a 0 % m) zFate).1 else c) → f = (if l.getD a 0 % 11 = 0 then (⟨1, [120], (pgT (l.getD a 0 / 7 % 30) ((l.drop a).take (nextAt l a - a))).tag, 0⟩ : Fate) else zFate) →
      (cond (decide ((q : Int) % m < ((c1.blocks.length : Nat) : Int))) (Option.bind (S_ref05_Program (c1, (q : Int) % m, (c1.blocks.getD (Int.toNat ((q : Int) % m)) default).next, pgT (l.getD a 0 / 7 % 30) ((l.drop a).take (nextAt l a - a)), f)) fun r8 =>
      cond (!(decide (r8.2 = 1)))
       (iterF F_law06_Made_L1 N (l, m, ((max (nextAt l a) (a + 1) : Nat) : Int), (w64 (i + 1)), r8.1))
       (iterF F_law06_Made_L1 N (l, m, ((max (nextAt l a) (a + 1) : Nat) : Int), (w64 (i + 1)), c1))) none) = iterF F_law06_Made_L1 N (l, m, ((max (nextAt l a) (a + 1) : Nat) : Int), (w64 (i + 1)), stepC l m a c) := by
      intro c1 f hc1 e1 e2
      have est : stepC l m a c = if (progT c1 ((q : Int) % m) (nextOf c1 ((q : Int) % m)) (pgT (l.getD a 0 / 7 % 30) ((l.drop a).take (nextAt l a - a))) f).2 = 1 then c1 else (progT c1 ((q : Int) % m) (nextOf c1 ((q : Int) % m)) (pgT (l.getD a 0 / 7 % 30) ((l.drop a).take (nextAt l a - a))) f).1 := by
       rw [e1, e2, ← hq]; rfl
      rw [decide_eq_true (by rw [hc1.len]; exact bm.2), cond_true, s_ref05_Program hc1.ok, some_bind', est]
      show cond (!decide ((progT c1 ((q : Int) % m) (nextOf c1 ((q : Int) % m)) (pgT (l.getD a 0 / 7 % 30) ((l.drop a).take (nextAt l a - a))) f).2 = 1)) _ _ = _
      by_cases h : (progT c1 ((q : Int) % m) (nextOf c1 ((q : Int) % m)) (pgT (l.getD a 0 / 7 % 30) ((l.drop a).take (nextAt l a - a))) f).2 = 1
      · rw [decide_eq_true h, Bool.not_true, cond_false, if_pos h]
      · rw [decide_eq_false h, Bool.not_false, cond_true, if_neg h]; rfl
     have hce : CI (eraT c ((q : Int) % m) zFate).1 m := ⟨(eraT_ok h4.ok _ _).1, eraT_pages h4.pages _ _, by rw [(eraT_ok h4.ok _ _).2]; exact h4.len⟩
     by_cases x11 : (q : Int) % 11 = 0
     · rw [decide_eq_true x11, cond_true]
       by_cases x29 : (q : Int) % 29 = 0
       · rw [decide_eq_true x29, cond_true]
         exact fin _ _ hce (by rw [hq, if_pos x29] <;> rfl) (by rw [hq, if_pos x11])
       · rw [decide_eq_false x29, cond_false]
         exact fin _ _ h4 (by rw [hq, if_neg x29]) (by rw [hq, if_pos x11])
     · rw [decide_eq_false x11, cond_false]
       by_cases x29 : (q : Int) % 29 = 0
       · rw [decide_eq_true x29, cond_true]
         exact fin _ _ hce (by rw [hq, if_pos x29] <;> rfl) (by rw [hq, if_neg x11]; rfl)
       · rw [decide_eq_false x29, cond_false]
         exact fin _ _ h4 (by rw [hq, if_neg x29]) (by rw [hq, if_neg x11]; rfl)
   · rw [decide_eq_false (show ¬ (a : Int) < l.length by omega), cond_false, if_neg ha]
theorem newL_nil (n : Int) (bs : List Block) : newL n [] bs = (⟨bs, false, false, 0⟩, 0) := rfl
theorem chipL_ok {l : List Int} (hl : U16 l) {m : Int} : ∀ (k a : Nat) (c : Chip), CI c m → CI (chipL l m k a c) m
 | 0, a, c, h => h
 | k + 1, a, c, h => by
   unfold chipL
   split
   · exact chipL_ok hl k _ _ (stepC_ok hl h)
   · exact h
end Clk
namespace Clk
open Go
set_option linter.unusedVariables false
theorem getD_set_ne' {α : Type} {l : List α} {i j : Nat} {x d : α} (h : i ≠ j) : (l.set i x).getD j d = l.getD j d := by
 rw [List.getD_eq_getElem?_getD, List.getElem?_set_ne h, ← List.getD_eq_getElem?_getD]
end Clk
namespace Clk
open Go
set_option linter.unusedVariables false
theorem ofNat_toNat {n : Nat} (h : n < 256) : (UInt8.ofNat n).toNat = n := by simp; omega
theorem take_putN : ∀ (f n acc u : Nat) (first : Bool) (rest : Str), n < 128 ^ (f + 1) → acc + n * u ≤ 1099511627776 → (first = true ∨ 0 < n) → takeN (f + 1) first acc u (putN f n ++ rest) = (((acc + n * u : Nat) : Int), rest, true)
 | 0, n, acc, u, first, rest, h1, h2, h3 => by
   have hn : n < 128 := by simpa using h1
   simp only [putN, List.singleton_append, takeN, ofNat_toNat (show n < 256 by omega)]
   rw [if_pos hn, if_neg]
   rintro (h | ⟨h, h'⟩)
   · omega
   · rcases h3 with h3 | h3
     · rw [h3] at h; cases h
     · omega
 | f + 1, n, acc, u, first, rest, h1, h2, h3 => by
   unfold putN
   by_cases hn : 127 < n
   · rw [if_pos hn]
     simp only [List.cons_append, takeN, ofNat_toNat (show 128 + n % 128 < 256 by omega)]
     have e1 : (128 + n % 128) % 128 = n % 128 := by omega
     have e2 : acc + n % 128 * u + n / 128 * (u * 128) = acc + n * u := by
      have : n * u = n % 128 * u + n / 128 * (u * 128) := by
       have h := Nat.div_add_mod n 128
       calc n * u = (128 * (n / 128) + n % 128) * u := by rw [h]
        _ = n % 128 * u + n / 128 * (u * 128) := by rw [Nat.add_mul, Nat.add_comm]; congr 1; rw [Nat.mul_comm 128, Nat.mul_assoc, Nat.mul_comm 128]
      omega
     rw [if_neg (by omega), e1, take_putN f (n / 128) _ _ false rest (by rw [Nat.pow_succ] at h1; omega) (by rw [e2]; exact h2) (.inr (by omega)), e2]
   · rw [if_neg hn]
     simp only [List.singleton_append, takeN, ofNat_toNat (show n < 256 by omega)]
     rw [if_pos (by omega), if_neg]
     rintro (h | ⟨h, h'⟩)
     · omega
     · rcases h3 with h3 | h3
       · rw [h3] at h; cases h
       · omega
def Small40 (n : Int) : Prop := 0 ≤ n ∧ n ≤ 1099511627776
theorem take_putV {n : Int} (h : Small40 n) (rest : Str) : takeT (putV n ++ rest) = (n, rest, true) := by
 unfold putV takeT
 rw [if_neg (by have := h.1; have := h.2; omega)]
 obtain ⟨h1, h2⟩ := h
 rw [take_putN 5 n.toNat 0 1 true rest (by have : (128 : Nat) ^ (5 + 1) = 4398046511104 := rfl; omega) (by omega) (.inl rfl)]
 have : ((0 + n.toNat * 1 : Nat) : Int) = n := by omega
 rw [this]
def flatP (l : List Int) : Str := l.flatMap putV
theorem packL_flat : ∀ (l : List Int) (s : Str), (∀ n ∈ l, Small40 n) → packL l s = (s ++ flatP l, 0)
 | [], s, _ => by simp [packL, flatP]
 | n :: l, s, h => by
   obtain ⟨h1, h2⟩ := h n List.mem_cons_self
   unfold packL
   have : putV n ≠ [] := by unfold putV; rw [if_neg (by omega)]; exact putN_ne 5 _
   rw [if_neg this, packL_flat l _ fun m hm => h m (List.mem_cons_of_mem _ hm)]
   simp [flatP]
theorem flatP_len : ∀ (l : List Int), (∀ n ∈ l, Small40 n) → l.length ≤ (flatP l).length
 | [], _ => Nat.zero_le _
 | n :: l, h => by
   obtain ⟨h1, h2⟩ := h n List.mem_cons_self
   have h3 := flatP_len l fun m hm => h m (List.mem_cons_of_mem _ hm)
   have : putV n ≠ [] := by unfold putV; rw [if_neg (by omega)]; exact putN_ne 5 _
   have : 0 < (putV n).length := List.length_pos_iff.2 this
   simp only [flatP, List.flatMap_cons, List.length_append, List.length_cons] at h3 ⊢
   omega
theorem unpackL_flat : ∀ (l : List Int) (rest : Str) (acc : List Int), (∀ n ∈ l, Small40 n) → unpackL l.length (flatP l ++ rest) acc = (acc ++ l, rest, 0)
 | [], rest, acc, _ => by simp [unpackL, flatP]
 | n :: l, rest, acc, h => by
   have e : flatP (n :: l) ++ rest = putV n ++ (flatP l ++ rest) := by simp [flatP]
   simp only [List.length_cons, unpackL, e, take_putV (h n List.mem_cons_self)]
   rw [if_neg (by simp), unpackL_flat l rest _ fun m hm => h m (List.mem_cons_of_mem _ hm)]
   simp
theorem unpack_pack {l : List Int} (hl : ∀ n ∈ l, Small40 n) (hn : l.length ≤ 1099511627776) (rest : Str) : unpackT ((packT l).1 ++ rest) = (l, rest, 0) := by
 have hf := flatP_len l hl
 have e : (packT l).1 ++ rest = putV l.length ++ (flatP l ++ rest) := by unfold packT; rw [packL_flat l _ hl]; simp
 unfold unpackT
 rw [e, take_putV ⟨by omega, by omega⟩]
 simp only
 rw [if_neg (by simp; omega), Int.toNat_natCast, unpackL_flat l rest [] hl]
 simp
theorem mv_mov {l : List Int} (h : l.all vr = true) : mvT (movT 1 l) = l := by
 unfold mvT movT
 rw [List.map_map]
 conv => rhs; rw [← List.map_id l]
 refine List.map_congr_left fun n hn => ?_
 have := vr_range h n hn
 show w64 (w64 (n + 1) - 1) = n
 rw [w64_id (n := n + 1) (by omega) (by omega), w64_id (by omega) (by omega)]; omega
theorem dec_enc {r : Record} {data : Str} (h : rightT r = true) (hd : data.length ≤ 16) : decT (encT r data).1 data = (r, 0) := by
 obtain ⟨k0, k1, k2, k3, k4, k5, k6, k7⟩ := rightT_len h
 have hk : ∀ n ∈ r.keys, Small40 n := fun n hn => by have := keysT_range k7 n hn; exact ⟨by omega, by omega⟩
 have hv : ∀ n ∈ movT 1 r.values, Small40 n := fun n hn => by
  unfold movT at hn
  obtain ⟨m, hm, rfl⟩ := List.mem_map.1 hn
  have := vr_range k6 m hm
  rw [w64_id (by omega) (by omega)]; exact ⟨by omega, by omega⟩
 have hh : ∀ n ∈ [r.kind, r.seq], Small40 n := fun n hn => by
  simp only [List.mem_cons, List.not_mem_nil, or_false] at hn
  rcases hn with rfl | rfl
  · exact ⟨by omega, by omega⟩
  · exact ⟨k3, k4⟩
 have hml : (movT 1 r.values).length = r.values.length := by simp [movT]
 have hE : encT r data = (bodyT r ++ bytes4 (crcT (bodyT r ++ data)), 0) := by
  unfold encT
  rw [if_neg]
  rintro (h1 | h1)
  · rw [h] at h1; cases h1
  · omega
 generalize hX : bytes4 (crcT (bodyT r ++ data)) = X at hE
 have u1 : unpackT (encT r data).1 = ([r.kind, r.seq], (packT r.keys).1 ++ ((packT (movT 1 r.values)).1 ++ X), 0) := by
  rw [hE]
  unfold bodyT
  simp only [List.append_assoc]
  exact unpack_pack hh (by simp) _
 have u2 : unpackT ((packT r.keys).1 ++ ((packT (movT 1 r.values)).1 ++ X)) = (r.keys, (packT (movT 1 r.values)).1 ++ X, 0) := unpack_pack hk (by omega) _
 have u3 : unpackT ((packT (movT 1 r.values)).1 ++ X) = (movT 1 r.values, X, 0) := unpack_pack hv (by omega) _
 have hr : (⟨r.kind, r.seq, r.keys, mvT (movT 1 r.values)⟩ : Record) = r := by rw [mv_mov k6]
 unfold decT
 rw [u1]
 simp only
 rw [u2]
 simp only
 rw [u3]
 simp only [List.length_cons, List.length_nil]
 rw [if_neg (by simp)]
 have e0 : [r.kind, r.seq].getD 0 0 = r.kind := rfl
 have e1 : [r.kind, r.seq].getD 1 0 = r.seq := rfl
 rw [e0, e1, hr, if_neg]
 rw [hE]
 simp
theorem look_right {p : Page} (h : (lookT p).1 = 1) : rightT (lookT p).2 = true := by
 unfold lookT at h ⊢
 split at h
 · simp at h
 · rename_i h1
   rw [if_neg h1]
   split at h
   · simp at h
   · rename_i h2
     rw [if_neg h2]
     simp only [ne_eq, Decidable.not_not] at h2
     simp only
     unfold decT at h2 ⊢
     split at h2
     · simp at h2
     · rename_i h3
       rw [if_neg h3]
       split at h2
       · simp at h2
       · rename_i h4
         rw [if_neg h4]
         simp only
         generalize hR : (⟨(unpackT p.tag).1.getD 0 0, (unpackT p.tag).1.getD 1 0, (unpackT (unpackT p.tag).2.1).1, mvT (unpackT (unpackT (unpackT p.tag).2.1).2.1).1⟩ : Record) = R at h4
         cases hr : rightT R with
         | true => rfl
         | false =>
           exfalso
           apply h4
           left
           unfold encT
           rw [if_pos (.inl hr)]; simp
def vv (b p : Nat) (pg : Page) : List Found := if (lookT pg).1 = 1 ∧ 0 ≤ placeT b p then [⟨placeT b p, (lookT pg).2⟩] else []
def vp (b : Nat) : Nat → List Page → List Found
 | _, [] => []
 | p, pg :: l => vv b p pg ++ vp b (p + 1) l
def vb : Nat → List Block → List Found
 | _, [] => []
 | b, x :: l => vp b 0 x.pages ++ vb (b + 1) l
theorem pagesT_fold (b : Nat) : ∀ (l : List Page) (p : Nat) (out : List Found), pagesT b p l out = (vp b p l).foldl insT out
 | [], p, out => rfl
 | pg :: l, p, out => by
   unfold pagesT vp vv
   rw [pagesT_fold b l (p + 1), List.foldl_append]
   split <;> rfl
theorem blocksT_fold : ∀ (l : List Block) (b : Nat) (out : List Found), blocksT b l out = (vb b l).foldl insT out
 | [], b, out => rfl
 | x :: l, b, out => by
   unfold blocksT vb
   rw [blocksT_fold l (b + 1), List.foldl_append, pagesT_fold]
theorem fold_mem : ∀ (B l : List Found) (y : Found), y ∈ B.foldl insT l ↔ y ∈ l ∨ y ∈ B
 | [], l, y => by simp
 | b :: B, l, y => by
   have hi : ∀ (l : List Found) (x : Found), y ∈ insT l x ↔ y = x ∨ y ∈ l := by
    intro l x
    induction l with
    | nil => simp [insT]
    | cons z l ih =>
      unfold insT
      split
      · simp
      · simp only [List.mem_cons, ih]
        constructor
        · rintro (h | h | h)
          · exact .inr (.inl h)
          · exact .inl h
          · exact .inr (.inr h)
        · rintro (h | h | h)
          · exact .inr (.inl h)
          · exact .inl h
          · exact .inr (.inr h)
   simp only [List.foldl_cons, fold_mem B, hi, List.mem_cons]
   constructor
   · rintro ((h | h) | h)
     · exact .inr (.inl h)
     · exact .inl h
     · exact .inr (.inr h)
   · rintro (h | h | h)
     · exact .inl (.inr h)
     · exact .inl (.inl h)
     · exact .inr h
end Clk
namespace Clk
open Go
set_option linter.unusedVariables false
end Clk
namespace Clk
open Go
set_option linter.unusedVariables false
theorem s_pack_finish (n : Int) (r : Str) (ok : Bool) : S_pack_finish (n, r, ok) = some (if ok = false ∨ 1099511627776 < n then (0, [], false) else (n, r, true)) := by
 show G_pack_finish n r ok = _
 unfold G_pack_finish
 cases ok with
 | false => simp
 | true =>
   by_cases h : 1099511627776 < n
   · rw [decide_eq_true h, if_pos (.inr h)]; rfl
   · rw [decide_eq_false h, if_neg (by simp; omega)]; rfl
theorem andNot_all : (List.range 256).map (fun c : Nat => w64 (bAndNot .i64 (w64 (c : Int)) 128)) = (List.range 256).map (fun c : Nat => ((c % 128 : Nat) : Int)) := by kernel_rfl
theorem pow_all : (List.range 6).map (fun k : Nat => (w64 (7 * (k : Int)), (2 : Int) ^ (min (Int.toNat (w64 (7 * (k : Int)))) 64))) = (List.range 6).map (fun k : Nat => (((7 * k : Nat) : Int), ((128 ^ k : Nat) : Int))) := by kernel_rfl
theorem andNot128 {c : Nat} (h : c < 256) : w64 (bAndNot .i64 (w64 (c : Int)) 128) = ((c % 128 : Nat) : Int) := by
 have := congrArg (fun l => l[c]?) andNot_all
 simpa only [List.getElem?_map, List.getElem?_range h, Option.map_some, Option.some.injEq] using this
theorem pow7 {k : Nat} (h : k < 6) : w64 (7 * (k : Int)) = ((7 * k : Nat) : Int) ∧ (2 : Int) ^ (min (Int.toNat (w64 (7 * (k : Int)))) 64) = ((128 ^ k : Nat) : Int) := by
 have := congrArg (fun l => l[k]?) pow_all
 simp only [List.getElem?_map, List.getElem?_range h, Option.map_some, Option.some.injEq, Prod.mk.injEq] at this
 exact this
theorem or_add {n m k : Nat} (h : n < 128 ^ k) : n ||| m * 128 ^ k = n + m * 128 ^ k := by
 have e : 128 ^ k = 2 ^ (7 * k) := by rw [Nat.pow_mul]
 rw [e] at h ⊢
 have := Nat.two_pow_add_eq_or_of_lt h m
 rw [Nat.or_comm, Nat.mul_comm m, ← this]; omega
theorem pack_Take_L1 {s : Str} (hs : s.length < 4294967296) : ∀ (f N : Nat) (l : Str) (n k : Nat) (i cnt : Int), s.drop k = l → i = k → cnt = min (s.length : Int) 6 → k + f = 6 → n < 128 ^ k → f < N → iterF F_pack_Take_L1 N (s, n, cnt, i) = some (takeN f (k == 0) n (128 ^ k) l)
 | f, 0, _, _, _, _, _, _, _, _, _, _, h => by omega
 | 0, N + 1, l, n, k, i, cnt, h1, h2, hc, h3, h4, h6 => by
   rw [iterF_succ, F_pack_Take_L1_eq]
   unfold G_pack_Take_L1
   simp only [takeN]
   rw [decide_eq_false (show ¬ i < cnt by omega), cond_false]
 | f + 1, N + 1, [], n, k, i, cnt, h1, h2, hc, h3, h4, h6 => by
   have := drop_nil h1
   rw [iterF_succ, F_pack_Take_L1_eq]
   unfold G_pack_Take_L1
   simp only [takeN]
   rw [decide_eq_false (show ¬ i < cnt by omega), cond_false]
 | f + 1, N + 1, c :: l, n, k, i, cnt, h1, h2, hcn, h3, h4, h6 => by
   obtain ⟨g1, g2, g3⟩ := drop_cons h1
   subst h2
   have hc := u8_lt c
   have hu : 128 ^ k ≤ 34359738368 := Nat.le_trans (Nat.pow_le_pow_right (by omega) (show k ≤ 5 by omega)) (by decide)
   have hu0 : 0 < 128 ^ k := Nat.pow_pos (by omega)
   have hm2 : c.toNat % 128 * 128 ^ k ≤ 127 * 128 ^ k := Nat.mul_le_mul (by omega) (Nat.le_refl _)
   obtain ⟨p1, p2⟩ := pow7 (show k < 6 by omega)
   have hor : w64 (bOr .i64 (n : Int) (w64 ((w64 (bAndNot .i64 (w64 (c.toNat : Int)) 128)) * 2 ^ (min (Int.toNat (w64 (7 * (k : Int)))) 64)))) = ((n + c.toNat % 128 * 128 ^ k : Nat) : Int) := by
    rw [andNot128 hc, p2]
    have e2 : ((c.toNat % 128 : Nat) : Int) * ((128 ^ k : Nat) : Int) = ((c.toNat % 128 * 128 ^ k : Nat) : Int) := by push_cast; rfl
    rw [e2, w64_id (n := ((c.toNat % 128 * 128 ^ k : Nat) : Int)) (by omega) (by omega), bOr_nat (k := .i64) (show n < 2 ^ 64 by omega) (show c.toNat % 128 * 128 ^ k < 2 ^ 64 by omega), or_add h4, w64_id (by omega) (by omega)]
   rw [iterF_succ, F_pack_Take_L1_eq]
   unfold G_pack_Take_L1
   simp only [Int.toNat_natCast, g2, takeN]
   rw [decide_eq_true (show (k : Int) < cnt by omega), decide_eq_true (show (k : Int) < s.length by omega), decide_eq_true (show (0 : Int) ≤ k by omega), p1, decide_eq_true (show (0 : Int) ≤ ((7 * k : Nat) : Int) by omega)]
   rw [p1] at hor
   simp only [Int.toNat_natCast] at hor ⊢
   rw [hor, w64_id (n := (c.toNat : Int)) (by omega) (by omega), w64_id (n := (k : Int) + 1) (by omega) (by omega)]
   simp only [cond_true, s_pack_finish, some_bind']
   have e4 : Int.toNat ((k : Int) + 1) = k + 1 := by omega
   by_cases h7 : c.toNat < 128
   · have e3 : c.toNat % 128 = c.toNat := Nat.mod_eq_of_lt h7
     rw [decide_eq_true (show (c.toNat : Int) < 128 by omega), cond_true, if_pos h7, decide_eq_true (show (0 : Int) ≤ (k : Int) + 1 by omega), decide_eq_true (show (k : Int) + 1 ≤ s.length by omega), e4, g3, e3]
     simp only [cond_true]
     by_cases h9 : k = 0
     · subst h9
       rw [decide_eq_true (show ((0 : Nat) : Int) = 0 from rfl), cond_true]
       by_cases h8 : 1099511627776 < n + c.toNat * 128 ^ 0
       · rw [if_pos (.inr (by omega)), if_pos (.inl h8)]
       · rw [if_neg (by simp; omega), if_neg (by simp; omega)]
     · rw [decide_eq_false (show ¬ (k : Int) = 0 by omega), cond_false]
       by_cases h8 : 1099511627776 < n + c.toNat * 128 ^ k
       · rw [if_pos (.inr (by omega)), if_pos (.inl h8)]
       · by_cases h10 : c.toNat = 0
         · rw [if_pos (.inl (by simp; omega)), if_pos (.inr ⟨by simpa using h9, h10⟩)]
         · rw [if_neg (by rintro (h | h); simp at h; omega; omega), if_neg (by rintro (h | ⟨_, h⟩); exact h8 h; exact h10 h)]
   · rw [decide_eq_false (show ¬ (c.toNat : Int) < 128 by omega), cond_false, if_neg h7]
     have hn2 : n + c.toNat % 128 * 128 ^ k < 128 ^ (k + 1) := by rw [Nat.pow_succ]; omega
     have := pack_Take_L1 hs f N l (n + c.toNat % 128 * 128 ^ k) (k + 1) ((k : Int) + 1) cnt g3 (by omega) hcn (by omega) hn2 (by omega)
     rw [this, Nat.pow_succ]
     rfl
theorem s_pack_Take {s : Str} (hs : s.length < 4294967296) : S_pack_Take s = some (takeT s) := by
 refine lim_eq 7 fun N hN => ?_
 exact pack_Take_L1 hs 6 N s 0 0 0 _ rfl rfl rfl (by omega) (by omega) (by omega)
theorem pack_Unpack_L1 {n : Int} (hn : n < 4294967296) : ∀ (m N k : Nat) (i : Int) (s : Str) (acc : List Int), (k : Int) + m = n → i = k → s.length < 4294967296 → acc.length = k → m < N → iterF F_pack_Unpack_L1 N (s, n, i, acc) = some (unpackL m s acc)
 | m, 0, _, _, _, _, _, _, _, _, h => by omega
 | 0, N + 1, k, i, s, acc, h1, h2, h3, h4, h5 => by
   rw [iterF_succ, F_pack_Unpack_L1_eq]
   unfold G_pack_Unpack_L1
   simp only [unpackL]
   rw [decide_eq_false (by omega)]; rfl
 | m + 1, N + 1, k, i, s, acc, h1, h2, h3, h4, h5 => by
   rw [iterF_succ, F_pack_Unpack_L1_eq]
   unfold G_pack_Unpack_L1
   simp only [unpackL, s_pack_Take h3, some_bind']
   rw [decide_eq_true (show i < n by omega), cond_true]
   have hl := takeT_len s
   cases hb : (takeT s).2.2 with
   | false => rfl
   | true =>
     rw [if_neg (by simp), Bool.not_true, cond_false]
     rw [decide_eq_true (by simp; omega), cond_true, decide_eq_true (by simp; omega), cond_true]
     exact pack_Unpack_L1 hn m N (k + 1) _ _ _ (by omega) (by rw [w64_id (by omega) (by omega)]; omega) (by omega) (by simp; omega) (by omega)
theorem s_pack_Unpack {s : Str} (hs : s.length < 4294967296) : S_pack_Unpack s = some (unpackT s) := by
 refine lim_eq (s.length + 1) fun N hN => ?_
 show G_pack_Unpack N s = _
 unfold G_pack_Unpack unpackT
 simp only [s_pack_Take hs, some_bind']
 have hl := takeT_len s
 have hn := takeT_nn s
 cases hb : (takeT s).2.2 with
 | false => rfl
 | true =>
   rw [Bool.not_true, cond_false]
   by_cases h1 : ((takeT s).2.1.length : Int) < (takeT s).1
   · rw [decide_eq_true h1, cond_true, if_pos (.inr h1)]
   · rw [decide_eq_false h1, cond_false, if_neg (by simp; omega)]
     exact pack_Unpack_L1 (by omega) _ N 0 0 _ _ (by omega) rfl (by omega) rfl (by omega)
def tagOk (s : Str) : Prop := (unpackT s).2.2 = 0 → (unpackT s).1.length = 2 → (unpackT (unpackT s).2.1).2.2 = 0
theorem s_tag_read {s : Str} (hs : s.length < 4294967296) (ht : tagOk s) : S_tag_read s = some (if (unpackT s).2.2 ≠ 0 ∨ (unpackT s).1.length ≠ 2 ∨ (unpackT (unpackT (unpackT s).2.1).2.1).2.2 ≠ 0 then (zRec, 30) else (⟨(unpackT s).1.getD 0 0, (unpackT s).1.getD 1 0, (unpackT (unpackT s).2.1).1, movT (-1) (unpackT (unpackT (unpackT s).2.1).2.1).1⟩, 0)) := by
 have q1 := unpackT_len s
 have q2 := unpackT_len (unpackT s).2.1
 have q3 := unpackT_len (unpackT (unpackT s).2.1).2.1
 unfold tagOk at ht
 show readF S_pack_Unpack (fun l => S_tag_moved (l, -1)) s = _
 unfold readF
 simp only [s_pack_Unpack hs]
 by_cases c1 : (unpackT s).2.2 = 0
 · rw [decide_eq_true c1, cond_true]
   by_cases c2 : (unpackT s).1.length = 2
   · rw [decide_eq_true c2, cond_true]
     simp only [s_pack_Unpack (show (unpackT s).2.1.length < 4294967296 by omega)]
     rw [decide_eq_true (ht c1 c2), cond_true]
     simp only [s_pack_Unpack (show (unpackT (unpackT s).2.1).2.1.length < 4294967296 by omega)]
     by_cases c3 : (unpackT (unpackT (unpackT s).2.1).2.1).2.2 = 0
     · rw [decide_eq_true c3, cond_true, if_neg (by simp [c1, c2, c3])]
       simp only [s_tag_moved (show (unpackT (unpackT (unpackT s).2.1).2.1).1.length < 4294967296 by omega)]
     · rw [decide_eq_false c3, cond_false, if_pos (.inr (.inr c3))]; rfl
   · rw [decide_eq_false c2, cond_false, if_pos (.inr (.inl c2))]; rfl
 · rw [decide_eq_false c1, cond_false, if_pos (.inl c1)]; rfl
theorem mv_mov1 (l : List Int) : movT (-1) l = mvT l := by unfold movT mvT; rfl
theorem s_tag_Decode {tag data : Str} (ht : tag.length < 4294967296) (hd : data.length < 4294967296) (hk : tagOk tag) : S_tag_Decode (tag, data) = some (decT tag data) := by
 have q1 := unpackT_len tag
 have q2 := unpackT_len (unpackT tag).2.1
 have q3 := unpackT_len (unpackT (unpackT tag).2.1).2.1
 show G_tag_Decode tag data = _
 unfold G_tag_Decode
 rw [s_tag_read ht hk, some_bind']
 unfold decT
 have hk' := hk
 unfold tagOk at hk'
 split
 · rename_i h
   rw [decide_eq_false (by decide), Bool.not_false, cond_true, if_pos (by
    rcases h with h | h | h
    · exact .inl h
    · exact .inr (.inr (.inr h))
    · exact .inr (.inr (.inl h)))]
   rfl
 · rename_i h
   simp only [not_or, Decidable.not_not] at h
   obtain ⟨c1, c2, c3⟩ := h
   rw [decide_eq_true rfl, Bool.not_true, cond_false, if_neg (by simp [c1, c2, c3, hk' c1 c2])]
   simp only
   rw [mv_mov1, s_tag_Encode ⟨by show (unpackT (unpackT tag).2.1).1.length < _; omega, by show (mvT _).length < _; unfold mvT; rw [List.length_map]; omega⟩ hd, some_bind']
   generalize ({ kind := _, seq := _, keys := _, values := _ } : Record) = r
   by_cases e1 : (encT r data).2 = 0
   · rw [decide_eq_true e1, Bool.not_true, cond_false]
     by_cases e2 : (encT r data).1 = tag
     · rw [decide_eq_true e2, Bool.not_true, cond_false, if_neg (by simp [e1, e2])]
     · rw [decide_eq_false e2, Bool.not_false, cond_true, if_pos (.inr e2)]; rfl
   · rw [decide_eq_false e1, Bool.not_false, cond_true, if_pos (.inl e1)]; rfl
theorem s_look_Look {p : Page} (h : PageOk p) (hk : tagOk p.tag) : S_look_Look p = some (lookT p) := by
 show G_look_Look p = _
 unfold G_look_Look lookT
 cases p.written with
 | false => rfl
 | true =>
   rw [Bool.not_true, cond_false, s_tag_Decode h.1 h.2 hk, some_bind', if_neg (by simp)]
   by_cases c : (decT p.tag p.data).2 = 0
   · rw [decide_eq_true c, cond_true, if_neg (by simp [c])]
   · rw [decide_eq_false c, cond_false, if_pos c]; rfl
end Clk
namespace Clk
open Go
set_option linter.unusedVariables false
def TagsOk (c : Chip) : Prop := ∀ b ∈ c.blocks, ∀ p ∈ b.pages, tagOk p.tag
theorem insF_eq : ∀ (l : List Found) (f : Found), insF l f = insT l f
 | [], f => rfl
 | x :: l, f => by
   unfold insF insT
   rw [insF_eq l f]
   rfl
theorem sortF_eq (l : List Found) : sortF l = l.foldl insT [] := by
 unfold sortF
 rw [show insF = insT from funext fun l => funext fun f => insF_eq l f]
theorem vv_place {b p : Nat} {pg : Page} {f : Found} (h : f ∈ vv b p pg) : f.place = 16 * (b : Int) + p ∧ p < 16 ∧ b < 32 := by
 unfold vv at h
 split at h
 · rename_i hc
   obtain ⟨h1, h2⟩ := place_nn hc.2
   simp at h
   subst h
   refine ⟨?_, h2, h1⟩
   show placeT b p = _
   unfold placeT
   rw [if_neg (by omega)]
   omega
 · cases h
theorem vp_place {b : Nat} : ∀ {l : List Page} {p : Nat} {f : Found}, f ∈ vp b p l → ∃ q : Nat, p ≤ q ∧ q < 16 ∧ b < 32 ∧ f.place = 16 * (b : Int) + q
 | [], p, f, h => by simp [vp] at h
 | pg :: l, p, f, h => by
   unfold vp at h
   rcases List.mem_append.1 h with h | h
   · obtain ⟨h1, h2, h3⟩ := vv_place h
     exact ⟨p, Nat.le_refl _, h2, h3, h1⟩
   · obtain ⟨q, h1, h2⟩ := vp_place h
     exact ⟨q, by omega, h2⟩
theorem vb_place : ∀ {l : List Block} {b : Nat} {f : Found}, f ∈ vb b l → ∃ c q : Nat, b ≤ c ∧ q < 16 ∧ f.place = 16 * (c : Int) + q
 | [], b, f, h => by simp [vb] at h
 | x :: l, b, f, h => by
   unfold vb at h
   rcases List.mem_append.1 h with h | h
   · obtain ⟨q, _, h2, _, h3⟩ := vp_place h
     exact ⟨b, q, Nat.le_refl _, h2, h3⟩
   · obtain ⟨c, q, h1, h2⟩ := vb_place h
     exact ⟨c, q, by omega, h2⟩
theorem vv_pair (b p : Nat) (pg : Page) : (vv b p pg).Pairwise (fun x y => x.place < y.place) := by
 unfold vv; split <;> simp
theorem vp_pair (b : Nat) : ∀ (l : List Page) (p : Nat), (vp b p l).Pairwise (fun x y => x.place < y.place)
 | [], p => by simp [vp]
 | pg :: l, p => by
   unfold vp
   refine List.pairwise_append.2 ⟨vv_pair b p pg, vp_pair b l (p + 1), fun x hx y hy => ?_⟩
   obtain ⟨h1, _, _⟩ := vv_place hx
   obtain ⟨q, h2, _, _, h3⟩ := vp_place hy
   omega
theorem vb_pair : ∀ (l : List Block) (b : Nat), (vb b l).Pairwise (fun x y => x.place < y.place)
 | [], b => by simp [vb]
 | x :: l, b => by
   unfold vb
   refine List.pairwise_append.2 ⟨vp_pair b _ 0, vb_pair l (b + 1), fun x hx y hy => ?_⟩
   obtain ⟨q, _, h1, _, h2⟩ := vp_place hx
   obtain ⟨c, r, h3, _, h4⟩ := vb_place hy
   omega
theorem dist_pair : ∀ {l : List Found}, l.Pairwise (fun x y => x.place < y.place) → distF l = true
 | [], _ => rfl
 | x :: l, h => by
   rw [List.pairwise_cons] at h
   unfold distF
   rw [Bool.and_eq_true]
   refine ⟨List.all_eq_true.2 fun y hy => ?_, dist_pair h.2⟩
   have := h.1 y hy
   simp only [Bool.not_eq_true', decide_eq_false_iff_not, Prod.mk.injEq]
   omega
theorem vv_len (b p : Nat) (pg : Page) : (vv b p pg).length ≤ 1 := by unfold vv; split <;> simp
theorem pAll_L2 {M : List Block × Int × Int × List Found → Option (List Found)} {bs : List Block} {n : Int} {b : Nat} {pgs : List Page} (hs : pgs.length < 4294967296) (hb : b < 4294967296) (hp : ∀ p ∈ pgs, PageOk p) (ht : ∀ p ∈ pgs, tagOk p.tag) : ∀ (l : List Page) (N p : Nat) (i : Int) (out : List Found), pgs.drop p = l → i = p → out.length ≤ min (16 * b + min p 16) 512 → l.length < N →
 iterF (F_scan_All_L2 M) N ((b : Int), bs, n, (b : Int), pgs, (pgs.length : Int), i, out) = M (bs, n, ((b + 1 : Nat) : Int), out ++ vp b p l)
 | l, 0, _, _, _, _, _, _, h => by omega
 | [], N + 1, p, i, out, h1, h2, h3, _ => by
   have h4 := drop_nil h1
   rw [iterF_succ, F_scan_All_L2_eq]
   unfold G_scan_All_L2
   simp only [vp, List.append_nil]
   rw [decide_eq_false (by omega), cond_false, w64_id (by omega) (by omega)]
   rfl
 | pg :: l, N + 1, p, i, out, h1, h2, h3, h5 => by
   obtain ⟨g1, g2, g3⟩ := drop_cons h1
   subst h2
   have hmem : pg ∈ pgs := by rw [← g2 default]; exact getD_mem' g1
   simp at h5
   have hv := vv_len b p pg
   have hv2 : vv b p pg ≠ [] → b < 32 ∧ p < 16 := fun h => by
    cases hvv : vv b p pg with
    | nil => exact absurd hvv h
    | cons f r => have := vv_place (f := f) (by rw [hvv]; simp); omega
   have hlen : (out ++ vv b p pg).length ≤ min (16 * b + min (p + 1) 16) 512 := by
    rw [List.length_append]
    by_cases hvv : vv b p pg = []
    · rw [hvv]; simp; omega
    · have := hv2 hvv; omega
   have ih := pAll_L2 (M := M) (bs := bs) (n := n) hs hb hp ht l N (p + 1) ((p : Int) + 1) (out ++ vv b p pg) g3 (by omega) hlen (by omega)
   rw [iterF_succ, F_scan_All_L2_eq]
   unfold G_scan_All_L2
   simp only [Int.toNat_natCast, g2, vp]
   rw [decide_eq_true (show (p : Int) < (pgs.length : Int) by omega), decide_eq_true (show (0 : Int) ≤ p by omega)]
   simp only [cond_true, s_scan_Place, some_bind']
   rw [w64_id (n := (p : Int) + 1) (by omega) (by omega), s_look_Look (hp pg hmem) (ht pg hmem), some_bind', ← List.append_assoc, ← ih]
   by_cases c1 : 0 ≤ placeT b p
   · rw [decide_eq_true c1, cond_true]
     by_cases c2 : (lookT pg).1 = 1
     · rw [decide_eq_true c2, cond_true]
       have e : vv b p pg = [⟨placeT b p, (lookT pg).2⟩] := by unfold vv; rw [if_pos ⟨c2, c1⟩]
       rw [e] at hlen ⊢
       rw [decide_eq_true (by simp at hlen ⊢; omega), cond_true, decide_eq_true (by simp at hlen ⊢; omega), cond_true]
     · rw [decide_eq_false c2, cond_false]
       have e : vv b p pg = [] := by unfold vv; rw [if_neg (fun h => c2 h.1)]
       rw [e, List.append_nil]
   · rw [decide_eq_false c1, cond_false]
     have e : vv b p pg = [] := by unfold vv; rw [if_neg (fun h => c1 h.2)]
     rw [e, List.append_nil]
theorem vp_len (b : Nat) : ∀ (l : List Page) (p : Nat), (vp b p l).length ≤ 16 - min p 16 ∧ (32 ≤ b → vp b p l = [])
 | [], p => by simp [vp]
 | pg :: l, p => by
   unfold vp
   obtain ⟨h1, h2⟩ := vp_len b l (p + 1)
   have hv := vv_len b p pg
   have hv2 : vv b p pg ≠ [] → b < 32 ∧ p < 16 := fun h => by
    cases hvv : vv b p pg with
    | nil => exact absurd hvv h
    | cons f r => have := vv_place (f := f) (by rw [hvv]; simp); omega
   by_cases hvv : vv b p pg = []
   · rw [hvv]; simp only [List.nil_append]; exact ⟨by omega, h2⟩
   · obtain ⟨h3, h4⟩ := hv2 hvv
     rw [List.length_append]
     exact ⟨by omega, fun h => by omega⟩
theorem pAll_L1 {c : Chip} (hc : ChipOk c) (hp : PagesOk c) (ht : TagsOk c) {M : Nat} (hM : ∀ b ∈ c.blocks, b.pages.length < M) : ∀ (l : List Block) (N b : Nat) (i : Int) (out : List Found), c.blocks.drop b = l → i = b → out.length ≤ min (16 * b) 512 → (out ++ vb b l).Pairwise (fun x y => x.place < y.place) → l.length < N →
 iterF (F_scan_All_L1 M) N (c.blocks, (c.blocks.length : Int), i, out) = some (sortF (out ++ vb b l))
 | l, 0, _, _, _, _, _, _, _, h => by omega
 | [], N + 1, b, i, out, h1, h2, h3, h6, _ => by
   have h4 := drop_nil h1
   rw [iterF_succ, F_scan_All_L1_eq]
   unfold G_scan_All_L1
   simp only [vb, List.append_nil] at h6 ⊢
   rw [decide_eq_false (by omega), cond_false, dist_pair h6, cond_true, decide_eq_true (by omega), cond_true]
 | x :: l, N + 1, b, i, out, h1, h2, h3, h6, h5 => by
   obtain ⟨g1, g2, g3⟩ := drop_cons h1
   subst h2
   have hmem : x ∈ c.blocks := by rw [← g2 default]; exact getD_mem' g1
   have hb := hc.1
   simp at h5
   rw [iterF_succ, F_scan_All_L1_eq]
   unfold G_scan_All_L1
   simp only [Int.toNat_natCast, g2, vb]
   rw [decide_eq_true (show (b : Int) < (c.blocks.length : Int) by omega), decide_eq_true (show (0 : Int) ≤ b by omega)]
   simp only [cond_true]
   rw [pAll_L2 (hc.2 x hmem) (by omega) (fun p h => hp x hmem p h) (fun p h => ht x hmem p h) x.pages M 0 0 out rfl rfl (by omega) (hM x hmem), ← List.append_assoc]
   obtain ⟨k1, k2⟩ := vp_len b x.pages 0
   have hlen : (out ++ vp b 0 x.pages).length ≤ min (16 * (b + 1)) 512 := by
    rw [List.length_append]
    by_cases h32 : 32 ≤ b
    · rw [k2 h32]; simp; omega
    · omega
   exact pAll_L1 hc hp ht hM l N (b + 1) _ _ g3 rfl hlen (by rw [List.append_assoc]; exact h6) (by omega)
theorem exists_bound {α : Type} (f : α → Nat) : ∀ (l : List α), ∃ M, ∀ x ∈ l, f x < M
 | [] => ⟨0, fun _ h => by cases h⟩
 | x :: l => by
   obtain ⟨M, h⟩ := exists_bound f l
   exact ⟨max M (f x + 1), fun y hy => by
    rcases List.mem_cons.1 hy with rfl | hy
    · omega
    · have := h y hy; omega⟩
theorem s_scan_All {c : Chip} (hc : ChipOk c) (hp : PagesOk c) (ht : TagsOk c) : S_scan_All c = some (allT c) := by
 obtain ⟨M, hM⟩ := exists_bound (fun b : Block => b.pages.length) c.blocks
 refine lim_eq (max M (c.blocks.length + 1)) fun N hN => ?_
 show G_scan_All N c = _
 unfold G_scan_All
 have := pAll_L1 hc hp ht (M := N) (fun b hb => by have := hM b hb; omega) c.blocks N 0 0 [] rfl rfl (by simp) (by rw [List.nil_append]; exact vb_pair _ 0) (by omega)
 rw [this, List.nil_append, sortF_eq]
 unfold allT
 rw [blocksT_fold]
end Clk
namespace Clk
open Go
set_option linter.unusedVariables false
def AllP (Q : Page → Prop) (c : Chip) : Prop := ∀ b ∈ c.blocks, ∀ p ∈ b.pages, Q p
theorem clrT_allP {Q : Page → Prop} (hz : Q zPage) (all : Bool) (n : Int) : ∀ (i : Nat) (l : List Page), (∀ p ∈ l, Q p) → ∀ p ∈ clrT all n i l, Q p
 | _, [], _, p, hp => by cases hp
 | i, q :: l, h, p, hp => by
   unfold clrT at hp
   rcases List.mem_cons.1 hp with rfl | hp
   · split
     · exact hz
     · exact h _ List.mem_cons_self
   · exact clrT_allP hz all n (i + 1) l (fun x hx => h x (List.mem_cons_of_mem _ hx)) p hp
theorem eraT_all {Q : Page → Prop} (hz : Q zPage) {c : Chip} (h : AllP Q c) (b : Int) (f : Fate) : AllP Q (eraT c b f).1 := by
 unfold eraT
 split
 · exact h
 · split
   · rename_i hc
     unfold canEra at hc
     simp only [Bool.and_eq_true, decide_eq_true_eq] at hc
     intro x hx
     rcases List.mem_or_eq_of_mem_set hx with h3 | rfl
     · exact h x h3
     · have := h _ (getD_mem' (d := default) (show b.toNat < c.blocks.length by omega))
       unfold eraBlock
       split
       · exact this
       · exact clrT_allP hz _ _ 0 _ this
   · exact h
theorem progT_all {Q : Page → Prop} {c : Chip} (h : AllP Q c) (b p : Int) {page : Page} {f : Fate} (hp : Q ⟨true, page.data, page.tag⟩) (hf : f.kind ≠ 0 → Q ⟨true, f.data, f.tag⟩) : AllP Q (progT c b p page f).1 := by
 unfold progT
 split
 · exact h
 · split
   · rename_i hc
     obtain ⟨h1, h2, _⟩ := canProg_iff.1 hc
     intro x hx
     rcases List.mem_or_eq_of_mem_set hx with h3 | rfl
     · exact h x h3
     · have h4 := h _ (getD_mem' (d := default) (show b.toNat < c.blocks.length by omega))
       unfold newBlock
       intro q hq
       rcases List.mem_or_eq_of_mem_set hq with h5 | rfl
       · exact h4 q h5
       · split
         · exact hp
         · rename_i hk; exact hf hk
   · exact h
theorem newT_all {Q : Page → Prop} (hz : Q zPage) (n p : Int) (bad : List Int) : AllP Q (newT n p bad).1 := by
 unfold newT
 split
 · intro b hb; simp [zChip] at hb
 · rename_i h
   obtain ⟨h1, h2⟩ := newL_ok (n := n) (m := n.toNat) bad (List.replicate n.toNat ⟨List.replicate p.toNat zPage, 0, 0, false⟩) (fun b hb => by
    obtain ⟨_, rfl⟩ := List.mem_replicate.1 hb
    exact ⟨by simp; omega, fun q hq => (List.mem_replicate.1 hq).2⟩) (by simp)
   intro b hb q hq
   rw [(h1 b hb).2 q hq]
   exact hz
theorem tag_nil : tagOk [] := by
 intro h; exact absurd h (by decide)
theorem dec_tag {tag data : Str} {r : Record} (h : decT tag data = (r, 0)) : tagOk tag := by
 intro h1 h2
 unfold decT at h
 split at h
 · cases h
 · rename_i hn
   exact Decidable.byContradiction fun hc => hn (.inr (.inl hc))
theorem enc_tag (r : Record) (data : Str) : tagOk (encT r data).1 := by
 by_cases h : rightT r = false ∨ 16 < data.length
 · have : (encT r data).1 = [] := by unfold encT; rw [if_pos h]
   rw [this]; exact tag_nil
 · simp only [not_or] at h
   exact dec_tag (dec_enc (by simpa using h.1) (by omega))
theorem make_tag (w : Write) : tagOk (makeT w).1.tag := by
 unfold makeT
 split
 · exact tag_nil
 · exact enc_tag _ _
theorem step_tags {l : List Int} {m : Int} {a : Nat} {c : Chip} (h : AllP (fun p => tagOk p.tag) c) : AllP (fun p => tagOk p.tag) (stepC l m a c) := by
 unfold stepC
 simp only
 have h1 : AllP (fun p => tagOk p.tag) (if l.getD a 0 % 29 = 0 then (eraT c (l.getD a 0 % m) zFate).1 else c) := by
  split
  · exact eraT_all tag_nil h _ _
  · exact h
 have hp : tagOk (pgT (l.getD a 0 / 7 % 30) ((l.drop a).take (nextAt l a - a))).tag := make_tag _
 have hf : (if l.getD a 0 % 11 = 0 then (⟨1, [120], (pgT (l.getD a 0 / 7 % 30) ((l.drop a).take (nextAt l a - a))).tag, 0⟩ : Fate) else zFate).kind ≠ 0 → tagOk (if l.getD a 0 % 11 = 0 then (⟨1, [120], (pgT (l.getD a 0 / 7 % 30) ((l.drop a).take (nextAt l a - a))).tag, 0⟩ : Fate) else zFate).tag := by
  split
  · intro _; exact hp
  · intro hk; exact absurd rfl hk
 generalize (if l.getD a 0 % 29 = 0 then (eraT c (l.getD a 0 % m) zFate).1 else c) = c1 at h1
 generalize (if l.getD a 0 % 11 = 0 then (⟨1, [120], (pgT (l.getD a 0 / 7 % 30) ((l.drop a).take (nextAt l a - a))).tag, 0⟩ : Fate) else zFate) = f at hf
 split
 · exact h1
 · exact progT_all h1 _ _ hp hf
theorem chipL_tags {l : List Int} {m : Int} : ∀ (k a : Nat) (c : Chip), AllP (fun p => tagOk p.tag) c → AllP (fun p => tagOk p.tag) (chipL l m k a c)
 | 0, a, c, h => h
 | k + 1, a, c, h => by
   unfold chipL
   split
   · exact chipL_tags k _ _ (step_tags h)
   · exact h
theorem chipT_tags (l : List Int) (b p : Int) : TagsOk (chipT l b p) := chipL_tags 40 0 _ (newT_all tag_nil b p [])
theorem newT_CI2 {b p : Int} (h : 1 ≤ b ∧ b ≤ 32 ∧ 1 ≤ p ∧ p ≤ 16) : CI (newT b p []).1 b := by
 obtain ⟨h1, h2⟩ := newT_ok b p []
 refine ⟨h1, h2, ?_⟩
 unfold newT
 rw [if_neg (by omega), newL_nil]
 simp only [List.length_replicate]
 omega
theorem s_law06_Made2 {l : List Int} (hl : U16 l) (hn : l.length < 9223372036854775808) {b p : Int} (h : 1 ≤ b ∧ b ≤ 32 ∧ 1 ≤ p ∧ p ≤ 16) : S_law06_Made (l, b, p) = some (chipT l b p) := by
 refine lim_eq 41 fun N hN => ?_
 show G_law06_Made N l b p = _
 unfold G_law06_Made chipT
 rw [s_ref05_New (by simp), some_bind']
 exact law06_Made_L1 hl hn (by omega) (by omega) 40 N 0 0 0 _ rfl (by omega) (by omega) (by omega) (newT_CI2 h) (by omega)
theorem chipT_CI {l : List Int} (hl : U16 l) {b p : Int} (h : 1 ≤ b ∧ b ≤ 32 ∧ 1 ≤ p ∧ p ≤ 16) : CI (chipT l b p) b := chipL_ok hl 40 0 _ (newT_CI2 h)
set_option maxRecDepth 100000 in
theorem repeat_all (M : Nat) : (List.range 65).map (fun m : Nat => G_slices_Repeat (M + 8) [-1] (m : Int)) = (List.range 65).map (fun m => some (List.replicate m (-1 : Int))) := by kernel_rfl
theorem s_Repeat {n : Int} (h0 : 0 ≤ n) (h1 : n ≤ 64) : S_slices_Repeat ([-1], n) = some (List.replicate n.toNat (-1)) := by
 refine lim_eq 8 fun N hN => ?_
 obtain ⟨M, rfl⟩ : ∃ M, N = M + 8 := ⟨N - 8, by omega⟩
 have h := congrArg (fun l => l[n.toNat]?) (repeat_all M)
 have hr : n.toNat < 65 := by omega
 simp only [List.getElem?_map, List.getElem?_range hr, Option.map_some, Option.some.injEq] at h
 have e : ((n.toNat : Nat) : Int) = n := by omega
 rw [e] at h
 exact h
theorem s_replay_New (n : Int) : S_replay_New n = some (tabT n) := by
 show G_replay_New n = _
 unfold G_replay_New
 rw [s_Repeat (by omega) (by omega), some_bind', some_bind']
 unfold tabT
 rw [show (min (max n 0) 64).toNat = min n.toNat 64 by omega]
theorem applyT_ok {t : Table} (h : TabOk t) (f : Found) : TabOk (applyT t f) := by
 obtain ⟨h1, h2⟩ := applyT_len t f
 exact ⟨by rw [h1]; exact h.1, by rw [h2]; exact h.2⟩
theorem repL_snd : ∀ (l : List Found) (t u : Table) (s : Int), (repL l t s).2 = (repL l u s).2
 | [], t, u, s => rfl
 | f :: l, t, u, s => by unfold repL; exact repL_snd l _ _ _
theorem repL_fst : ∀ (l : List Found) (t : Table) (s r : Int), (repL l t s).1 = (repL l t r).1
 | [], t, s, r => rfl
 | f :: l, t, s, r => by unfold repL; exact repL_fst l _ _ _
theorem pReplay_L2 {xs : List Found} (hs : xs.length < 4294967296) {u : Table} : ∀ (l : List Found) (N k : Nat) (i s : Int), xs.drop k = l → i = k → l.length < N → iterF (F_replay_Replay_L2 u) N (s, xs, (xs.length : Int), i) = some (u, (repL l u s).2)
 | l, 0, _, _, _, _, _, h => by omega
 | [], N + 1, k, i, s, h1, h2, _ => by
   have := drop_nil h1
   rw [iterF_succ, F_replay_Replay_L2_eq]
   unfold G_replay_Replay_L2
   simp only [repL]
   rw [decide_eq_false (by omega), cond_false]
 | f :: l, N + 1, k, i, s, h1, h2, h4 => by
   obtain ⟨g1, g2, g3⟩ := drop_cons h1
   subst h2
   rw [iterF_succ, F_replay_Replay_L2_eq]
   unfold G_replay_Replay_L2
   simp only [Int.toNat_natCast, g2, repL]
   rw [decide_eq_true (show (k : Int) < xs.length by omega), decide_eq_true (show (0 : Int) ≤ k by omega)]
   simp only [cond_true]
   rw [pReplay_L2 hs l N (k + 1) _ _ g3 (by rw [w64_id (by omega) (by omega)]; omega) (by simp at h4; omega), repL_snd l u (applyT u f)]
theorem pReplay_L1 {xs : List Found} (hs : xs.length < 4294967296) (hf : FoundsOk xs) {M : Nat} (hM : xs.length < M) : ∀ (l : List Found) (N k : Nat) (i : Int) (t : Table), xs.drop k = l → i = k → TabOk t → l.length < N → iterF (F_replay_Replay_L1 M xs) N (xs, (xs.length : Int), i, t) = some ((repL l t 0).1, (repL xs t 0).2)
 | l, 0, _, _, _, _, _, _, h => by omega
 | [], N + 1, k, i, t, h1, h2, h3, _ => by
   have := drop_nil h1
   rw [iterF_succ, F_replay_Replay_L1_eq]
   unfold G_replay_Replay_L1
   dsimp only
   rw [decide_eq_false (by omega), cond_false]
   exact pReplay_L2 hs xs M 0 0 0 rfl rfl hM
 | f :: l, N + 1, k, i, t, h1, h2, h3, h4 => by
   obtain ⟨g1, g2, g3⟩ := drop_cons h1
   subst h2
   have hr : RecOk f.record := by rw [← g2 default]; exact hf _ (getD_mem' g1)
   rw [iterF_succ, F_replay_Replay_L1_eq]
   unfold G_replay_Replay_L1
   simp only [Int.toNat_natCast, g2, s_replay_Apply h3 hr, some_bind']
   rw [decide_eq_true (show (k : Int) < xs.length by omega), decide_eq_true (show (0 : Int) ≤ k by omega)]
   simp only [cond_true]
   rw [pReplay_L1 hs hf hM l N (k + 1) _ _ g3 (by rw [w64_id (by omega) (by omega)]; omega) (applyT_ok h3 f) (by simp at h4; omega)]
   rw [show (repL (f :: l) t 0).1 = (repL l (applyT t f) 0).1 by rw [repL]; exact repL_fst l _ _ _, repL_snd xs (applyT t f) t]
theorem s_replay_Replay {c : Chip} (hc : ChipOk c) (hp : PagesOk c) (ht : TagsOk c) (n : Int) : S_replay_Replay (c, n) = some (replayT c n) := by
 have := allT_len c
 refine lim_eq 4294967297 fun N hN => ?_
 show G_replay_Replay N c n = _
 unfold G_replay_Replay
 rw [s_scan_All hc hp ht, some_bind', s_replay_New, some_bind', pReplay_L1 (xs := allT c) (by omega) (allT_ok hp) (by omega) (allT c) N 0 0 _ rfl rfl (tabT_ok n) (by omega)]
 rfl
end Clk
namespace Clk
open Go
set_option linter.unusedVariables false
def lastK (f : Found) (s : Int) : Nat → List Int → Int × Int → Int × Int
 | _, [], p => p
 | i, k :: l, p => lastK f s (i + 1) l (if k = s then (if f.record.kind = 2 then f.record.values.getD i 0 else f.place, f.place) else p)
def lastF (s : Int) (fs : List Found) (p : Int × Int) : Int × Int := fs.foldl (fun p f => lastK f s 0 f.record.keys p) p
def FitF (f : Found) : Prop := f.record.kind = 1 ∨ f.record.kind = 2 ∧ f.record.keys.length ≤ f.record.values.length
theorem app_get {f : Found} (hf : f.record.kind = 1 ∨ f.record.kind = 2 ∧ f.record.keys.length ≤ f.record.values.length) : ∀ (l : List Int) (i : Nat) (t : Table) (s : Nat), t.map.length = t.by_.length → s < t.map.length → i + l.length ≤ f.record.keys.length → (∀ k ∈ l, 0 ≤ k) →
 ((appL f i l t).map.getD s 0, (appL f i l t).by_.getD s 0) = lastK f s i l (t.map.getD s 0, t.by_.getD s 0)
 | [], i, t, s, _, _, _, _ => rfl
 | k :: l, i, t, s, h1, h2, h3, h4 => by
   obtain ⟨e1, e2⟩ := app1_len f i k t
   have hk0 := h4 k List.mem_cons_self
   simp only [List.length_cons] at h3
   unfold appL lastK
   rw [app_get hf l (i + 1) (app1 f i k t) s (by rw [e1, e2, h1]) (by rw [e1]; exact h2) (by omega) fun x hx => h4 x (List.mem_cons_of_mem _ hx)]
   congr 1
   unfold app1
   by_cases hs : k = s
   · have hkt : k.toNat = s := by omega
     rw [if_pos hs, if_pos ⟨hk0, by omega, by omega⟩, hkt]
     rcases hf with hf | ⟨hf, hv⟩
     · rw [if_pos hf, if_neg (by omega)]
       simp only [getD_set_self h2, getD_set_self (show s < t.by_.length by omega)]
     · rw [if_neg (by omega), if_pos ⟨hf, by omega⟩, if_pos hf]
       simp only [getD_set_self h2, getD_set_self (show s < t.by_.length by omega)]
   · rw [if_neg hs]
     split
     · split
       · simp only [getD_set_ne' (show k.toNat ≠ s by omega)]
       · split
         · simp only [getD_set_ne' (show k.toNat ≠ s by omega)]
         · rfl
     · rfl
theorem appF_get {s : Nat} : ∀ (fs : List Found) (t : Table), (∀ f ∈ fs, FitF f ∧ ∀ k ∈ f.record.keys, 0 ≤ k) → t.map.length = t.by_.length → s < t.map.length →
 ((fs.foldl applyT t).map.getD s 0, (fs.foldl applyT t).by_.getD s 0) = lastF s fs (t.map.getD s 0, t.by_.getD s 0)
 | [], t, _, _, _ => rfl
 | f :: fs, t, h, h1, h2 => by
   obtain ⟨e1, e2⟩ := applyT_len t f
   obtain ⟨g1, g2⟩ := h f List.mem_cons_self
   have := appF_get fs (applyT t f) (fun x hx => h x (List.mem_cons_of_mem _ hx)) (by rw [e1, e2, h1]) (by rw [e1]; exact h2)
   simp only [List.foldl_cons, lastF] at this ⊢
   rw [this]
   congr 1
   exact app_get g1 f.record.keys 0 t s h1 h2 (by omega) g2
theorem lastK_out (f : Found) (s : Int) : ∀ (l : List Int) (i : Nat) (p : Int × Int), s ∉ l → lastK f s i l p = p
 | [], i, p, _ => rfl
 | k :: l, i, p, h => by
   unfold lastK
   rw [if_neg (fun e => h (by rw [e]; exact List.mem_cons_self))]
   exact lastK_out f s l (i + 1) p fun hm => h (List.mem_cons_of_mem _ hm)
theorem lastK_snd (f : Found) (s : Int) : ∀ (l : List Int) (i : Nat) (p : Int × Int), s ∈ l → (lastK f s i l p).2 = f.place
 | [], i, p, h => by cases h
 | k :: l, i, p, h => by
   unfold lastK
   by_cases hl : s ∈ l
   · exact lastK_snd f s l (i + 1) _ hl
   · rcases List.mem_cons.1 h with e | h
     · rw [lastK_out f s l (i + 1) _ hl, if_pos e.symm]
     · exact absurd h hl
def tellsK (s : Int) (f : Found) : Bool := f.record.keys.any fun k => decide (k = s)
theorem tells_mem {s : Int} {f : Found} : tellsK s f = true ↔ s ∈ f.record.keys := by
 unfold tellsK
 rw [List.any_eq_true]
 constructor
 · rintro ⟨k, h1, h2⟩; have := of_decide_eq_true h2; subst this; exact h1
 · intro h; exact ⟨s, h, decide_eq_true rfl⟩
theorem lastF_says (s : Int) : ∀ (fs : List Found) (p : Int × Int), (lastF s fs p = p ∧ fs.any (tellsK s) = false) ∨ ∃ f ∈ fs, tellsK s f = true ∧ (lastF s fs p).2 = f.place
 | [], p => .inl ⟨rfl, rfl⟩
 | f :: fs, p => by
   have e : lastF s (f :: fs) p = lastF s fs (lastK f s 0 f.record.keys p) := rfl
   rw [e]
   rcases lastF_says s fs (lastK f s 0 f.record.keys p) with ⟨h1, h2⟩ | ⟨g, h1, h2, h3⟩
   · cases ht : tellsK s f with
     | true => exact .inr ⟨f, List.mem_cons_self, ht, by rw [h1]; exact lastK_snd f s _ 0 p (tells_mem.1 ht)⟩
     | false =>
       refine .inl ⟨?_, by rw [List.any_cons, ht, h2]; rfl⟩
       rw [h1]
       exact lastK_out f s _ 0 p fun hm => by rw [tells_mem.2 hm] at ht; cases ht
   · exact .inr ⟨g, List.mem_cons_of_mem _ h1, h2, h3⟩
theorem repL_fold : ∀ (l : List Found) (t : Table) (s : Int), (repL l t s).1 = l.foldl applyT t
 | [], t, s => rfl
 | f :: l, t, s => by unfold repL; exact repL_fold l _ _
theorem vv_right {b p : Nat} {pg : Page} {f : Found} (h : f ∈ vv b p pg) : rightT f.record = true := by
 unfold vv at h
 split at h
 · rename_i hc
   simp at h; subst h
   exact look_right hc.1
 · cases h
theorem vp_right (b : Nat) : ∀ (l : List Page) (p : Nat) (f : Found), f ∈ vp b p l → rightT f.record = true
 | [], p, f, h => by simp [vp] at h
 | pg :: l, p, f, h => by
   unfold vp at h
   rcases List.mem_append.1 h with h | h
   · exact vv_right h
   · exact vp_right b l (p + 1) f h
theorem vb_right : ∀ (l : List Block) (b : Nat) (f : Found), f ∈ vb b l → rightT f.record = true
 | [], b, f, h => by simp [vb] at h
 | x :: l, b, f, h => by
   unfold vb at h
   rcases List.mem_append.1 h with h | h
   · exact vp_right b _ 0 f h
   · exact vb_right l (b + 1) f h
theorem allT_mem (c : Chip) (f : Found) : f ∈ allT c ↔ f ∈ vb 0 c.blocks := by
 unfold allT
 rw [blocksT_fold, fold_mem]
 simp
theorem right_fit {r : Record} {p : Int} (h : rightT r = true) : FitF ⟨p, r⟩ ∧ ∀ k ∈ r.keys, 0 ≤ k ∧ k < 64 := by
 obtain ⟨h1, h2, h3, h4, h5, h6, h7, h8⟩ := rightT_len h
 refine ⟨?_, keysT_range h8⟩
 rcases h6 with h6 | h6
 · exact .inl h6
 · refine .inr ⟨h6, ?_⟩
   unfold rightT at h
   simp [h6] at h
   show r.keys.length ≤ r.values.length
   omega
theorem allT_fit (c : Chip) : ∀ f ∈ allT c, FitF f ∧ ∀ k ∈ f.record.keys, 0 ≤ k := fun f hf => by
 have := right_fit (p := f.place) (vb_right _ _ _ ((allT_mem c f).1 hf))
 exact ⟨this.1, fun k hk => (this.2 k hk).1⟩
theorem tabT_get (n : Int) {s : Nat} (hs : s < (tabT n).map.length) : (tabT n).map.getD s 0 = -1 ∧ (tabT n).by_.getD s 0 = -1 := by
 unfold tabT at hs ⊢
 simp only [List.length_replicate] at hs
 have g : ∀ m, s < m → (List.replicate m (-1 : Int)).getD s 0 = -1 := fun m h => by rw [List.getD_eq_getElem?_getD, List.getElem?_eq_getElem (by simpa using h), Option.getD_some, List.getElem_replicate]
 exact ⟨g _ hs, g _ hs⟩
theorem tabT_len (n : Int) : (tabT n).map.length = min n.toNat 64 ∧ (tabT n).by_.length = min n.toNat 64 := by unfold tabT; simp
theorem replay_get (c : Chip) (n : Int) {s : Nat} (hs : s < min n.toNat 64) : ((replayT c n).1.map.getD s 0, (replayT c n).1.by_.getD s 0) = lastF s (allT c) (-1, -1) := by
 obtain ⟨e1, e2⟩ := tabT_len n
 unfold replayT
 rw [repL_fold, appF_get (allT c) (tabT n) (allT_fit c) (by rw [e1, e2]) (by rw [e1]; exact hs)]
 obtain ⟨g1, g2⟩ := tabT_get n (s := s) (by rw [e1]; exact hs)
 rw [g1, g2]
theorem replay_len (c : Chip) (n : Int) : (replayT c n).1.map.length = min n.toNat 64 ∧ (replayT c n).1.by_.length = min n.toNat 64 := by
 obtain ⟨h1, h2⟩ := repL_len (allT c) (tabT n) 0
 obtain ⟨e1, e2⟩ := tabT_len n
 exact ⟨h1.trans e1, h2.trans e2⟩
end Clk
namespace Clk
open Go
set_option linter.unusedVariables false
def zC : Chip := ⟨[], false, false, 0⟩
theorem zC_ok : ChipOk zC ∧ PagesOk zC ∧ TagsOk zC := ⟨⟨by simp [zC], fun b hb => by simp [zC] at hb⟩, fun b hb => by simp [zC] at hb, fun b hb => by simp [zC] at hb⟩
def awake7T : Bool :=
 let t := applyT (tabT 4) ⟨5, ⟨1, 0, [3], []⟩⟩
 let u := applyT t ⟨6, ⟨2, 0, [3], [-1]⟩⟩
 tSameT t ⟨[-1, -1, -1, 5], [-1, -1, -1, 5]⟩ && tSameT u ⟨[-1, -1, -1, -1], [-1, -1, -1, 6]⟩
theorem awake7_ok : awake7T = true := by kernel_rfl
theorem s_law07_awake : S_law07_awake () = some true := by
 have h := awake7_ok
 unfold awake7T at h
 rw [Bool.and_eq_true] at h
 have t0 := tabT_ok 4
 have t1 := applyT_ok t0 ⟨5, ⟨1, 0, [3], []⟩⟩
 have t2 := applyT_ok t1 ⟨6, ⟨2, 0, [3], [-1]⟩⟩
 obtain ⟨z1, z2, z3⟩ := zC_ok
 show G_law07_awake = _
 unfold G_law07_awake
 rw [s_replay_New, some_bind', s_replay_Apply t0 ⟨by simp, by simp⟩, some_bind', s_replay_Apply t1 ⟨by simp, by simp⟩, some_bind', show (Chip.mk [] false false 0) = zC from rfl, s_replay_Replay z1 z2 z3, some_bind', s_ref07_Same t1, some_bind', h.1, cond_true, s_ref07_Same t2, some_bind', h.2, cond_true]
 rw [decide_eq_true (show (replayT zC 4).2 = 0 from rfl)]
theorem Places_L3 {ih0 : Bool × Int × List Found × Int × Bool × Bool × Int × Table → Option Bool} {fs : List Found} (hs : fs.length < 4294967296) {i : Nat} (hi : i < fs.length) {f : Found} (hf : fs.getD i default = f) (hr : RecOk f.record) {ok : Bool} {sec : Int} {s : Nat} {T : Table} (hT : s < T.by_.length) : ∀ (l : List Int) (N k : Nat) (kk : Int) (told says : Bool), f.record.keys.drop k = l → kk = k → l.length < N →
 iterF (F_law07_ReplayPlaces_L3 ih0) N (ok, sec, fs, (s : Int), told, says, (i : Int), kk, T) = ih0 (ok, sec, fs, (s : Int), told || l.any (fun k => decide (k = (s : Int))), says || (l.any (fun k => decide (k = (s : Int))) && decide (f.place = T.by_.getD s 0)), ((i + 1 : Nat) : Int), T)
 | l, 0, _, _, _, _, _, _, h => by omega
 | [], N + 1, k, kk, told, says, h1, h2, _ => by
   have h4 := drop_nil h1
   rw [iterF_succ, F_law07_ReplayPlaces_L3_eq]
   unfold G_law07_ReplayPlaces_L3
   simp only [Int.toNat_natCast, hf, List.any_nil, Bool.or_false, Bool.false_and]
   rw [decide_eq_true (show (0 : Int) ≤ i by omega), decide_eq_true (show (i : Int) < fs.length by omega), decide_eq_false (show ¬ kk < (f.record.keys.length : Int) by omega), w64_id (n := (i : Int) + 1) (by omega) (by omega)]
   rfl
 | x :: l, N + 1, k, kk, told, says, h1, h2, h3 => by
   obtain ⟨g1, g2, g3⟩ := drop_cons h1
   subst h2
   have hk := hr.1
   rw [iterF_succ, F_law07_ReplayPlaces_L3_eq]
   unfold G_law07_ReplayPlaces_L3
   simp only [Int.toNat_natCast, hf, g2]
   rw [decide_eq_true (show (0 : Int) ≤ i by omega), decide_eq_true (show (i : Int) < fs.length by omega), decide_eq_true (show (k : Int) < (f.record.keys.length : Int) by omega), decide_eq_true (show (0 : Int) ≤ k by omega), decide_eq_true (show (0 : Int) ≤ s by omega), decide_eq_true (show (s : Int) < (T.by_.length : Int) by omega)]
   simp only [cond_true]
   rw [w64_id (n := (k : Int) + 1) (by omega) (by omega)]
   simp only [List.any_cons]
   by_cases hx : x = (s : Int)
   · rw [decide_eq_true hx, cond_true, Bool.true_or, Bool.or_true, Bool.true_and]
     cases says with
     | true =>
       rw [cond_true, Places_L3 hs hi hf hr hT l N (k + 1) _ true true g3 (by omega) (by simp at h3; omega)]
       simp
     | false =>
       rw [cond_false, Places_L3 hs hi hf hr hT l N (k + 1) _ true _ g3 (by omega) (by simp at h3; omega)]
       cases decide (f.place = T.by_.getD s 0) <;> simp
   · rw [decide_eq_false hx, cond_false, Bool.false_or, Places_L3 hs hi hf hr hT l N (k + 1) _ told says g3 (by omega) (by simp at h3; omega)]
def saysK (s : Nat) (p : Int) (f : Found) : Bool := tellsK s f && decide (f.place = p)
theorem Places_L2 {ih0 : Bool × Int × List Found × Int × Table → Option Bool} {fs : List Found} (hs : fs.length < 4294967296) (hfs : FoundsOk fs) {M : Nat} (hM : 4294967296 < M) {ok : Bool} {sec : Int} {s : Nat} (hs2 : s < 4294967296) {T : Table} (hT : s < T.by_.length) (hT2 : s < T.map.length)
 (h1 : fs.any (tellsK s) = fs.any (saysK s (T.by_.getD s 0))) (h2 : fs.any (tellsK s) = false → T.map.getD s 0 = -1 ∧ T.by_.getD s 0 = -1) : ∀ (l : List Found) (N i : Nat) (ii : Int) (told says : Bool), fs.drop i = l → ii = i → (told || l.any (tellsK s)) = fs.any (tellsK s) → (says || l.any (saysK s (T.by_.getD s 0))) = fs.any (saysK s (T.by_.getD s 0)) → l.length < N →
 iterF (F_law07_ReplayPlaces_L2 M ih0) N (ok, sec, fs, (s : Int), told, says, ii, T) = ih0 (ok, sec, fs, ((s + 1 : Nat) : Int), T)
 | l, 0, _, _, _, _, _, _, _, _, h => by omega
 | [], N + 1, i, ii, told, says, g1, g2, g3, g4, _ => by
   have h4 := drop_nil g1
   simp only [List.any_nil, Bool.or_false] at g3 g4
   rw [iterF_succ, F_law07_ReplayPlaces_L2_eq]
   unfold G_law07_ReplayPlaces_L2
   simp only [Int.toNat_natCast]
   rw [decide_eq_false (show ¬ ii < (fs.length : Int) by omega), cond_false, g3, g4, ← h1, show (fs.any (tellsK s) == fs.any (tellsK s)) = true by simp, Bool.not_true, cond_false, decide_eq_true (show (0 : Int) ≤ s by omega), decide_eq_true (show (s : Int) < (T.by_.length : Int) by omega), decide_eq_true (show (s : Int) < (T.map.length : Int) by omega), w64_id (by omega) (by omega)]
   simp only [cond_true]
   cases hc : fs.any (tellsK s) with
   | true => rw [Bool.not_true, cond_false]; rfl
   | false =>
     obtain ⟨e1, e2⟩ := h2 hc
     rw [List.getD_eq_getElem?_getD] at e1 e2
     simp [e1, e2]
 | f :: l, N + 1, i, ii, told, says, g1, g2, g3, g4, g5 => by
   obtain ⟨k1, k2, k3⟩ := drop_cons g1
   subst g2
   have hr : RecOk f.record := by rw [← k2 default]; exact hfs _ (getD_mem' k1)
   have hk := hr.1
   rw [iterF_succ, F_law07_ReplayPlaces_L2_eq]
   unfold G_law07_ReplayPlaces_L2
   rw [decide_eq_true (show (i : Int) < (fs.length : Int) by omega), cond_true]
   rw [Places_L3 hs k1 (k2 default) hr hT f.record.keys M 0 0 told says rfl rfl (by omega)]
   refine Places_L2 hs hfs hM hs2 hT hT2 h1 h2 l N (i + 1) _ _ _ k3 rfl ?_ ?_ (by simp at g5; omega)
   · rw [← g3, List.any_cons, Bool.or_assoc]; rfl
   · rw [← g4, List.any_cons, Bool.or_assoc]; rfl
theorem Places_L1 {fs : List Found} (hs : fs.length < 4294967296) (hfs : FoundsOk fs) {M : Nat} (hM : 4294967296 < M) {n : Nat} (hn : n ≤ 64) {T : Table} (hT : T.by_.length = n) (hT2 : T.map.length = n)
 (h1 : ∀ s : Nat, s < n → fs.any (tellsK s) = fs.any (saysK s (T.by_.getD s 0))) (h2 : ∀ s : Nat, s < n → fs.any (tellsK s) = false → T.map.getD s 0 = -1 ∧ T.by_.getD s 0 = -1) : ∀ (m N s : Nat) (si : Int), s + m = n → si = s → m < N →
 iterF (F_law07_ReplayPlaces_L1 M) N (true, (n : Int), fs, si, T) = some true
 | m, 0, _, _, _, _, h => by omega
 | 0, N + 1, s, si, g1, g2, _ => by
   rw [iterF_succ, F_law07_ReplayPlaces_L1_eq]
   unfold G_law07_ReplayPlaces_L1
   dsimp only
   rw [decide_eq_false (by omega), cond_false]
 | m + 1, N + 1, s, si, g1, g2, g3 => by
   subst g2
   rw [iterF_succ, F_law07_ReplayPlaces_L1_eq]
   unfold G_law07_ReplayPlaces_L1
   dsimp only
   rw [decide_eq_true (by omega), cond_true, Places_L2 hs hfs hM (by omega) (by omega) (by omega) (h1 s (by omega)) (h2 s (by omega)) fs M 0 0 false false rfl rfl (by rw [Bool.false_or]) (by rw [Bool.false_or]) (by omega)]
   exact Places_L1 hs hfs hM hn hT hT2 h1 h2 m N (s + 1) _ (by omega) rfl (by omega)
theorem law_ReplayPlaces {l : List Int} {n : Int} (hl : U16 l) (hn : l.length < 9223372036854775808) (h0 : 0 ≤ n ∧ n < 256) : S_law07_ReplayPlaces (l, n) = some true := by
 have hb : (1 : Int) ≤ 4 ∧ (4 : Int) ≤ 32 ∧ (1 : Int) ≤ 5 ∧ (5 : Int) ≤ 16 := by decide
 have hci := chipT_CI hl hb
 have ht := chipT_tags l 4 5
 have e1 : Int.tmod (w64 n) 65 = n % 65 := by rw [w64_id (n := n) (by omega) (by omega), Int.tmod_eq_emod_of_nonneg (by omega)]
 have hl2 := allT_len (chipT l 4 5)
 refine lim_eq 4294967298 fun N hN => ?_
 show G_law07_ReplayPlaces N l n = _
 unfold G_law07_ReplayPlaces
 rw [s_law07_awake, some_bind', Bool.not_true, cond_false, s_law06_Made2 hl hn hb, some_bind', e1, s_replay_Replay hci.ok hci.pages ht, some_bind', s_All hci.ok hci.pages, some_bind']
 generalize chipT l 4 5 = c at *
 obtain ⟨g1, g2⟩ := replay_len c (n % 65)
 have e2 : ((min (n % 65).toNat 64 : Nat) : Int) = n % 65 := by omega
 rw [g1, g2, e2, decide_eq_true rfl, Bool.not_true, cond_false, cond_false]
 have key : ∀ s : Nat, s < min (n % 65).toNat 64 → ((allT c).any (tellsK s) = (allT c).any (saysK s ((replayT c (n % 65)).1.by_.getD s 0))) ∧ ((allT c).any (tellsK s) = false → (replayT c (n % 65)).1.map.getD s 0 = -1 ∧ (replayT c (n % 65)).1.by_.getD s 0 = -1) := by
  intro s hs
  have hg := replay_get c (n % 65) hs
  rcases lastF_says (s : Int) (allT c) (-1, -1) with ⟨k1, k2⟩ | ⟨f, k1, k2, k3⟩
  · rw [k1] at hg
    injection hg with hg1 hg2
    refine ⟨?_, fun _ => ⟨hg1, hg2⟩⟩
    rw [k2, eq_comm, List.any_eq_false]
    intro f hf
    unfold saysK
    rw [List.any_eq_false] at k2
    have := k2 f hf
    simp only [Bool.not_eq_true] at this
    rw [this]; simp
  · have a1 : (allT c).any (tellsK s) = true := List.any_eq_true.2 ⟨f, k1, k2⟩
    refine ⟨?_, fun h => by rw [a1] at h; cases h⟩
    rw [a1, eq_comm, List.any_eq_true]
    refine ⟨f, k1, ?_⟩
    unfold saysK
    rw [k2, Bool.true_and]
    have hg2 := congrArg Prod.snd hg
    simp only at hg2
    rw [hg2, k3, decide_eq_true rfl]
 have := Places_L1 (fs := allT c) (by omega) (allT_ok hci.pages) (M := N) (by omega) (n := min (n % 65).toNat 64) (by omega) g2 g1 (fun s hs => (key s hs).1) (fun s hs => (key s hs).2) _ N 0 0 (Nat.zero_add _) rfl (by omega)
 rw [e2] at this
 exact this
end Clk
namespace Clk
open Go
theorem row_mem {k : IntKind} {w : World} {a : Option Addr} {len cap : Nat} {zs : List Int} (h : IsRow k w a len cap zs) : ∀ n ∈ zs.take len, (Lit.int k n).wf = true := by
 intro n hn
 rcases h with ⟨_, _, _, rfl⟩ | ⟨_, _, _, _, _, _, h⟩
 · simp at hn
 · exact h n (List.mem_of_mem_take hn)
theorem row_len {k : IntKind} {w : World} {a : Option Addr} {len cap : Nat} {zs : List Int} (h : IsRow k w a len cap zs) : (zs.take len).length < 9223372036854775808 := by
 rcases h with ⟨_, _, _, rfl⟩ | ⟨_, _, h1, h2, h3, _, _⟩
 · simp
 · have : maxLen = 9223372036854775807 := rfl
   simp only [List.length_take]; omega
theorem wf_u8 {n : Int} (h : (Lit.int .u8 n).wf = true) : 0 ≤ n ∧ n < 256 := by
 simp [Lit.wf, IntKind.min, IntKind.max, IntKind.signed, IntKind.bits] at h
 omega
theorem wf_u16 {n : Int} (h : (Lit.int .u16 n).wf = true) : 0 ≤ n ∧ n < 65536 := by
 simp [Lit.wf, IntKind.min, IntKind.max, IntKind.signed, IntKind.bits] at h
 omega
theorem litU8 {n : Int} (h : (Lit.int .u8 n).wf = true) : 0 ≤ n ∧ n < 256 := wf_u8 h
theorem rowU16 {w : World} {a : Option Addr} {len cap : Nat} {zs : List Int} (h : IsRow .u16 w a len cap zs) : U16 (zs.take len) := fun n hn => wf_u16 (row_mem h n hn)
theorem rowLen {k : IntKind} {w : World} {a : Option Addr} {len cap : Nat} {zs : List Int} (h : IsRow k w a len cap zs) : (zs.take len).length < 9223372036854775808 := row_len h
end Clk
