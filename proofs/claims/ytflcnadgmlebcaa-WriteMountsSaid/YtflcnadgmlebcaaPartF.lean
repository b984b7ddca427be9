/- A part of the proof of WriteMounts: an evaluator of the program's code that the kernel runs, its soundness, what the functions compute. -/
import Derived.Test.YtflcnadgmlebcaaPartE
set_option linter.unusedVariables false
set_option linter.unusedSimpArgs false
namespace Clk
open Go
set_option linter.unusedVariables false
def repL : List Found → Table → Int → Table × Int
  | [], t, s => (t, s)
  | f :: l, t, s => repL l (applyT t f) (max s (w64 (f.record.seq + 1)))
def replayT (c : Chip) (n : Int) : Table × Int := repL (allT c) (tabT n) 0
def FoundsOk (l : List Found) : Prop := ∀ f ∈ l, RecOk f.record
theorem unpackT_len2 {s : Str} (h : s.length < 4294967296) : (unpackT s).1.length < 4294967296 ∧ (unpackT s).2.1.length < 4294967296 := by
  have := unpackT_len s; omega
theorem decT_ok {tag data : Str} (h : tag.length < 4294967296) : RecOk (decT tag data).1 := by
  obtain ⟨h1, h2⟩ := unpackT_len2 h
  obtain ⟨h3, h4⟩ := unpackT_len2 h2
  obtain ⟨h5, h6⟩ := unpackT_len2 h4
  unfold decT
  split
  · exact ⟨by simp [zRec], by simp [zRec]⟩
  · split
    · exact ⟨by simp [zRec], by simp [zRec]⟩
    · exact ⟨h3, by simp only [mvT, List.length_map]; exact h5⟩
theorem lookT_ok {p : Page} (h : PageOk p) : RecOk (lookT p).2 := by
  unfold lookT
  split
  · exact ⟨by simp [zRec], by simp [zRec]⟩
  · split
    · exact ⟨by simp [zRec], by simp [zRec]⟩
    · exact decT_ok h.1
theorem insT_ok : ∀ {l : List Found} {f : Found}, FoundsOk l → RecOk f.record → FoundsOk (insT l f)
  | [], f, _, h => by intro g hg; simp [insT] at hg; subst hg; exact h
  | x :: l, f, h1, h2 => by
    unfold insT
    split
    · intro g hg
      rcases List.mem_cons.1 hg with rfl | hg
      · exact h2
      · exact h1 g hg
    · intro g hg
      rcases List.mem_cons.1 hg with rfl | hg
      · exact h1 _ List.mem_cons_self
      · exact insT_ok (fun g hg => h1 g (List.mem_cons_of_mem _ hg)) h2 g hg
theorem pagesT_ok (b : Nat) : ∀ (l : List Page) (p : Nat) (out : List Found), (∀ pg ∈ l, PageOk pg) → FoundsOk out → FoundsOk (pagesT b p l out)
  | [], p, out, _, h => h
  | pg :: l, p, out, h1, h2 => by
    unfold pagesT
    refine pagesT_ok b l (p + 1) _ (fun q hq => h1 q (List.mem_cons_of_mem _ hq)) ?_
    split
    · exact insT_ok h2 (lookT_ok (h1 pg List.mem_cons_self))
    · exact h2
theorem blocksT_ok : ∀ (l : List Block) (b : Nat) (out : List Found), (∀ x ∈ l, ∀ p ∈ x.pages, PageOk p) → FoundsOk out → FoundsOk (blocksT b l out)
  | [], b, out, _, h => h
  | x :: l, b, out, h1, h2 => by
    unfold blocksT
    exact blocksT_ok l (b + 1) _ (fun y hy => h1 y (List.mem_cons_of_mem _ hy)) (pagesT_ok b _ 0 out (h1 x List.mem_cons_self) h2)
theorem allT_ok {c : Chip} (h : PagesOk c) : FoundsOk (allT c) := blocksT_ok _ 0 [] h (fun _ h => by cases h)
theorem repL_len : ∀ (l : List Found) (t : Table) (s : Int), (repL l t s).1.map.length = t.map.length ∧ (repL l t s).1.by_.length = t.by_.length
  | [], t, s => ⟨rfl, rfl⟩
  | f :: l, t, s => by
    unfold repL
    obtain ⟨h1, h2⟩ := repL_len l (applyT t f) (max s (w64 (f.record.seq + 1)))
    obtain ⟨h3, h4⟩ := applyT_len t f
    exact ⟨h1.trans h3, h2.trans h4⟩
theorem Replay_L1 {xs : List Found} (hs : xs.length < 4294967296) (hf : FoundsOk xs) : ∀ (l : List Found) (N k : Nat) (i s : Int) (t : Table), xs.drop k = l → i = k → TabOk t → l.length < N → iterF F_ref07_Replay_L1 N (xs, s, i, t) = some (repL l t s)
  | l, 0, _, _, _, _, _, _, _, h => by omega
  | [], N + 1, k, i, s, t, h1, h2, h3, _ => by
    have := drop_nil h1
    rw [iterF_succ, F_ref07_Replay_L1_eq]
    unfold G_ref07_Replay_L1
    simp only [repL]
    rw [decide_eq_false (by omega), cond_false]
  | f :: l, N + 1, k, i, s, t, h1, h2, h3, h4 => by
    obtain ⟨g1, g2, g3⟩ := drop_cons h1
    subst h2
    have hr : RecOk f.record := by rw [← g2 default]; exact hf _ (getD_mem' g1)
    obtain ⟨h5, h6⟩ := applyT_len t f
    have h7 := h3.1
    have h8 := h3.2
    rw [iterF_succ, F_ref07_Replay_L1_eq]
    unfold G_ref07_Replay_L1
    simp only [Int.toNat_natCast, g2, repL, s_ref07_Apply h3 hr, some_bind']
    rw [decide_eq_true (show (k : Int) < xs.length by omega), decide_eq_true (show (0 : Int) ≤ k by omega)]
    simp only [cond_true]
    exact Replay_L1 hs hf l N (k + 1) _ _ _ g3 (by rw [w64_id (by omega) (by omega)]; omega) ⟨by omega, by omega⟩ (by simp at h4; omega)
theorem tabT_ok (n : Int) : TabOk (tabT n) := ⟨by simp [tabT]; omega, by simp [tabT]; omega⟩
theorem s_Replay {c : Chip} (hc : ChipOk c) (hp : PagesOk c) (n : Int) : S_ref07_Replay (c, n) = some (replayT c n) := by
  have := allT_len c
  refine lim_eq 4294967297 fun N hN => ?_
  show G_ref07_Replay N c n = _
  unfold G_ref07_Replay
  rw [s_ref07_New, some_bind', s_All hc hp, some_bind']
  exact Replay_L1 (by omega) (allT_ok hp) _ N 0 0 0 _ rfl rfl (tabT_ok n) (by omega)
def tSameT (a b : Table) : Bool := decide (a.map = b.map) && decide (a.by_ = b.by_)
theorem s_ref07_Same {a b : Table} (ha : TabOk a) : S_ref07_Same (a, b) = some (tSameT a b) := by
  show G_ref07_Same a b = _
  unfold G_ref07_Same tSameT
  rw [s_ref02_Same ha.1, some_bind']
  cases decide (a.map = b.map) with
  | false => rfl
  | true => rw [cond_true, s_ref02_Same ha.2, some_bind', Bool.true_and]
def anyW : List Page → Bool
  | [] => false
  | p :: l => p.written || anyW l
def fcT (bl : Block) (l : List Page) : Int := cond (anyW l) 2 (if bl.next = 0 then 0 else 2)
def stateT (c : Chip) (opn b : Int) : Int :=
  if b < 0 ∨ (c.blocks.length : Int) ≤ b then 3
  else if (c.blocks.getD b.toNat default).bad = true then 3
  else if b = opn ∧ 0 ≤ (c.blocks.getD b.toNat default).next ∧ (c.blocks.getD b.toNat default).next < (c.blocks.getD b.toNat default).pages.length then 1
  else fcT (c.blocks.getD b.toNat default) (c.blocks.getD b.toNat default).pages
theorem pState_L1 {xs : List Page} (hs : xs.length < 4294967296) : ∀ (l : List Page) (N k : Nat) (i : Int), xs.drop k = l → i = k → l.length < N → iterF F_states_State_L1 N (xs, (xs.length : Int), i) = some (cond (anyW l) 2 0)
  | l, 0, _, _, _, _, h => by omega
  | [], N + 1, k, i, h1, h2, _ => by
    have := drop_nil h1
    rw [iterF_succ, F_states_State_L1_eq]
    unfold G_states_State_L1
    simp only [anyW, cond_false]
    rw [decide_eq_false (by omega), cond_false]
  | p :: l, N + 1, k, i, h1, h2, h3 => by
    obtain ⟨g1, g2, g3⟩ := drop_cons h1
    subst h2
    rw [iterF_succ, F_states_State_L1_eq]
    unfold G_states_State_L1
    simp only [Int.toNat_natCast, g2, anyW]
    rw [decide_eq_true (show (k : Int) < xs.length by omega), decide_eq_true (show (0 : Int) ≤ k by omega)]
    simp only [cond_true]
    cases p.written with
    | true => rfl
    | false =>
      rw [cond_false, Bool.false_or]
      exact pState_L1 hs l N (k + 1) _ g3 (by rw [w64_id (by omega) (by omega)]; omega) (by simp at h3; omega)
theorem s_states_State {c : Chip} (hc : ChipOk c) (o b : Int) : S_states_State (c, o, b) = some (stateT c o b) := by
  refine lim_eq 4294967297 fun N hN => ?_
  show G_states_State N c o b = _
  unfold G_states_State stateT
  by_cases c1 : b < 0
  · rw [decide_eq_true c1, cond_true, if_pos (.inl c1)]
  · rw [decide_eq_false c1, cond_false]
    by_cases c2 : (c.blocks.length : Int) ≤ b
    · rw [decide_eq_true c2, cond_true, if_pos (.inr c2)]
    · have hb := hc.get (show b.toNat < c.blocks.length by omega) default
      rw [decide_eq_false c2, cond_false, if_neg (by omega), decide_eq_true (show 0 ≤ b by omega), decide_eq_true (show b < c.blocks.length by omega)]
      simp only [cond_true]
      cases c3 : (c.blocks.getD b.toNat default).bad with
      | true => rfl
      | false =>
        rw [cond_false, if_neg (by simp), pState_L1 hb _ N 0 0 rfl rfl (by rw [List.drop_zero]; omega), List.drop_zero]
        have hk : cond (!decide ((c.blocks.getD b.toNat default).next = 0)) (some (2 : Int)) (some (cond (anyW (c.blocks.getD b.toNat default).pages) 2 0)) = some (fcT (c.blocks.getD b.toNat default) (c.blocks.getD b.toNat default).pages) := by
          unfold fcT
          by_cases c7 : (c.blocks.getD b.toNat default).next = 0
          · rw [decide_eq_true c7, Bool.not_true, cond_false, if_pos c7]
          · rw [decide_eq_false c7, Bool.not_false, cond_true, if_neg c7]
            cases anyW (c.blocks.getD b.toNat default).pages <;> rfl
        rw [hk]
        generalize fcT (c.blocks.getD b.toNat default) (c.blocks.getD b.toNat default).pages = X
        by_cases c4 : b = o
        · rw [decide_eq_true c4, cond_true]
          by_cases c5 : 0 ≤ (c.blocks.getD b.toNat default).next
          · rw [decide_eq_true c5, cond_true]
            by_cases c6 : (c.blocks.getD b.toNat default).next < (c.blocks.getD b.toNat default).pages.length
            · rw [decide_eq_true c6, cond_true, if_pos ⟨c4, c5, c6⟩]
            · rw [decide_eq_false c6, cond_false, if_neg (fun h => c6 h.2.2)]
          · rw [decide_eq_false c5, cond_false, if_neg (fun h => c5 h.2.1)]
        · rw [decide_eq_false c4, cond_false, if_neg (fun h => c4 h.1)]
def pickL (c : Chip) (o : Int) : Nat → List Block → Int → Int
  | _, [], best => best
  | i, x :: l, best => pickL c o (i + 1) l (if stateT c o i = 0 ∧ (best < 0 ∨ x.erases < (c.blocks.getD best.toNat default).erases) then (i : Int) else best)
def pickT (c : Chip) (o : Int) : Int := pickL c o 0 c.blocks (-1)
theorem pPick_L1 {c : Chip} (hc : ChipOk c) {o : Int} : ∀ (l : List Block) (N k : Nat) (i best : Int), c.blocks.drop k = l → i = k → best < k → l.length < N → iterF F_states_Pick_L1 N ((c.blocks.length : Int), i, c, best, c, o, 0) = some (pickL c o k l best)
  | l, 0, _, _, _, _, _, _, h => by omega
  | [], N + 1, k, i, best, h1, h2, h3, _ => by
    have := drop_nil h1
    rw [iterF_succ, F_states_Pick_L1_eq]
    unfold G_states_Pick_L1
    simp only [pickL]
    rw [decide_eq_false (by omega), cond_false]
  | x :: l, N + 1, k, i, best, h1, h2, h3, h4 => by
    obtain ⟨g1, g2, g3⟩ := drop_cons h1
    have hl := hc.1
    subst h2
    have e1 : w64 ((k : Int) + 1) = ((k + 1 : Nat) : Int) := by rw [w64_id (by omega) (by omega)]; rfl
    have ih := fun b hb => pPick_L1 hc (o := o) l N (k + 1) _ b g3 rfl hb (by simp at h4; omega)
    rw [iterF_succ, F_states_Pick_L1_eq]
    unfold G_states_Pick_L1
    simp only [Int.toNat_natCast, g2, pickL, e1, s_states_State hc, some_bind']
    rw [decide_eq_true (show (k : Int) < c.blocks.length by omega), cond_true, ih best (by omega), ih k (by omega)]
    by_cases c1 : stateT c o k = 0
    · rw [decide_eq_true c1, cond_true]
      by_cases c2 : best < 0
      · rw [decide_eq_true c2, cond_true, if_pos ⟨c1, .inl c2⟩]
      · rw [decide_eq_false c2, cond_false, decide_eq_true (show (0 : Int) ≤ k by omega), decide_eq_true (show 0 ≤ best by omega), decide_eq_true (show best < c.blocks.length by omega)]
        simp only [cond_true]
        by_cases c3 : x.erases < (c.blocks.getD best.toNat default).erases
        · rw [decide_eq_true c3, cond_true, if_pos ⟨c1, .inr c3⟩]
        · rw [decide_eq_false c3, cond_false, if_neg (by rintro ⟨_, h | h⟩; exact c2 h; exact c3 h)]
    · rw [decide_eq_false c1, cond_false, if_neg (fun h => c1 h.1)]
theorem s_states_Pick {c : Chip} (hc : ChipOk c) (o : Int) : S_states_Pick (c, o) = some (pickT c o) := by
  have := hc.1
  refine lim_eq 4294967297 fun N hN => ?_
  exact pPick_L1 hc c.blocks N 0 0 (-1) rfl rfl (by omega) (by omega)
def restT (c : Chip) (o : Int) : Int := if stateT c o o = 1 then (c.blocks.getD o.toNat default).pages.length - (c.blocks.getD o.toNat default).next else 0
theorem state1 {c : Chip} {o b : Int} (h : stateT c o b = 1) : 0 ≤ b ∧ b < c.blocks.length ∧ (c.blocks.getD b.toNat default).bad = false ∧ b = o ∧ 0 ≤ (c.blocks.getD b.toNat default).next ∧ (c.blocks.getD b.toNat default).next < (c.blocks.getD b.toNat default).pages.length := by
  unfold stateT at h
  split at h
  · omega
  · split at h
    · omega
    · rename_i h1 h2
      split at h
      · rename_i h3; exact ⟨by omega, by omega, by simpa using h2, h3⟩
      · unfold fcT at h
        cases hx : anyW (c.blocks.getD b.toNat default).pages with
        | true => rw [hx] at h; cases h
        | false =>
          rw [hx, cond_false] at h
          split at h <;> omega
theorem s_victim_Rest {c : Chip} (hc : ChipOk c) (o : Int) : S_victim_Rest (c, o) = some (restT c o) := by
  have hl := hc.1
  show G_victim_Rest c o = _
  unfold G_victim_Rest restT
  by_cases h : stateT c o o = 1
  · obtain ⟨h1, h2, h3, _, h4, h5⟩ := state1 h
    have hb := hc.get (show o.toNat < c.blocks.length by omega) default
    rw [if_pos h, decide_eq_false (show ¬ o < 0 by omega), cond_false, s_states_State hc, some_bind', h, decide_eq_true h1, decide_eq_true h2, w64_id (by omega) (by omega)]
    rfl
  · rw [if_neg h]
    by_cases c1 : o < 0
    · rw [decide_eq_true c1, cond_true]
    · rw [decide_eq_false c1, cond_false, s_states_State hc, some_bind', decide_eq_false h, Bool.not_false, cond_true]
theorem rest_pos {c : Chip} {o : Int} (h : restT c o ≠ 0) : stateT c o o = 1 ∧ 0 ≤ o ∧ o < c.blocks.length := by
  unfold restT at h
  split at h
  · rename_i h1
    obtain ⟨h2, h3, _⟩ := state1 h1
    exact ⟨h1, h2, h3⟩
  · exact absurd rfl h
def fitsT (g : Geometry) : Bool :=
  decide (1 ≤ g.blocks) && decide (g.blocks ≤ 32) && decide (2 ≤ g.pages) && decide (g.pages ≤ 16) && decide (1 ≤ g.sectors) && decide (g.sectors ≤ 64) && decide (0 ≤ g.spare) && decide (g.spare ≤ 32) && decide (2 * g.sectors < (g.blocks - 2 * g.spare - 3) * g.pages)
theorem s_Fits (g : Geometry) : S_ref14_Fits g = some (fitsT g) := by
  show G_ref14_Fits g = _
  unfold G_ref14_Fits fitsT
  by_cases c1 : 1 ≤ g.blocks
  · by_cases c2 : g.blocks ≤ 32
    · by_cases c3 : 2 ≤ g.pages
      · by_cases c4 : g.pages ≤ 16
        · by_cases c5 : 1 ≤ g.sectors
          · by_cases c6 : g.sectors ≤ 64
            · by_cases c7 : 0 ≤ g.spare
              · by_cases c8 : g.spare ≤ 32
                · have hm : -16000 ≤ (g.blocks - 2 * g.spare - 3) * g.pages ∧ (g.blocks - 2 * g.spare - 3) * g.pages ≤ 16000 := by
                    have h1 : -100 ≤ g.blocks - 2 * g.spare - 3 := by omega
                    have h2 : g.blocks - 2 * g.spare - 3 ≤ 100 := by omega
                    generalize g.blocks - 2 * g.spare - 3 = x at h1 h2
                    constructor
                    · have := Int.mul_le_mul_of_nonneg_right h1 (show 0 ≤ g.pages by omega); omega
                    · have := Int.mul_le_mul_of_nonneg_right h2 (show 0 ≤ g.pages by omega); omega
                  rw [w64_id (n := 2 * g.sectors) (by omega) (by omega), w64_id (n := 2 * g.spare) (by omega) (by omega), w64_id (n := g.blocks - 2 * g.spare) (by omega) (by omega), w64_id (n := g.blocks - 2 * g.spare - 3) (by omega) (by omega), w64_id (n := (g.blocks - 2 * g.spare - 3) * g.pages) (by omega) (by omega)]
                  simp only [decide_eq_true c1, decide_eq_true c2, decide_eq_true c3, decide_eq_true c4, decide_eq_true c5, decide_eq_true c6, decide_eq_true c7, decide_eq_true c8, cond_true, Bool.true_and]
                · simp [c1, c2, c3, c4, c5, c6, c7, c8]
              · simp [c1, c2, c3, c4, c5, c6, c7]
            · simp [c1, c2, c3, c4, c5, c6]
          · simp [c1, c2, c3, c4, c5]
        · simp [c1, c2, c3, c4]
      · simp [c1, c2, c3]
    · simp [c1, c2]
  · simp [c1]
def badsL : List Block → Int
  | [] => 0
  | b :: l => (if b.bad = true then 1 else 0) + badsL l
def badsT (c : Chip) : Int := badsL c.blocks
theorem bads_L1 {c : Chip} (hc : ChipOk c) : ∀ (l : List Block) (N k : Nat) (i s : Int), c.blocks.drop k = l → i = k → 0 ≤ s → s ≤ k → l.length < N → iterF F_ref14_bads_L1 N (s, i, c) = some (s + badsL l)
  | l, 0, _, _, _, _, _, _, _, h => by omega
  | [], N + 1, k, i, s, h1, h2, h3, h4, _ => by
    have := drop_nil h1
    rw [iterF_succ, F_ref14_bads_L1_eq]
    unfold G_ref14_bads_L1
    simp only [badsL, Int.add_zero]
    rw [decide_eq_false (by omega), cond_false]
  | x :: l, N + 1, k, i, s, h1, h2, h3, h4, h5 => by
    obtain ⟨g1, g2, g3⟩ := drop_cons h1
    have hl := hc.1
    subst h2
    have e1 : w64 ((k : Int) + 1) = ((k + 1 : Nat) : Int) := by rw [w64_id (by omega) (by omega)]; rfl
    have ih := fun s' h h' => bads_L1 hc l N (k + 1) _ s' g3 rfl h h' (by simp at h5; omega)
    rw [iterF_succ, F_ref14_bads_L1_eq]
    unfold G_ref14_bads_L1
    simp only [Int.toNat_natCast, g2, badsL, e1]
    rw [decide_eq_true (show (k : Int) < c.blocks.length by omega), decide_eq_true (show (0 : Int) ≤ k by omega)]
    simp only [cond_true]
    cases hb : x.bad with
    | true => rw [cond_true, if_pos rfl, w64_id (n := s + 1) (by omega) (by omega), ih (s + 1) (by omega) (by omega)]; congr 1; omega
    | false => rw [cond_false, if_neg (by simp), ih s (by omega) (by omega)]; congr 1; omega
theorem s_bads {c : Chip} (hc : ChipOk c) : S_ref14_bads c = some (badsT c) := by
  have := hc.1
  refine lim_eq 4294967297 fun N hN => ?_
  have := bads_L1 hc c.blocks N 0 0 0 rfl rfl (by omega) (by omega) (by omega)
  rw [Int.zero_add] at this
  exact this
def zDev : Device := ⟨⟨0, 0, 0, 0⟩, ⟨[], false, false, 0⟩, ⟨[], []⟩, 0, 0⟩
def mtL (g : Geometry) : Nat → List Block → Int → Option Int
  | _, [], o => some o
  | i, b :: l, o => if (b.pages.length : Int) ≠ g.pages then none else mtL g (i + 1) l (if o < 0 ∧ b.bad = false ∧ 0 < b.next ∧ b.next < g.pages then (i : Int) else o)
def mountT (g : Geometry) (c : Chip) : Device × Int :=
  if fitsT g = false ∨ (c.blocks.length : Int) ≠ g.blocks then (zDev, 1)
  else match mtL g 0 c.blocks (-1) with
    | none => (zDev, 1)
    | some o => (⟨g, onT c, (replayT c g.sectors).1, (replayT c g.sectors).2, o⟩, 0)
theorem Mount_L1 {g : Geometry} {c : Chip} (hc : ChipOk c) (hp : PagesOk c) : ∀ (l : List Block) (N k : Nat) (i o : Int), c.blocks.drop k = l → i = k → l.length < N → iterF F_ref14_Mount_L1 N (o, i, g, c) = some (match mtL g k l o with
    | none => (zDev, 1)
    | some o => (⟨g, onT c, (replayT c g.sectors).1, (replayT c g.sectors).2, o⟩, 0))
  | l, 0, _, _, _, _, _, h => by omega
  | [], N + 1, k, i, o, h1, h2, _ => by
    have := drop_nil h1
    rw [iterF_succ, F_ref14_Mount_L1_eq]
    unfold G_ref14_Mount_L1
    simp only [mtL]
    rw [decide_eq_false (by omega), cond_false, s_Replay hc hp, some_bind', s_On hc, some_bind']
  | x :: l, N + 1, k, i, o, h1, h2, h3 => by
    obtain ⟨g1, g2, g3⟩ := drop_cons h1
    have hl := hc.1
    subst h2
    have e1 : w64 ((k : Int) + 1) = ((k + 1 : Nat) : Int) := by rw [w64_id (by omega) (by omega)]; rfl
    have ih := fun o' => Mount_L1 (g := g) hc hp l N (k + 1) _ o' g3 rfl (by simp at h3; omega)
    rw [iterF_succ, F_ref14_Mount_L1_eq]
    unfold G_ref14_Mount_L1
    simp only [Int.toNat_natCast, g2, mtL, e1]
    rw [decide_eq_true (show (k : Int) < c.blocks.length by omega), decide_eq_true (show (0 : Int) ≤ k by omega)]
    simp only [cond_true, ih]
    by_cases c1 : (x.pages.length : Int) = g.pages
    · rw [decide_eq_true c1, Bool.not_true, cond_false, if_neg (by simp [c1])]
      by_cases c2 : o < 0
      · rw [decide_eq_true c2, cond_true]
        cases c3 : x.bad with
        | true => rw [Bool.not_true, cond_false, if_neg (by simp)]
        | false =>
          rw [Bool.not_false, cond_true]
          by_cases c4 : 0 < x.next
          · rw [decide_eq_true c4, cond_true]
            by_cases c5 : x.next < g.pages
            · rw [decide_eq_true c5, cond_true, if_pos ⟨c2, rfl, c4, c5⟩]
            · rw [decide_eq_false c5, cond_false, if_neg (fun h => c5 h.2.2.2)]
          · rw [decide_eq_false c4, cond_false, if_neg (fun h => c4 h.2.2.1)]
      · rw [decide_eq_false c2, cond_false, if_neg (fun h => c2 h.1)]
    · rw [decide_eq_false c1, Bool.not_false, cond_true, if_pos c1]; rfl
theorem s_Mount {g : Geometry} {c : Chip} (hc : ChipOk c) (hp : PagesOk c) : S_ref14_Mount (g, c) = some (mountT g c) := by
  have := hc.1
  refine lim_eq 4294967297 fun N hN => ?_
  show G_ref14_Mount N g c = _
  unfold G_ref14_Mount mountT
  rw [s_Fits, some_bind']
  cases fitsT g with
  | false => rfl
  | true =>
    rw [Bool.not_true, cond_false]
    by_cases c1 : (c.blocks.length : Int) = g.blocks
    · rw [decide_eq_true c1, Bool.not_true, cond_false, if_neg (by simp [c1])]
      exact Mount_L1 hc hp c.blocks N 0 0 (-1) rfl rfl (by omega)
    · rw [decide_eq_false c1, Bool.not_false, cond_true, if_pos (.inr c1)]; rfl
def formatT (g : Geometry) (bad : List Int) : Device × Int :=
  if fitsT g = false ∨ (newT g.blocks g.pages bad).2 ≠ 0 ∨ g.spare < badsT (newT g.blocks g.pages bad).1 then (zDev, 1) else mountT g (newT g.blocks g.pages bad).1
theorem newL_ok {n : Int} {m : Nat} : ∀ (l : List Int) (bs : List Block), (∀ b ∈ bs, b.pages.length ≤ 16 ∧ ∀ p ∈ b.pages, p = zPage) → bs.length = m → (∀ b ∈ (newL n l bs).1.blocks, b.pages.length ≤ 16 ∧ ∀ p ∈ b.pages, p = zPage) ∧ ((newL n l bs).1.blocks.length = m ∨ (newL n l bs).1.blocks.length = 0)
  | [], bs, h1, h2 => ⟨h1, .inl h2⟩
  | x :: l, bs, h1, h2 => by
    unfold newL
    split
    · exact ⟨fun b hb => by simp [zChip] at hb, .inr rfl⟩
    · refine newL_ok l _ (fun b hb => ?_) (by unfold bBad; simpa using h2)
      unfold bBad at hb
      by_cases hx : x.toNat < bs.length
      · rcases List.mem_or_eq_of_mem_set hb with h | rfl
        · exact h1 b h
        · exact h1 (bs.getD x.toNat default) (getD_mem' hx)
      · rw [List.set_eq_of_length_le (by omega)] at hb
        exact h1 b hb
theorem newT_ok (n p : Int) (bad : List Int) : ChipOk (newT n p bad).1 ∧ PagesOk (newT n p bad).1 := by
  unfold newT
  split
  · exact ⟨⟨by simp [zChip], fun b hb => by simp [zChip] at hb⟩, fun b hb => by simp [zChip] at hb⟩
  · rename_i h
    obtain ⟨h1, h2⟩ := newL_ok (n := n) (m := n.toNat) bad (List.replicate n.toNat ⟨List.replicate p.toNat zPage, 0, 0, false⟩) (fun b hb => by
      obtain ⟨_, rfl⟩ := List.mem_replicate.1 hb
      exact ⟨by simp; omega, fun q hq => (List.mem_replicate.1 hq).2⟩) (by simp)
    refine ⟨⟨by omega, fun b hb => by have := (h1 b hb).1; omega⟩, fun b hb q hq => ?_⟩
    rw [(h1 b hb).2 q hq]
    exact ⟨by simp [zPage], by simp [zPage]⟩
theorem s_Format {g : Geometry} {bad : List Int} (hb : bad.length < 4294967296) : S_ref14_Format (g, bad) = some (formatT g bad) := by
  obtain ⟨hc, hp⟩ := newT_ok g.blocks g.pages bad
  show G_ref14_Format g bad = _
  unfold G_ref14_Format formatT
  rw [s_Fits, some_bind']
  cases fitsT g with
  | false => rfl
  | true =>
    rw [Bool.not_true, cond_false, s_ref05_New hb, some_bind']
    by_cases c1 : (newT g.blocks g.pages bad).2 = 0
    · rw [decide_eq_true c1, Bool.not_true, cond_false, s_bads hc, some_bind']
      by_cases c2 : g.spare < badsT (newT g.blocks g.pages bad).1
      · rw [decide_eq_true c2, cond_true, if_pos (.inr (.inr c2))]; rfl
      · rw [decide_eq_false c2, cond_false, if_neg (by simp [c1]; omega), s_Mount hc hp, some_bind']
    · rw [decide_eq_false c1, Bool.not_false, cond_true, if_pos (.inr (.inl c1))]; rfl
def DevOk (d : Device) : Prop := ChipOk d.chip ∧ TabOk d.table
end Clk
namespace Clk
open Go
set_option linter.unusedVariables false
def zFate : Fate := ⟨0, [], [], 0⟩
def fateT (l : List Fate) : Fate × List Fate := match l with
  | [] => (zFate, [])
  | f :: l => (f, l)
theorem s_ref15_Fate (l : List Fate) : S_ref15_Fate l = some (fateT l) := by
  show G_ref15_Fate l = _
  unfold G_ref15_Fate
  cases l with
  | nil => rfl
  | cons f l =>
    rw [decide_eq_false (by simp only [List.length_cons]; omega), cond_false, decide_eq_true (by simp only [List.length_cons]; omega), cond_true, decide_eq_true (by simp only [List.length_cons]; omega), cond_true]
    rfl
theorem s_write_next (l : List Fate) : S_write_next l = some (fateT l) := s_ref15_Fate l
def openT (c : Chip) (o : Int) : Int := if restT c o = 0 then (if restT c (pickT c (-1)) = 0 then -1 else pickT c (-1)) else o
theorem openT_lt {c : Chip} {o : Int} (h : 0 ≤ openT c o) : openT c o < c.blocks.length := by
  unfold openT at h ⊢
  split at h
  · rename_i h1
    rw [if_pos h1]
    split at h
    · omega
    · rename_i h2
      rw [if_neg h2]
      exact (rest_pos h2).2.2
  · rename_i h1
    rw [if_neg h1]
    exact (rest_pos h1).2.2
theorem s_write_open {d : Device} (hc : ChipOk d.chip) : S_write_open d = some (⟨d.geometry, d.chip, d.table, d.seq, openT d.chip d.opn⟩, decide (0 ≤ openT d.chip d.opn)) := by
  show G_write_open d = _
  unfold G_write_open openT
  rw [s_victim_Rest hc, some_bind', s_states_Pick hc, some_bind', s_victim_Rest hc, some_bind', some_bind']
  by_cases h1 : restT d.chip d.opn = 0
  · rw [decide_eq_true h1, cond_true, if_pos h1]
    by_cases h2 : restT d.chip (pickT d.chip (-1)) = 0
    · rw [decide_eq_true h2, cond_true, if_pos h2]; rfl
    · rw [decide_eq_false h2, cond_false, if_neg h2]
  · rw [decide_eq_false h1, cond_false, if_neg h1, cond_false]
def nextOf (c : Chip) (o : Int) : Int := (c.blocks.getD o.toNat default).next
def rT (page : Page) (fs : List Fate) (d : Device) : Chip × Int := progT d.chip (openT d.chip d.opn) (nextOf d.chip (openT d.chip d.opn)) page (fateT fs).1
def putL (page : Page) (rec : Record) : Nat → List Fate → Device → Device × List Fate × Int
  | 0, fs, d => (⟨d.geometry, d.chip, d.table, d.seq, -1⟩, fs, 40)
  | n + 1, fs, d =>
    if openT d.chip d.opn < 0 then (⟨d.geometry, d.chip, d.table, d.seq, -1⟩, fs, 40)
    else if (rT page fs d).2 = 0 then (⟨d.geometry, (rT page fs d).1, applyT d.table ⟨placeT (openT d.chip d.opn) (nextOf d.chip (openT d.chip d.opn)), rec⟩, w64 (d.seq + 1), openT d.chip d.opn⟩, (fateT fs).2, 0)
    else if (rT page fs d).2 = 53 then putL page rec n (fateT fs).2 ⟨d.geometry, (rT page fs d).1, d.table, d.seq, -1⟩
    else (⟨d.geometry, (rT page fs d).1, d.table, d.seq, openT d.chip d.opn⟩, (fateT fs).2, (rT page fs d).2)
def gbL : List Block → Nat
  | [] => 0
  | b :: l => (if b.bad = true then 0 else 1) + gbL l
theorem gbL_le : ∀ (l : List Block), gbL l ≤ l.length
  | [] => Nat.le_refl _
  | b :: l => by have := gbL_le l; unfold gbL; simp only [List.length_cons]; split <;> omega
theorem gbL_set : ∀ {l : List Block} {i : Nat} {y d : Block}, i < l.length → (l.getD i d).bad = false → y.bad = true → gbL (l.set i y) + 1 = gbL l
  | [], i, y, d, h, _, _ => by simp at h
  | b :: l, 0, y, d, h, h1, h2 => by
    have h3 : b.bad = false := h1
    simp only [List.set_cons_zero, gbL]
    rw [if_pos h2, if_neg (by simp [h3])]
    omega
  | b :: l, i + 1, y, d, h, h1, h2 => by
    have := gbL_set (l := l) (i := i) (y := y) (d := d) (by simpa using h) (by simpa using h1) h2
    simp only [List.set_cons_succ, gbL]
    omega
theorem progT_ok {c : Chip} (h : ChipOk c) (b p : Int) (page : Page) (f : Fate) : ChipOk (progT c b p page f).1 := by
  unfold progT
  split
  · exact h
  · split
    · rename_i hc
      obtain ⟨h1, h2, _⟩ := canProg_iff.1 hc
      refine ⟨by simpa using h.1, fun x hx => ?_⟩
      rcases List.mem_or_eq_of_mem_set hx with h3 | rfl
      · exact h.2 x h3
      · have := h.get (show b.toNat < c.blocks.length by omega) default
        simpa [newBlock] using this
    · exact h
theorem progT_blocks (c : Chip) (b p : Int) (page : Page) (f : Fate) : (progT c b p page f).1.blocks.length = c.blocks.length := by
  unfold progT
  split
  · rfl
  · split
    · simp
    · rfl
theorem progT_fail {c : Chip} {b p : Int} {page : Page} {f : Fate} (h : (progT c b p page f).2 = 53) : gbL (progT c b p page f).1.blocks + 1 = gbL c.blocks := by
  unfold progT at h ⊢
  split at h
  · simp at h
  · rename_i ho
    rw [if_neg ho]
    split at h
    · rename_i hc
      rw [if_pos hc]
      obtain ⟨h1, h2, h3, h4, h5, _⟩ := canProg_iff.1 hc
      have hk : f.kind = 1 := by
        simp only at h
        split at h
        · omega
        · split at h
          · assumption
          · omega
      exact gbL_set (show b.toNat < c.blocks.length by omega) h5 (by simp [newBlock, hk])
    · unfold brkT at h; simp at h
theorem write_Put_L1 {w : Write} {page : Page} (hw : RecOk w.record) : ∀ (n N : Nat) (fs : List Fate) (d : Device), DevOk d → gbL d.chip.blocks < n → n ≤ N → iterF F_write_Put_L1 N (fs, d, w, page) = some (putL page w.record n fs d)
  | 0, _, _, _, _, h, _ => by omega
  | n + 1, 0, _, _, _, _, h => by omega
  | n + 1, N + 1, fs, d, hd, h1, h2 => by
    have hc := hd.1
    rw [iterF_succ, F_write_Put_L1_eq]
    unfold G_write_Put_L1
    simp only [s_write_open hc, some_bind', s_write_next, s_nand_Program hc, s_scan_Place, putL]
    by_cases hn : openT d.chip d.opn < 0
    · rw [if_pos hn, decide_eq_false (show ¬ 0 ≤ openT d.chip d.opn by omega), Bool.not_false, cond_true]
      have ho : openT d.chip d.opn = -1 := by
        unfold openT at hn ⊢
        split at hn
        · rename_i h3
          rw [if_pos h3]
          split at hn
          · rename_i h4; rw [if_pos h4]
          · rename_i h4; have := rest_pos h4; omega
        · rename_i h3; have := rest_pos h3; omega
      rw [ho]
    · have hlt := openT_lt (c := d.chip) (o := d.opn) (by omega)
      have hr : rT page fs d = progT d.chip (openT d.chip d.opn) (d.chip.blocks.getD (Int.toNat (openT d.chip d.opn)) default).next page (fateT fs).1 := rfl
      have hx : nextOf d.chip (openT d.chip d.opn) = (d.chip.blocks.getD (Int.toNat (openT d.chip d.opn)) default).next := rfl
      rw [if_neg hn, decide_eq_true (show 0 ≤ openT d.chip d.opn by omega), Bool.not_true, cond_false, cond_true, decide_eq_true hlt, cond_true, ← hr, ← hx, s_replay_Apply hd.2 hw, some_bind']
      by_cases c1 : (rT page fs d).2 = 0
      · rw [decide_eq_true c1, cond_true, if_pos c1]
      · rw [decide_eq_false c1, cond_false, if_neg c1]
        by_cases c2 : (rT page fs d).2 = 53
        · rw [decide_eq_true c2, cond_true, if_pos c2]
          have hf := progT_fail c2
          exact write_Put_L1 hw n N _ _ ⟨progT_ok hc _ _ _ _, hd.2⟩ (by show gbL (progT _ _ _ _ _).1.blocks < n; omega) (by omega)
        · rw [decide_eq_false c2, cond_false, if_neg c2]
def seqW (d : Device) (w : Write) : Write := ⟨w.data, ⟨w.record.kind, d.seq, w.record.keys, w.record.values⟩⟩
def putD (d : Device) (w : Write) (fs : List Fate) : Device × List Fate × Int :=
  if (makeT (seqW d w)).2 ≠ 0 then (d, fs, (makeT (seqW d w)).2) else putL (makeT (seqW d w)).1 (seqW d w).record (d.chip.blocks.length + 1) fs d
theorem s_write_Put {d : Device} {w : Write} {fs : List Fate} (hd : DevOk d) (hw : WriteOk w) : S_write_Put (d, w, fs) = some (putD d w fs) := by
  refine lim_eq (d.chip.blocks.length + 1) fun N hN => ?_
  show G_write_Put N d w fs = _
  have hm := s_look_Make (w := seqW d w) hw
  unfold seqW at hm
  unfold G_write_Put putD
  rw [hm, some_bind']
  show cond (!decide ((makeT (seqW d w)).2 = 0)) _ _ = _
  by_cases c1 : (makeT (seqW d w)).2 = 0
  · rw [decide_eq_true c1, Bool.not_true, cond_false, if_neg (by simp [c1])]
    have := gbL_le d.chip.blocks
    exact write_Put_L1 (w := seqW d w) hw.1 _ N fs d hd (by omega) hN
  · rw [decide_eq_false c1, Bool.not_false, cond_true, if_pos c1]; rfl
theorem putL_ok {page : Page} {rec : Record} : ∀ (n : Nat) (fs : List Fate) (d : Device), DevOk d → DevOk (putL page rec n fs d).1
  | 0, fs, d, h => ⟨h.1, h.2⟩
  | n + 1, fs, d, h => by
    have hr : ChipOk (rT page fs d).1 := progT_ok h.1 _ _ _ _
    unfold putL
    split
    · exact ⟨h.1, h.2⟩
    · split
      · obtain ⟨h1, h2⟩ := applyT_len d.table ⟨placeT (openT d.chip d.opn) (nextOf d.chip (openT d.chip d.opn)), rec⟩
        exact ⟨hr, by rw [TabOk]; simp only; rw [h1, h2]; exact h.2⟩
      · split
        · exact putL_ok n _ _ ⟨hr, h.2⟩
        · exact ⟨hr, h.2⟩
theorem putD_ok {d : Device} {w : Write} {fs : List Fate} (h : DevOk d) : DevOk (putD d w fs).1 := by
  unfold putD
  split
  · exact h
  · exact putL_ok _ _ _ h
end Clk
namespace Clk
open Go
set_option linter.unusedVariables false
def smalls : List Geometry := [⟨8, 4, 5, 1⟩, ⟨5, 4, 3, 0⟩, ⟨12, 3, 5, 2⟩, ⟨6, 6, 8, 0⟩, ⟨16, 2, 4, 3⟩, ⟨10, 5, 12, 1⟩]
def smallT (n : Int) : Geometry := smalls.getD (n.toNat % 6) default
theorem s_Small {n : Int} (h0 : 0 ≤ n) (h1 : n < 256) : S_law14_Small n = some (smallT n) := by
  show G_law14_Small n = _
  unfold G_law14_Small
  obtain ⟨k, rfl⟩ : ∃ k : Nat, n = k := ⟨n.toNat, by omega⟩
  have e : Int.tmod (w64 (k : Int)) (([(Geometry.mk 8 4 5 1), (Geometry.mk 5 4 3 0), (Geometry.mk 12 3 5 2), (Geometry.mk 6 6 8 0), (Geometry.mk 16 2 4 3), (Geometry.mk 10 5 12 1)].length : Nat) : Int) = ((k % 6 : Nat) : Int) := by
    rw [w64_id (by omega) (by omega)]; exact tmod_nat k 6
  rw [e, decide_eq_false (by decide), Bool.not_false, cond_true, decide_eq_true (show (0 : Int) ≤ ((k % 6 : Nat) : Int) by omega), cond_true, decide_eq_true (by simp only [List.length_cons, List.length_nil]; omega), cond_true, decide_eq_true (by simp only [List.length_cons, List.length_nil]; omega), cond_true]
  rfl
theorem small_cases {P : Geometry → Prop} (h : ∀ g ∈ smalls, P g) (n : Int) : P (smallT n) := h _ (getD_mem' (by show n.toNat % 6 < 6; omega))
def torn : Str := [116, 111, 114, 110]
def fate1 (n : Int) : Fate := ⟨if 236 ≤ n then 2 else if 200 ≤ n then 1 else 0, torn, [[], [120], [2, 1]].getD (Int.tmod n 3).toNat [], Int.tmod (Int.tdiv n 8) 5⟩
def fatesT (l : List Int) : List Fate := (l.take 12).map fate1
theorem Fates_L1 {xs : List Int} (hs : ∀ n ∈ xs, 0 ≤ n ∧ n < 256) : ∀ (l : List Int) (N k : Nat) (i : Int) (acc : List Fate), xs.drop k = l → i = k → k ≤ 12 → acc.length = k → 12 - k < N → iterF F_law15_Fates_L1 N (xs, i, acc) = some (acc ++ (l.take (12 - k)).map fate1)
  | l, 0, _, _, _, _, _, _, _, h => by omega
  | [], N + 1, k, i, acc, h1, h2, h3, h4, _ => by
    have := drop_nil h1
    rw [iterF_succ, F_law15_Fates_L1_eq]
    unfold G_law15_Fates_L1
    simp only [List.take_nil, List.map_nil, List.append_nil]
    rw [decide_eq_false (by omega), cond_false]
  | n :: l, N + 1, k, i, acc, h1, h2, h3, h4, h5 => by
    obtain ⟨g1, g2, g3⟩ := drop_cons h1
    subst h2
    rw [iterF_succ, F_law15_Fates_L1_eq]
    unfold G_law15_Fates_L1
    simp only [Int.toNat_natCast, g2]
    rw [decide_eq_true (show (k : Int) < xs.length by omega), cond_true]
    by_cases hk : k = 12
    · subst hk
      rw [decide_eq_false (by omega), cond_false]; simp
    · have hn := hs n (by rw [← g2 0]; exact getD_mem' g1)
      obtain ⟨q, rfl⟩ : ∃ q : Nat, n = q := ⟨n.toNat, by omega⟩
      have e3 : Int.tmod (q : Int) 3 = ((q % 3 : Nat) : Int) := tmod_nat q 3
      have e8 : Int.tdiv (q : Int) 8 = ((q / 8 : Nat) : Int) := tdiv_nat q 8
      have ihf := Fates_L1 hs l N (k + 1) (w64 (k + 1)) (acc ++ [fate1 q]) g3 (by rw [w64_id (by omega) (by omega)]; omega) (by omega) (by simp [h4]) (by omega)
      have e12 : 12 - k = (12 - (k + 1)) + 1 := by omega
      rw [decide_eq_true (show (k : Int) < 12 by omega), cond_true, decide_eq_true (show (0 : Int) ≤ k by omega), cond_true, cond_true, w64_id (n := (q : Int)) (by omega) (by omega), e3, e8, w64_id (n := ((q / 8 : Nat) : Int)) (by omega) (by omega), decide_eq_true (show (0 : Int) ≤ ((q % 3 : Nat) : Int) by omega), cond_true, decide_eq_true (by simp only [List.length_cons, List.length_nil]; omega), cond_true, decide_eq_true (by simp only [List.length_cons, List.length_nil]; omega), cond_true]
      have ef : fate1 q = ⟨if 236 ≤ (q : Int) then 2 else if 200 ≤ (q : Int) then 1 else 0, torn, [[], [120], [2, 1]].getD (Int.toNat ((q % 3 : Nat) : Int)) [], Int.tmod ((q / 8 : Nat) : Int) 5⟩ := by unfold fate1; rw [e3, e8]
      rw [e12, List.take_succ_cons, List.map_cons]
      have eacc : acc ++ fate1 q :: (l.take (12 - (k + 1))).map fate1 = acc ++ [fate1 q] ++ (l.take (12 - (k + 1))).map fate1 := by simp
      rw [eacc, ← ihf, ef]
      by_cases c1 : 200 ≤ (q : Int)
      · rw [decide_eq_true c1, cond_true]
        by_cases c2 : 236 ≤ (q : Int)
        · rw [decide_eq_true c2, cond_true, if_pos c2, decide_eq_true (by simp only [List.length_singleton]; omega), cond_true, decide_eq_true (by simp only [List.length_singleton]; omega), cond_true]; rfl
        · rw [decide_eq_false c2, cond_false, if_neg c2, if_pos c1, decide_eq_true (by simp only [List.length_singleton]; omega), cond_true, decide_eq_true (by simp only [List.length_singleton]; omega), cond_true]; rfl
      · rw [decide_eq_false c1, cond_false, decide_eq_false (show ¬ 236 ≤ (q : Int) by omega), cond_false, if_neg (show ¬ 236 ≤ (q : Int) by omega), if_neg c1, decide_eq_true (by simp only [List.length_singleton]; omega), cond_true, decide_eq_true (by simp only [List.length_singleton]; omega), cond_true]; rfl
theorem s_Fates {l : List Int} (hs : ∀ n ∈ l, 0 ≤ n ∧ n < 256) : S_law15_Fates l = some (fatesT l) := by
  refine lim_eq 13 fun N hN => ?_
  have := Fates_L1 hs l N 0 0 [] rfl rfl (by omega) rfl (by omega)
  rw [List.nil_append] at this
  exact this
def pk (l : List Int) (i : Nat) (n : Int) : Int := l.getD i 0 % n
def mkL (l : List Int) (kind : Int) : Nat → Nat → Int → List Int × List Int
  | 0, _, _ => ([], [])
  | n + 1, at_, key => if key < 64 then
      (if kind = 2 then (key :: (mkL l kind n (at_ + 2) (key + 1 + pk l at_ 10)).1, (pk l (at_ + 1) 513 - 1) :: (mkL l kind n (at_ + 2) (key + 1 + pk l at_ 10)).2)
       else (key :: (mkL l kind n (at_ + 1) (key + 1 + pk l at_ 10)).1, (mkL l kind n (at_ + 1) (key + 1 + pk l at_ 10)).2))
    else ([], [])
def madeT (l : List Int) : Record :=
  ⟨1 + pk l 0 2, pk l 1 60000 * (1 + pk l 2 1000), (mkL l (1 + pk l 0 2) (pk l 4 8 + 1).toNat 5 (pk l 3 20)).1, (mkL l (1 + pk l 0 2) (pk l 4 8 + 1).toNat 5 (pk l 3 20)).2⟩
def U16 (l : List Int) : Prop := ∀ n ∈ l, 0 ≤ n ∧ n < 65536
theorem U16.get {l : List Int} (h : U16 l) (i : Nat) : 0 ≤ l.getD i 0 ∧ l.getD i 0 < 65536 := by
  by_cases hi : i < l.length
  · exact h _ (getD_mem' hi)
  · rw [List.getD_eq_getElem?_getD, List.getElem?_eq_none (by omega)]; exact ⟨Int.le_refl 0, show (0 : Int) < 65536 by omega⟩
theorem pk_none {l : List Int} {i : Nat} (h : l.length ≤ i) (n : Int) : pk l i n = 0 := by
  unfold pk
  rw [List.getD_eq_getElem?_getD, List.getElem?_eq_none h]; simp
theorem pk_range {l : List Int} (h : U16 l) (i : Nat) {n : Int} (hn : 0 < n) : 0 ≤ pk l i n ∧ pk l i n < n := ⟨Int.emod_nonneg _ (by omega), Int.emod_lt_of_pos _ hn⟩
theorem pk_tmod {l : List Int} (h : U16 l) (i : Nat) (n : Int) : Int.tmod (w64 (l.getD i 0)) n = pk l i n := by
  have := h.get i
  rw [w64_id (by omega) (by omega), Int.tmod_eq_emod_of_nonneg this.1]; rfl
theorem Made_L1 {l : List Int} (hl : U16 l) (hn : l.length < 9223372036854775808) {kind seq : Int} : ∀ (n N at_ : Nat) (cnt key ati : Int) (ks vs : List Int), cnt = (n : Int) - 1 → ati = at_ → n ≤ 9 → at_ + 2 * n ≤ 4294967296 → 0 ≤ key → key ≤ 100 → ks.length + n ≤ 100 → vs.length + n ≤ 100 → n < N →
    iterF F_law03_Made_L1 N (key, cnt, l, kind, seq, ati, ks, vs) = some ⟨kind, seq, ks ++ (mkL l kind n at_ key).1, vs ++ (mkL l kind n at_ key).2⟩
  | n, 0, _, _, _, _, _, _, _, _, _, _, _, _, _, _, h => by omega
  | 0, N + 1, at_, cnt, key, ati, ks, vs, h1, h2, _, _, _, _, _, _, _ => by
    rw [iterF_succ, F_law03_Made_L1_eq]
    unfold G_law03_Made_L1
    simp only [mkL, List.append_nil]
    rw [decide_eq_false (by omega), cond_false]
  | n + 1, N + 1, at_, cnt, key, ati, ks, vs, h1, h2, h3, h4, h5, h6, h7, h8, h9 => by
    subst h2
    rw [iterF_succ, F_law03_Made_L1_eq]
    unfold G_law03_Made_L1
    simp only [mkL]
    rw [decide_eq_true (show 0 ≤ cnt by omega), cond_true]
    by_cases hk : key < 64
    · have p1 := pk_range hl at_ (n := 10) (by omega)
      have p2 := pk_range hl (at_ + 1) (n := 513) (by omega)
      have ih := fun (a : Nat) (ha : a + 2 * n ≤ 4294967296) (k' : Int) (hk' : 0 ≤ k' ∧ k' ≤ 100) (ks' vs' : List Int) (hks : ks'.length + n ≤ 100) (hvs : vs'.length + n ≤ 100) => Made_L1 hl hn (kind := kind) (seq := seq) n N a (w64 (cnt - 1)) k' (a : Int) ks' vs' (by rw [w64_id (by omega) (by omega)]; omega) rfl (by omega) ha hk'.1 hk'.2 hks hvs (by omega)
      rw [decide_eq_true hk, cond_true, if_pos hk, decide_eq_true (by simp only [List.length_singleton]; omega), cond_true, decide_eq_true (by simp only [List.length_singleton]; omega), cond_true]
      have w1 : w64 ((at_ : Int) + 1) = ((at_ + 1 : Nat) : Int) := by rw [w64_id (by omega) (by omega)]; rfl
      have w2 : w64 (((at_ + 1 : Nat) : Int) + 1) = ((at_ + 2 : Nat) : Int) := by rw [w64_id (by omega) (by omega)]; rfl
      have w3 : w64 (((at_ + 1 : Nat) : Int) - 1) = (at_ : Int) := by rw [w64_id (by omega) (by omega)]; omega
      have w4 : w64 (((at_ + 2 : Nat) : Int) - 1) = ((at_ + 1 : Nat) : Int) := by rw [w64_id (by omega) (by omega)]; omega
      have w5 : w64 (key + 1) = key + 1 := w64_id (by omega) (by omega)
      have w6 : w64 (key + 1 + pk l at_ 10) = key + 1 + pk l at_ 10 := w64_id (by omega) (by omega)
      have w7 : w64 (pk l (at_ + 1) 513 - 1) = pk l (at_ + 1) 513 - 1 := w64_id (by omega) (by omega)
      simp only [w1, w2, w3, w4, w5, Int.toNat_natCast, pk_tmod hl, w6, w7]
      have v1 : [key].length = 1 := rfl
      by_cases c2 : kind = 2
      · simp only [decide_eq_true c2, cond_true, if_pos c2]
        by_cases c1 : l.length < at_ + 1
        · have z := pk_none (show l.length ≤ at_ by omega) 10
          have z2 := pk_none (show l.length ≤ at_ + 1 by omega) 513
          rw [decide_eq_true (show (l.length : Int) < ((at_ + 1 : Nat) : Int) by omega), cond_true, decide_eq_true (show (l.length : Int) < ((at_ + 2 : Nat) : Int) by omega), cond_true, decide_eq_true (by simp only [List.length_singleton]; omega), cond_true, decide_eq_true (by simp only [List.length_singleton]; omega), cond_true, z, z2, w64_id (n := key + 1 + 0) (by omega) (by omega)]
          rw [ih (at_ + 2) (by omega) _ (by omega) _ _ (by simp only [List.length_append, List.length_singleton]; omega) (by simp only [List.length_append, List.length_singleton]; omega)]
          simp
        · rw [decide_eq_false (show ¬ (l.length : Int) < ((at_ + 1 : Nat) : Int) by omega), cond_false, decide_eq_true (show (0 : Int) ≤ (at_ : Int) by omega), cond_true, decide_eq_true (show (at_ : Int) < l.length by omega), cond_true]
          by_cases c3 : l.length < at_ + 2
          · have z2 := pk_none (show l.length ≤ at_ + 1 by omega) 513
            rw [decide_eq_true (show (l.length : Int) < ((at_ + 2 : Nat) : Int) by omega), cond_true, decide_eq_true (by simp only [List.length_singleton]; omega), cond_true, decide_eq_true (by simp only [List.length_singleton]; omega), cond_true, z2]
            rw [ih (at_ + 2) (by omega) _ (by omega) _ _ (by simp only [List.length_append, List.length_singleton]; omega) (by simp only [List.length_append, List.length_singleton]; omega)]
            simp
          · rw [decide_eq_false (show ¬ (l.length : Int) < ((at_ + 2 : Nat) : Int) by omega), cond_false, decide_eq_true (show (0 : Int) ≤ ((at_ + 1 : Nat) : Int) by omega), cond_true, decide_eq_true (show ((at_ + 1 : Nat) : Int) < l.length by omega), cond_true, decide_eq_true (by simp only [List.length_singleton]; omega), cond_true, decide_eq_true (by simp only [List.length_singleton]; omega), cond_true]
            rw [ih (at_ + 2) (by omega) _ (by omega) _ _ (by simp only [List.length_append, List.length_singleton]; omega) (by simp only [List.length_append, List.length_singleton]; omega)]
            simp
      · simp only [decide_eq_false c2, cond_false, if_neg c2]
        by_cases c1 : l.length < at_ + 1
        · have z := pk_none (show l.length ≤ at_ by omega) 10
          rw [decide_eq_true (show (l.length : Int) < ((at_ + 1 : Nat) : Int) by omega), cond_true, z, w64_id (n := key + 1 + 0) (by omega) (by omega)]
          rw [ih (at_ + 1) (by omega) _ (by omega) _ _ (by simp only [List.length_append, List.length_singleton]; omega) (by omega)]
          simp
        · rw [decide_eq_false (show ¬ (l.length : Int) < ((at_ + 1 : Nat) : Int) by omega), cond_false, decide_eq_true (show (0 : Int) ≤ (at_ : Int) by omega), cond_true, decide_eq_true (show (at_ : Int) < l.length by omega), cond_true]
          rw [ih (at_ + 1) (by omega) _ (by omega) _ _ (by simp only [List.length_append, List.length_singleton]; omega) (by omega)]
          simp
    · rw [decide_eq_false hk, cond_false, if_neg hk]; simp
theorem s_law03_Made {l : List Int} (hl : U16 l) (hn : l.length < 9223372036854775808) : S_law03_Made l = some (madeT l) := by
  refine lim_eq 10 fun N hN => ?_
  have q0 := pk_range hl 0 (n := 2) (by omega)
  have q1 := pk_range hl 1 (n := 60000) (by omega)
  have q2 := pk_range hl 2 (n := 1000) (by omega)
  have q3 := pk_range hl 3 (n := 20) (by omega)
  have q4 := pk_range hl 4 (n := 8) (by omega)
  have key := fun kind seq => Made_L1 hl hn (kind := kind) (seq := seq) (pk l 4 8 + 1).toNat N 5 (pk l 4 8) (pk l 3 20) 5 [] [] (by omega) rfl (by omega) (by omega) (by omega) (by omega) (by simp; omega) (by simp; omega) (by omega)
  simp only [List.nil_append] at key
  have hm : 0 ≤ pk l 1 60000 * (1 + pk l 2 1000) ∧ pk l 1 60000 * (1 + pk l 2 1000) ≤ 60000 * 1001 := by
    refine ⟨Int.mul_nonneg q1.1 (by omega), Int.mul_le_mul (by omega) (by omega) (by omega) (by omega)⟩
  have w0 : w64 (1 + pk l 0 2) = 1 + pk l 0 2 := w64_id (by omega) (by omega)
  have w1 : w64 (1 + pk l 2 1000) = 1 + pk l 2 1000 := w64_id (by omega) (by omega)
  have w2 : w64 (pk l 1 60000 * (1 + pk l 2 1000)) = pk l 1 60000 * (1 + pk l 2 1000) := w64_id (by omega) (by omega)
  unfold G_law03_Made madeT
  simp only [pk_tmod hl, w0, w1, w2]
  by_cases c1 : l.length < 1
  · simp only [pk_none (show l.length ≤ 0 by omega), pk_none (show l.length ≤ 1 by omega), pk_none (show l.length ≤ 2 by omega), pk_none (show l.length ≤ 3 by omega), pk_none (show l.length ≤ 4 by omega)] at key ⊢
    rw [decide_eq_true (show (l.length : Int) < 1 by omega), cond_true, decide_eq_true (show (l.length : Int) < 2 by omega), cond_true, decide_eq_true (show (l.length : Int) < 3 by omega), cond_true, decide_eq_true (show (l.length : Int) < 4 by omega), cond_true, decide_eq_true (show (l.length : Int) < 5 by omega), cond_true]
    exact key 1 0
  · rw [decide_eq_false (show ¬ (l.length : Int) < 1 by omega), cond_false, decide_eq_true (show (0 : Int) < l.length by omega), cond_true]
    by_cases c2 : l.length < 2
    · simp only [pk_none (show l.length ≤ 1 by omega), pk_none (show l.length ≤ 2 by omega), pk_none (show l.length ≤ 3 by omega), pk_none (show l.length ≤ 4 by omega)] at key ⊢
      rw [decide_eq_true (show (l.length : Int) < 2 by omega), cond_true, decide_eq_true (show (l.length : Int) < 3 by omega), cond_true, decide_eq_true (show (l.length : Int) < 4 by omega), cond_true, decide_eq_true (show (l.length : Int) < 5 by omega), cond_true]
      exact key _ 0
    · rw [decide_eq_false (show ¬ (l.length : Int) < 2 by omega), cond_false, decide_eq_true (show (1 : Int) < l.length by omega), cond_true]
      by_cases c3 : l.length < 3
      · simp only [pk_none (show l.length ≤ 2 by omega), pk_none (show l.length ≤ 3 by omega), pk_none (show l.length ≤ 4 by omega)] at key ⊢
        rw [decide_eq_true (show (l.length : Int) < 3 by omega), cond_true, decide_eq_true (show (l.length : Int) < 4 by omega), cond_true, decide_eq_true (show (l.length : Int) < 5 by omega), cond_true, w64_id (n := pk l 1 60000 * 1) (by omega) (by omega)]
        exact key _ _
      · rw [decide_eq_false (show ¬ (l.length : Int) < 3 by omega), cond_false, decide_eq_true (show (2 : Int) < l.length by omega), cond_true]
        by_cases c4 : l.length < 4
        · simp only [pk_none (show l.length ≤ 3 by omega), pk_none (show l.length ≤ 4 by omega)] at key ⊢
          rw [decide_eq_true (show (l.length : Int) < 4 by omega), cond_true, decide_eq_true (show (l.length : Int) < 5 by omega), cond_true]
          exact key _ _
        · rw [decide_eq_false (show ¬ (l.length : Int) < 4 by omega), cond_false, decide_eq_true (show (3 : Int) < l.length by omega), cond_true]
          by_cases c5 : l.length < 5
          · simp only [pk_none (show l.length ≤ 4 by omega)] at key ⊢
            rw [decide_eq_true (show (l.length : Int) < 5 by omega), cond_true]
            exact key _ _
          · rw [decide_eq_false (show ¬ (l.length : Int) < 5 by omega), cond_false, decide_eq_true (show (4 : Int) < l.length by omega), cond_true]
            exact key _ _
theorem mkL_len (l : List Int) (kind : Int) : ∀ (n a : Nat) (key : Int), (mkL l kind n a key).1.length ≤ n ∧ (mkL l kind n a key).2.length ≤ n
  | 0, a, key => by simp [mkL]
  | n + 1, a, key => by
    unfold mkL
    split
    · split
      · have := mkL_len l kind n (a + 2) (key + 1 + pk l a 10)
        simp only [List.length_cons]; omega
      · have := mkL_len l kind n (a + 1) (key + 1 + pk l a 10)
        simp only [List.length_cons]; omega
    · simp
theorem madeT_ok {l : List Int} (hl : U16 l) : RecOk (madeT l) ∧ (madeT l).keys.length ≤ 8 := by
  have q4 := pk_range hl 4 (n := 8) (by omega)
  have := mkL_len l (1 + pk l 0 2) (pk l 4 8 + 1).toNat 5 (pk l 3 20)
  unfold madeT RecOk
  simp only
  omega
end Clk
namespace Clk
open Go
set_option linter.unusedVariables false
theorem encT_len (r : Record) (data : Str) : (encT r data).1.length ≤ 204 := by
  unfold encT
  split
  · simp
  · rename_i h
    have := bodyT_len (r := r) (by cases hr : rightT r with
      | true => rfl
      | false => exact absurd (.inl hr) h)
    simp only [List.length_append, bytes4, List.length_cons, List.length_nil]; omega
theorem makeT_ok {w : Write} (h : WriteOk w) : PageOk (makeT w).1 := by
  have := encT_len w.record w.data
  unfold makeT
  split
  · exact ⟨by simp, by simp⟩
  · exact ⟨by simp only; omega, h.2⟩
def pgT (seq : Int) (l : List Int) : Page := (makeT ⟨[100], ⟨(madeT l).kind, seq, (madeT l).keys, (madeT l).values⟩⟩).1
theorem pgT_w {l : List Int} (hl : U16 l) (seq : Int) : WriteOk ⟨[100], ⟨(madeT l).kind, seq, (madeT l).keys, (madeT l).values⟩⟩ := ⟨(madeT_ok hl).1, by simp⟩
theorem s_law06_Page {seq : Int} {l : List Int} (hl : U16 l) (hn : l.length < 9223372036854775808) : S_law06_Page (seq, l) = some (pgT seq l) := by
  show G_law06_Page seq l = _
  unfold G_law06_Page
  rw [s_law03_Made hl hn, some_bind', s_ref04_Make (pgT_w hl seq)]; rfl
def nextAt (l : List Int) (a : Nat) : Nat := min (a + 1 + (l.getD a 0).toNat / 50 % 8) l.length
def stepC (l : List Int) (m : Int) (a : Nat) (c : Chip) : Chip :=
  let n := l.getD a 0
  let page := pgT (n / 7 % 30) ((l.drop a).take (nextAt l a - a))
  let f : Fate := if n % 11 = 0 then ⟨1, [120], page.tag, 0⟩ else zFate
  let c1 := if n % 29 = 0 then (eraT c (n % m) zFate).1 else c
  let r := progT c1 (n % m) (nextOf c1 (n % m)) page f
  if r.2 = 1 then c1 else r.1
def chipL (l : List Int) (m : Int) : Nat → Nat → Chip → Chip
  | 0, _, c => c
  | k + 1, a, c => if a < l.length then chipL l m k (max (nextAt l a) (a + 1)) (stepC l m a c) else c
def chipT (l : List Int) (blocks pages : Int) : Chip := chipL l blocks 40 0 (newT blocks pages []).1
theorem eraT_ok {c : Chip} (h : ChipOk c) (b : Int) (f : Fate) : ChipOk (eraT c b f).1 ∧ (eraT c b f).1.blocks.length = c.blocks.length := by
  unfold eraT
  split
  · exact ⟨h, rfl⟩
  · split
    · rename_i hc
      unfold canEra at hc
      simp only [Bool.and_eq_true, decide_eq_true_eq] at hc
      refine ⟨⟨by simpa using h.1, fun x hx => ?_⟩, by simp⟩
      rcases List.mem_or_eq_of_mem_set hx with h3 | rfl
      · exact h.2 x h3
      · have := h.get (show b.toNat < c.blocks.length by omega) default
        unfold eraBlock
        split
        · exact this
        · simp only [clrT_len]; exact this
    · exact ⟨h, rfl⟩
theorem clrT_ok (all : Bool) (n : Int) : ∀ (i : Nat) (l : List Page), (∀ p ∈ l, PageOk p) → ∀ p ∈ clrT all n i l, PageOk p
  | _, [], _, p, hp => by cases hp
  | i, q :: l, h, p, hp => by
    unfold clrT at hp
    rcases List.mem_cons.1 hp with rfl | hp
    · split
      · exact ⟨by simp [zPage], by simp [zPage]⟩
      · exact h _ List.mem_cons_self
    · exact clrT_ok all n (i + 1) l (fun x hx => h x (List.mem_cons_of_mem _ hx)) p hp
theorem eraT_pages {c : Chip} (h : PagesOk c) (b : Int) (f : Fate) : PagesOk (eraT c b f).1 := by
  unfold eraT
  split
  · exact h
  · split
    · rename_i hc
      unfold canEra at hc
      simp only [Bool.and_eq_true, decide_eq_true_eq] at hc
      intro x hx
      rcases List.mem_or_eq_of_mem_set hx with h3 | rfl
      · exact h x h3
      · have := h _ (getD_mem' (d := default) (show b.toNat < c.blocks.length by omega))
        unfold eraBlock
        split
        · exact this
        · exact clrT_ok _ _ 0 _ this
    · exact h
theorem progT_pages {c : Chip} (h : PagesOk c) (b p : Int) {page : Page} {f : Fate} (hp : PageOk page) (hf : f.tag.length < 4294967296 ∧ f.data.length < 4294967296) : PagesOk (progT c b p page f).1 := by
  unfold progT
  split
  · exact h
  · split
    · rename_i hc
      obtain ⟨h1, h2, _⟩ := canProg_iff.1 hc
      intro x hx
      rcases List.mem_or_eq_of_mem_set hx with h3 | rfl
      · exact h x h3
      · have h4 := h _ (getD_mem' (d := default) (show b.toNat < c.blocks.length by omega))
        unfold newBlock
        intro q hq
        rcases List.mem_or_eq_of_mem_set hq with h5 | rfl
        · exact h4 q h5
        · split
          · exact ⟨hp.1, hp.2⟩
          · exact hf
    · exact h
theorem U16.sub {l m : List Int} (h : U16 l) (hm : ∀ n ∈ m, n ∈ l) : U16 m := fun n hn => h n (hm n hn)
theorem U16.part {l : List Int} (h : U16 l) (a k : Nat) : U16 ((l.drop a).take k) := h.sub fun n hn => List.mem_of_mem_drop (List.mem_of_mem_take hn)
structure CI (c : Chip) (m : Int) : Prop where
  ok : ChipOk c
  pages : PagesOk c
  len : (c.blocks.length : Int) = m
theorem stepC_ok {l : List Int} (hl : U16 l) {m : Int} {a : Nat} {c : Chip} (h : CI c m) : CI (stepC l m a c) m := by
  have h1 : CI (if l.getD a 0 % 29 = 0 then (eraT c (l.getD a 0 % m) zFate).1 else c) m := by
    split
    · exact ⟨(eraT_ok h.ok _ _).1, eraT_pages h.pages _ _, by rw [(eraT_ok h.ok _ _).2]; exact h.len⟩
    · exact h
  have h2 : PageOk (pgT (l.getD a 0 / 7 % 30) ((l.drop a).take (nextAt l a - a))) := makeT_ok (pgT_w (hl.part a _) _)
  have h3 : (if l.getD a 0 % 11 = 0 then (⟨1, [120], (pgT (l.getD a 0 / 7 % 30) ((l.drop a).take (nextAt l a - a))).tag, 0⟩ : Fate) else zFate).tag.length < 4294967296 ∧ (if l.getD a 0 % 11 = 0 then (⟨1, [120], (pgT (l.getD a 0 / 7 % 30) ((l.drop a).take (nextAt l a - a))).tag, 0⟩ : Fate) else zFate).data.length < 4294967296 := by
    split
    · exact ⟨h2.1, by simp⟩
    · exact ⟨by simp [zFate], by simp [zFate]⟩
  unfold stepC
  simp only
  generalize (if l.getD a 0 % 29 = 0 then (eraT c (l.getD a 0 % m) zFate).1 else c) = c1 at h1
  generalize (if l.getD a 0 % 11 = 0 then (⟨1, [120], (pgT (l.getD a 0 / 7 % 30) ((l.drop a).take (nextAt l a - a))).tag, 0⟩ : Fate) else zFate) = f at h3
  split
  · exact h1
  · exact ⟨progT_ok h1.ok _ _ _ _, progT_pages h1.pages _ _ h2 h3, by rw [progT_blocks]; exact h1.len⟩
theorem law06_Made_L1 {l : List Int} (hl : U16 l) (hn : l.length < 9223372036854775808) {m : Int} (hm : 0 < m) (hm2 : m < 4294967296) : ∀ (k N a : Nat) (ai i : Int) (c : Chip), ai = a → i = 40 - (k : Int) → k ≤ 40 → a + 10 * k ≤ 400 → CI c m → k < N → iterF F_law06_Made_L1 N (l, m, ai, i, c) = some (chipL l m k a c)
  | k, 0, _, _, _, _, _, _, _, _, _, h => by omega
  | 0, N + 1, a, ai, i, c, h1, h2, _, _, _, _ => by
    rw [iterF_succ, F_law06_Made_L1_eq]
    unfold G_law06_Made_L1
    simp only [chipL]
    rw [decide_eq_false (by omega), cond_false]
  | k + 1, N + 1, a, ai, i, c, h1, h2, h3, ha4, h4, h5 => by
    subst h1
    rw [iterF_succ, F_law06_Made_L1_eq]
    unfold G_law06_Made_L1
    simp only [Int.toNat_natCast, chipL]
    rw [decide_eq_true (show i < 40 by omega), cond_true]
    by_cases ha : a < l.length
    · rw [decide_eq_true (show (a : Int) < l.length by omega), cond_true, if_pos ha]
      have hg := hl.get a
      have hci := stepC_ok hl (a := a) h4
      have hna : nextAt l a ≤ a + 10 := by unfold nextAt; omega
      have ih := law06_Made_L1 hl hn hm hm2 k N (max (nextAt l a) (a + 1)) ((max (nextAt l a) (a + 1) : Nat) : Int) (w64 (i + 1)) _ rfl (by rw [w64_id (by omega) (by omega)]; omega) (by omega) (by omega) hci (by omega)
      rw [← ih]
      obtain ⟨q, hq⟩ : ∃ q : Nat, l.getD a 0 = q := ⟨(l.getD a 0).toNat, by omega⟩
      have hnx : nextAt l a = min (a + 1 + q / 50 % 8) l.length := by unfold nextAt; rw [hq]; rfl
      have b0 : ∀ m : Int, 0 < m → Int.tmod (q : Int) m = (q : Int) % m := fun m hm => Int.tmod_eq_emod_of_nonneg (by omega)
      have bm : 0 ≤ (q : Int) % m ∧ (q : Int) % m < m := ⟨Int.emod_nonneg _ (by omega), Int.emod_lt_of_pos _ hm⟩
      have d50 : Int.tdiv (q : Int) 50 = ((q / 50 : Nat) : Int) := tdiv_nat q 50
      have d7 : Int.tdiv (q : Int) 7 = ((q / 7 : Nat) : Int) := tdiv_nat q 7
      have m8 : Int.tmod ((q / 50 : Nat) : Int) 8 = ((q / 50 % 8 : Nat) : Int) := tmod_nat (q / 50) 8
      have m30 : Int.tmod ((q / 7 : Nat) : Int) 30 = ((q / 7 % 30 : Nat) : Int) := tmod_nat (q / 7) 30
      have m11 : Int.tmod (q : Int) 11 = (q : Int) % 11 := b0 11 (by omega)
      have m29 : Int.tmod (q : Int) 29 = (q : Int) % 29 := b0 29 (by omega)
      have emin : min (w64 (w64 ((a : Int) + 1) + ((q / 50 % 8 : Nat) : Int))) (l.length : Int) = ((nextAt l a : Nat) : Int) := by
        rw [w64_id (n := (a : Int) + 1) (by omega) (by omega), w64_id (by omega) (by omega), hnx]; omega
      have eseq : ((q / 7 % 30 : Nat) : Int) = l.getD a 0 / 7 % 30 := by rw [hq]; omega
      have hpage : S_law06_Page (((q / 7 % 30 : Nat) : Int), (l.drop a).take (Int.toNat ((nextAt l a : Nat) : Int) - a)) = some (pgT (l.getD a 0 / 7 % 30) ((l.drop a).take (nextAt l a - a))) := by
        rw [s_law06_Page (hl.part a _) (by simp only [List.length_take, List.length_drop]; omega), eseq, Int.toNat_natCast]
      have emax : max ((nextAt l a : Nat) : Int) (w64 ((a : Int) + 1)) = ((max (nextAt l a) (a + 1) : Nat) : Int) := by rw [w64_id (n := (a : Int) + 1) (by omega) (by omega)]; omega
      have wi : w64 (i + 1) = i + 1 := w64_id (by omega) (by omega)
      simp only [hq]
      rw [w64_id (n := (q : Int)) (by omega) (by omega), d50, d7, w64_id (n := ((q / 50 : Nat) : Int)) (by omega) (by omega), w64_id (n := ((q / 7 : Nat) : Int)) (by omega) (by omega), m8, m30, m11, m29, b0 m hm, emin, emax, hpage]
      simp only [some_bind', s_ref05_Erase h4.ok]
      rw [decide_eq_true (show (0 : Int) ≤ a by omega), decide_eq_false (show ¬ m = 0 by omega), decide_eq_true (show (a : Int) ≤ ((nextAt l a : Nat) : Int) by rw [hnx]; omega), decide_eq_true (show ((nextAt l a : Nat) : Int) ≤ l.length by rw [hnx]; omega), decide_eq_true bm.1]
      simp only [cond_true, Bool.not_false]
      have fin : ∀ (c1 : Chip) (f : Fate), CI c1 m → c1 = (if l.getD a 0 % 29 = 0 then (eraT c (l.getD a 0 % m) zFate).1 else c) → f = (if l.getD a 0 % 11 = 0 then (⟨1, [120], (pgT (l.getD a 0 / 7 % 30) ((l.drop a).take (nextAt l a - a))).tag, 0⟩ : Fate) else zFate) →
          (cond (decide ((q : Int) % m < ((c1.blocks.length : Nat) : Int))) (Option.bind (S_ref05_Program (c1, (q : Int) % m, (c1.blocks.getD (Int.toNat ((q : Int) % m)) default).next, pgT (l.getD a 0 / 7 % 30) ((l.drop a).take (nextAt l a - a)), f)) fun r8 =>
          cond (!(decide (r8.2 = 1)))
            (iterF F_law06_Made_L1 N (l, m, ((max (nextAt l a) (a + 1) : Nat) : Int), (w64 (i + 1)), r8.1))
            (iterF F_law06_Made_L1 N (l, m, ((max (nextAt l a) (a + 1) : Nat) : Int), (w64 (i + 1)), c1))) none) = iterF F_law06_Made_L1 N (l, m, ((max (nextAt l a) (a + 1) : Nat) : Int), (w64 (i + 1)), stepC l m a c) := by
        intro c1 f hc1 e1 e2
        have est : stepC l m a c = if (progT c1 ((q : Int) % m) (nextOf c1 ((q : Int) % m)) (pgT (l.getD a 0 / 7 % 30) ((l.drop a).take (nextAt l a - a))) f).2 = 1 then c1 else (progT c1 ((q : Int) % m) (nextOf c1 ((q : Int) % m)) (pgT (l.getD a 0 / 7 % 30) ((l.drop a).take (nextAt l a - a))) f).1 := by
          rw [e1, e2, ← hq]; rfl
        rw [decide_eq_true (by rw [hc1.len]; exact bm.2), cond_true, s_ref05_Program hc1.ok, some_bind', est]
        show cond (!decide ((progT c1 ((q : Int) % m) (nextOf c1 ((q : Int) % m)) (pgT (l.getD a 0 / 7 % 30) ((l.drop a).take (nextAt l a - a))) f).2 = 1)) _ _ = _
        by_cases h : (progT c1 ((q : Int) % m) (nextOf c1 ((q : Int) % m)) (pgT (l.getD a 0 / 7 % 30) ((l.drop a).take (nextAt l a - a))) f).2 = 1
        · rw [decide_eq_true h, Bool.not_true, cond_false, if_pos h]
        · rw [decide_eq_false h, Bool.not_false, cond_true, if_neg h]; rfl
      have hce : CI (eraT c ((q : Int) % m) zFate).1 m := ⟨(eraT_ok h4.ok _ _).1, eraT_pages h4.pages _ _, by rw [(eraT_ok h4.ok _ _).2]; exact h4.len⟩
      by_cases x11 : (q : Int) % 11 = 0
      · rw [decide_eq_true x11, cond_true]
        by_cases x29 : (q : Int) % 29 = 0
        · rw [decide_eq_true x29, cond_true]
          exact fin _ _ hce (by rw [hq, if_pos x29] <;> rfl) (by rw [hq, if_pos x11])
        · rw [decide_eq_false x29, cond_false]
          exact fin _ _ h4 (by rw [hq, if_neg x29]) (by rw [hq, if_pos x11])
      · rw [decide_eq_false x11, cond_false]
        by_cases x29 : (q : Int) % 29 = 0
        · rw [decide_eq_true x29, cond_true]
          exact fin _ _ hce (by rw [hq, if_pos x29] <;> rfl) (by rw [hq, if_neg x11]; rfl)
        · rw [decide_eq_false x29, cond_false]
          exact fin _ _ h4 (by rw [hq, if_neg x29]) (by rw [hq, if_neg x11]; rfl)
    · rw [decide_eq_false (show ¬ (a : Int) < l.length by omega), cond_false, if_neg ha]
theorem newL_nil (n : Int) (bs : List Block) : newL n [] bs = (⟨bs, false, false, 0⟩, 0) := rfl
theorem newT_CI {g : Geometry} (hg : g ∈ smalls) : CI (newT g.blocks g.pages []).1 g.blocks ∧ 0 < g.blocks ∧ g.blocks < 4294967296 := by
  have : 1 ≤ g.blocks ∧ g.blocks ≤ 32 ∧ 1 ≤ g.pages ∧ g.pages ≤ 16 := by
    simp only [smalls, List.mem_cons, List.not_mem_nil, or_false] at hg
    rcases hg with rfl | rfl | rfl | rfl | rfl | rfl <;> decide
  obtain ⟨h1, h2⟩ := newT_ok g.blocks g.pages []
  refine ⟨⟨h1, h2, ?_⟩, by omega, by omega⟩
  unfold newT
  rw [if_neg (by omega), newL_nil]
  simp only [List.length_replicate]
  omega
theorem s_law06_Made {l : List Int} (hl : U16 l) (hn : l.length < 9223372036854775808) {g : Geometry} (hg : g ∈ smalls) : S_law06_Made (l, g.blocks, g.pages) = some (chipT l g.blocks g.pages) := by
  obtain ⟨h1, h2, h3⟩ := newT_CI hg
  refine lim_eq 41 fun N hN => ?_
  show G_law06_Made N l g.blocks g.pages = _
  unfold G_law06_Made chipT
  rw [s_ref05_New (by simp), some_bind']
  exact law06_Made_L1 hl hn h2 h3 40 N 0 0 0 _ rfl (by omega) (by omega) (by omega) h1 (by omega)
theorem chipL_ok {l : List Int} (hl : U16 l) {m : Int} : ∀ (k a : Nat) (c : Chip), CI c m → CI (chipL l m k a c) m
  | 0, a, c, h => h
  | k + 1, a, c, h => by
    unfold chipL
    split
    · exact chipL_ok hl k _ _ (stepC_ok hl h)
    · exact h
theorem chipT_ok {l : List Int} (hl : U16 l) {g : Geometry} (hg : g ∈ smalls) : CI (chipT l g.blocks g.pages) g.blocks := chipL_ok hl 40 0 _ (newT_CI hg).1
def devT (l : List Int) (n : Int) : Device := (mountT (smallT n) (chipT l (smallT n).blocks (smallT n).pages)).1
theorem smallT_mem (n : Int) : smallT n ∈ smalls := small_cases (P := (· ∈ smalls)) (fun g h => h) n
theorem s_law15_Made {l : List Int} (hl : U16 l) (hn : l.length < 9223372036854775808) {n : Int} (h0 : 0 ≤ n) (h1 : n < 256) : S_law15_Made (l, n) = some (devT l n) := by
  have hc := chipT_ok hl (smallT_mem n)
  show G_law15_Made l n = _
  unfold G_law15_Made
  rw [s_Small h0 h1, some_bind', s_law06_Made hl hn (smallT_mem n), some_bind', s_Mount hc.ok hc.pages]; rfl
theorem replayT_ok (c : Chip) (n : Int) : TabOk (replayT c n).1 := by
  obtain ⟨h1, h2⟩ := repL_len (allT c) (tabT n) 0
  have := tabT_ok n
  unfold replayT
  exact ⟨by rw [h1]; exact this.1, by rw [h2]; exact this.2⟩
theorem mountT_ok {g : Geometry} {c : Chip} (h : ChipOk c) : DevOk (mountT g c).1 := by
  unfold mountT
  split
  · exact ⟨⟨by simp [zDev], fun b hb => by simp [zDev] at hb⟩, ⟨by simp [zDev], by simp [zDev]⟩⟩
  · split
    · exact ⟨⟨by simp [zDev], fun b hb => by simp [zDev] at hb⟩, ⟨by simp [zDev], by simp [zDev]⟩⟩
    · exact ⟨⟨h.1, h.2⟩, replayT_ok c _⟩
theorem devT_ok {l : List Int} (hl : U16 l) (n : Int) : DevOk (devT l n) := mountT_ok (chipT_ok hl (smallT_mem n)).ok
def awakeT : Bool :=
  let d := (formatT (smallT 0) []).1
  let a := putD d ⟨[120], ⟨1, 0, [2], []⟩⟩ [⟨1, [], [], 0⟩, zFate, zFate]
  let f := putD d ⟨[], ⟨0, 0, [], []⟩⟩ []
  let b := putD d ⟨[120], ⟨1, 0, [2], []⟩⟩ [⟨2, [], [], 0⟩]
  decide (a.2.2 = 0) && decide (a.2.1.length = 1) && decide (a.1.chip.blocks.length = 8) && (a.1.chip.blocks.getD 0 default).bad && decide (a.1.opn = 1) && decide (a.1.seq = 1) && decide (f.2.2 = 1) && decide (b.2.2 = 52) && b.1.chip.off
set_option maxRecDepth 100000 in
theorem awake_ok : awakeT = true := by kernel_rfl
theorem formatT_ok {g : Geometry} {bad : List Int} : DevOk (formatT g bad).1 := by
  unfold formatT
  split
  · exact ⟨⟨by simp [zDev], fun b hb => by simp [zDev] at hb⟩, ⟨by simp [zDev], by simp [zDev]⟩⟩
  · exact mountT_ok (newT_ok _ _ _).1
theorem s_awake : S_law15_awake () = some true := by
  have hd : DevOk (formatT (smallT 0) []).1 := formatT_ok
  have h := awake_ok
  show G_law15_awake = _
  unfold G_law15_awake
  rw [s_Small (by omega) (by omega), some_bind', s_Format (by simp), some_bind', s_write_Put hd ⟨⟨by simp, by simp⟩, by simp⟩, some_bind', s_write_Put hd ⟨⟨by simp, by simp⟩, by simp⟩, some_bind', s_write_Put hd ⟨⟨by simp, by simp⟩, by simp⟩, some_bind']
  unfold awakeT zFate at h
  simp only [Bool.and_eq_true, decide_eq_true_eq] at h
  obtain ⟨⟨⟨⟨⟨⟨⟨⟨h1, h2⟩, h3⟩, h4⟩, h5⟩, h6⟩, h7⟩, h8⟩, h9⟩ := h
  rw [decide_eq_true h1, cond_true, decide_eq_true (by omega), cond_true, decide_eq_true (by omega), cond_true, decide_eq_true (by omega), cond_true, h4, cond_true, decide_eq_true h5, cond_true, decide_eq_true h6, cond_true, decide_eq_true h7, cond_true, decide_eq_true h8, cond_true, h9]
end Clk
namespace Clk
open Go
set_option linter.unusedVariables false
theorem getD_set_ne' {α : Type} {l : List α} {i j : Nat} {x d : α} (h : i ≠ j) : (l.set i x).getD j d = l.getD j d := by
  rw [List.getD_eq_getElem?_getD, List.getElem?_set_ne h, ← List.getD_eq_getElem?_getD]
end Clk
namespace Clk
open Go
set_option linter.unusedVariables false
theorem ofNat_toNat {n : Nat} (h : n < 256) : (UInt8.ofNat n).toNat = n := by simp; omega
theorem take_putN : ∀ (f n acc u : Nat) (first : Bool) (rest : Str), n < 128 ^ (f + 1) → acc + n * u ≤ 1099511627776 → (first = true ∨ 0 < n) → takeN (f + 1) first acc u (putN f n ++ rest) = (((acc + n * u : Nat) : Int), rest, true)
  | 0, n, acc, u, first, rest, h1, h2, h3 => by
    have hn : n < 128 := by simpa using h1
    simp only [putN, List.singleton_append, takeN, ofNat_toNat (show n < 256 by omega)]
    rw [if_pos hn, if_neg]
    rintro (h | ⟨h, h'⟩)
    · omega
    · rcases h3 with h3 | h3
      · rw [h3] at h; cases h
      · omega
  | f + 1, n, acc, u, first, rest, h1, h2, h3 => by
    unfold putN
    by_cases hn : 127 < n
    · rw [if_pos hn]
      simp only [List.cons_append, takeN, ofNat_toNat (show 128 + n % 128 < 256 by omega)]
      have e1 : (128 + n % 128) % 128 = n % 128 := by omega
      have e2 : acc + n % 128 * u + n / 128 * (u * 128) = acc + n * u := by
        have : n * u = n % 128 * u + n / 128 * (u * 128) := by
          have h := Nat.div_add_mod n 128
          calc n * u = (128 * (n / 128) + n % 128) * u := by rw [h]
            _ = n % 128 * u + n / 128 * (u * 128) := by rw [Nat.add_mul, Nat.add_comm]; congr 1; rw [Nat.mul_comm 128, Nat.mul_assoc, Nat.mul_comm 128]
        omega
      rw [if_neg (by omega), e1, take_putN f (n / 128) _ _ false rest (by rw [Nat.pow_succ] at h1; omega) (by rw [e2]; exact h2) (.inr (by omega)), e2]
    · rw [if_neg hn]
      simp only [List.singleton_append, takeN, ofNat_toNat (show n < 256 by omega)]
      rw [if_pos (by omega), if_neg]
      rintro (h | ⟨h, h'⟩)
      · omega
      · rcases h3 with h3 | h3
        · rw [h3] at h; cases h
        · omega
def Small40 (n : Int) : Prop := 0 ≤ n ∧ n ≤ 1099511627776
theorem take_putV {n : Int} (h : Small40 n) (rest : Str) : takeT (putV n ++ rest) = (n, rest, true) := by
  unfold putV takeT
  rw [if_neg (by have := h.1; have := h.2; omega)]
  obtain ⟨h1, h2⟩ := h
  rw [take_putN 5 n.toNat 0 1 true rest (by have : (128 : Nat) ^ (5 + 1) = 4398046511104 := rfl; omega) (by omega) (.inl rfl)]
  have : ((0 + n.toNat * 1 : Nat) : Int) = n := by omega
  rw [this]
def flatP (l : List Int) : Str := l.flatMap putV
theorem packL_flat : ∀ (l : List Int) (s : Str), (∀ n ∈ l, Small40 n) → packL l s = (s ++ flatP l, 0)
  | [], s, _ => by simp [packL, flatP]
  | n :: l, s, h => by
    obtain ⟨h1, h2⟩ := h n List.mem_cons_self
    unfold packL
    have : putV n ≠ [] := by unfold putV; rw [if_neg (by omega)]; exact putN_ne 5 _
    rw [if_neg this, packL_flat l _ fun m hm => h m (List.mem_cons_of_mem _ hm)]
    simp [flatP]
theorem flatP_len : ∀ (l : List Int), (∀ n ∈ l, Small40 n) → l.length ≤ (flatP l).length
  | [], _ => Nat.zero_le _
  | n :: l, h => by
    obtain ⟨h1, h2⟩ := h n List.mem_cons_self
    have h3 := flatP_len l fun m hm => h m (List.mem_cons_of_mem _ hm)
    have : putV n ≠ [] := by unfold putV; rw [if_neg (by omega)]; exact putN_ne 5 _
    have : 0 < (putV n).length := List.length_pos_iff.2 this
    simp only [flatP, List.flatMap_cons, List.length_append, List.length_cons] at h3 ⊢
    omega
theorem unpackL_flat : ∀ (l : List Int) (rest : Str) (acc : List Int), (∀ n ∈ l, Small40 n) → unpackL l.length (flatP l ++ rest) acc = (acc ++ l, rest, 0)
  | [], rest, acc, _ => by simp [unpackL, flatP]
  | n :: l, rest, acc, h => by
    have e : flatP (n :: l) ++ rest = putV n ++ (flatP l ++ rest) := by simp [flatP]
    simp only [List.length_cons, unpackL, e, take_putV (h n List.mem_cons_self)]
    rw [if_neg (by simp), unpackL_flat l rest _ fun m hm => h m (List.mem_cons_of_mem _ hm)]
    simp
theorem unpack_pack {l : List Int} (hl : ∀ n ∈ l, Small40 n) (hn : l.length ≤ 1099511627776) (rest : Str) : unpackT ((packT l).1 ++ rest) = (l, rest, 0) := by
  have hf := flatP_len l hl
  have e : (packT l).1 ++ rest = putV l.length ++ (flatP l ++ rest) := by unfold packT; rw [packL_flat l _ hl]; simp
  unfold unpackT
  rw [e, take_putV ⟨by omega, by omega⟩]
  simp only
  rw [if_neg (by simp; omega), Int.toNat_natCast, unpackL_flat l rest [] hl]
  simp
theorem mv_mov {l : List Int} (h : l.all vr = true) : mvT (movT 1 l) = l := by
  unfold mvT movT
  rw [List.map_map]
  conv => rhs; rw [← List.map_id l]
  refine List.map_congr_left fun n hn => ?_
  have := vr_range h n hn
  show w64 (w64 (n + 1) - 1) = n
  rw [w64_id (n := n + 1) (by omega) (by omega), w64_id (by omega) (by omega)]; omega
theorem dec_enc {r : Record} {data : Str} (h : rightT r = true) (hd : data.length ≤ 16) : decT (encT r data).1 data = (r, 0) := by
  obtain ⟨k0, k1, k2, k3, k4, k5, k6, k7⟩ := rightT_len h
  have hk : ∀ n ∈ r.keys, Small40 n := fun n hn => by have := keysT_range k7 n hn; exact ⟨by omega, by omega⟩
  have hv : ∀ n ∈ movT 1 r.values, Small40 n := fun n hn => by
    unfold movT at hn
    obtain ⟨m, hm, rfl⟩ := List.mem_map.1 hn
    have := vr_range k6 m hm
    rw [w64_id (by omega) (by omega)]; exact ⟨by omega, by omega⟩
  have hh : ∀ n ∈ [r.kind, r.seq], Small40 n := fun n hn => by
    simp only [List.mem_cons, List.not_mem_nil, or_false] at hn
    rcases hn with rfl | rfl
    · exact ⟨by omega, by omega⟩
    · exact ⟨k3, k4⟩
  have hml : (movT 1 r.values).length = r.values.length := by simp [movT]
  have hE : encT r data = (bodyT r ++ bytes4 (crcT (bodyT r ++ data)), 0) := by
    unfold encT
    rw [if_neg]
    rintro (h1 | h1)
    · rw [h] at h1; cases h1
    · omega
  generalize hX : bytes4 (crcT (bodyT r ++ data)) = X at hE
  have u1 : unpackT (encT r data).1 = ([r.kind, r.seq], (packT r.keys).1 ++ ((packT (movT 1 r.values)).1 ++ X), 0) := by
    rw [hE]
    unfold bodyT
    simp only [List.append_assoc]
    exact unpack_pack hh (by simp) _
  have u2 : unpackT ((packT r.keys).1 ++ ((packT (movT 1 r.values)).1 ++ X)) = (r.keys, (packT (movT 1 r.values)).1 ++ X, 0) := unpack_pack hk (by omega) _
  have u3 : unpackT ((packT (movT 1 r.values)).1 ++ X) = (movT 1 r.values, X, 0) := unpack_pack hv (by omega) _
  have hr : (⟨r.kind, r.seq, r.keys, mvT (movT 1 r.values)⟩ : Record) = r := by rw [mv_mov k6]
  unfold decT
  rw [u1]
  simp only
  rw [u2]
  simp only
  rw [u3]
  simp only [List.length_cons, List.length_nil]
  rw [if_neg (by simp)]
  have e0 : [r.kind, r.seq].getD 0 0 = r.kind := rfl
  have e1 : [r.kind, r.seq].getD 1 0 = r.seq := rfl
  rw [e0, e1, hr, if_neg]
  rw [hE]
  simp
theorem look_right {p : Page} (h : (lookT p).1 = 1) : rightT (lookT p).2 = true := by
  unfold lookT at h ⊢
  split at h
  · simp at h
  · rename_i h1
    rw [if_neg h1]
    split at h
    · simp at h
    · rename_i h2
      rw [if_neg h2]
      simp only [ne_eq, Decidable.not_not] at h2
      simp only
      unfold decT at h2 ⊢
      split at h2
      · simp at h2
      · rename_i h3
        rw [if_neg h3]
        split at h2
        · simp at h2
        · rename_i h4
          rw [if_neg h4]
          simp only
          generalize hR : (⟨(unpackT p.tag).1.getD 0 0, (unpackT p.tag).1.getD 1 0, (unpackT (unpackT p.tag).2.1).1, mvT (unpackT (unpackT (unpackT p.tag).2.1).2.1).1⟩ : Record) = R at h4
          cases hr : rightT R with
          | true => rfl
          | false =>
            exfalso
            apply h4
            left
            unfold encT
            rw [if_pos (.inl hr)]; simp
set_option maxRecDepth 100000 in
theorem torn_corrupt : ∀ t ∈ ([[], [120], [2, 1]] : List Str), (lookT ⟨true, torn, t⟩).1 = 2 := by
  intro t ht
  simp only [List.mem_cons, List.not_mem_nil, or_false] at ht
  rcases ht with rfl | rfl | rfl <;> kernel_rfl
theorem torn_look : lookT ⟨true, torn, []⟩ = (2, zRec) := by kernel_rfl
def TornF (f : Fate) : Prop := f.data = torn ∧ f.tag ∈ ([[], [120], [2, 1]] : List Str)
theorem fate1_torn {n : Int} (h : 0 ≤ n) : TornF (fate1 n) := by
  refine ⟨rfl, ?_⟩
  unfold fate1
  simp only
  have : (Int.tmod n 3).toNat < 3 := by rw [Int.tmod_eq_emod_of_nonneg h]; have := Int.emod_lt_of_pos n (show (0 : Int) < 3 by omega); have := Int.emod_nonneg n (show (3 : Int) ≠ 0 by omega); omega
  exact getD_mem' (by simpa using this)
theorem fatesT_torn {l : List Int} (h : ∀ n ∈ l, 0 ≤ n ∧ n < 256) : ∀ f ∈ fatesT l, TornF f := by
  intro f hf
  unfold fatesT at hf
  obtain ⟨n, hn, rfl⟩ := List.mem_map.1 hf
  exact fate1_torn (h n (List.mem_of_mem_take hn)).1
def vv (b p : Nat) (pg : Page) : List Found := if (lookT pg).1 = 1 ∧ 0 ≤ placeT b p then [⟨placeT b p, (lookT pg).2⟩] else []
def vp (b : Nat) : Nat → List Page → List Found
  | _, [] => []
  | p, pg :: l => vv b p pg ++ vp b (p + 1) l
def vb : Nat → List Block → List Found
  | _, [] => []
  | b, x :: l => vp b 0 x.pages ++ vb (b + 1) l
theorem pagesT_fold (b : Nat) : ∀ (l : List Page) (p : Nat) (out : List Found), pagesT b p l out = (vp b p l).foldl insT out
  | [], p, out => rfl
  | pg :: l, p, out => by
    unfold pagesT vp vv
    rw [pagesT_fold b l (p + 1), List.foldl_append]
    split <;> rfl
theorem blocksT_fold : ∀ (l : List Block) (b : Nat) (out : List Found), blocksT b l out = (vb b l).foldl insT out
  | [], b, out => rfl
  | x :: l, b, out => by
    unfold blocksT vb
    rw [blocksT_fold l (b + 1), List.foldl_append, pagesT_fold]
theorem vp_set (b : Nat) : ∀ (l : List Page) (p j : Nat), j < l.length → ∃ A B, vp b p l = A ++ vv b (p + j) (l.getD j default) ++ B ∧ ∀ q, vp b p (l.set j q) = A ++ vv b (p + j) q ++ B
  | [], p, j, h => by simp at h
  | x :: l, p, 0, h => ⟨[], vp b (p + 1) l, by simp [vp], fun q => by simp [vp]⟩
  | x :: l, p, j + 1, h => by
    obtain ⟨A, B, h1, h2⟩ := vp_set b l (p + 1) j (by simpa using h)
    have e : p + 1 + j = p + (j + 1) := by omega
    refine ⟨vv b p x ++ A, B, ?_, fun q => ?_⟩
    · simp only [vp, h1, e, List.append_assoc]; rfl
    · simp only [List.set_cons_succ, vp, h2, e, List.append_assoc]
theorem vb_set : ∀ (l : List Block) (b i : Nat), i < l.length → ∃ A B, vb b l = A ++ vp (b + i) 0 (l.getD i default).pages ++ B ∧ ∀ y, vb b (l.set i y) = A ++ vp (b + i) 0 y.pages ++ B
  | [], b, i, h => by simp at h
  | x :: l, b, 0, h => ⟨[], vb (b + 1) l, by simp [vb], fun y => by simp [vb]⟩
  | x :: l, b, i + 1, h => by
    obtain ⟨A, B, h1, h2⟩ := vb_set l (b + 1) i (by simpa using h)
    have e : b + 1 + i = b + (i + 1) := by omega
    refine ⟨vp b 0 x.pages ++ A, B, ?_, fun y => ?_⟩
    · simp only [vb, h1, e, List.append_assoc]; rfl
    · simp only [List.set_cons_succ, vb, h2, e, List.append_assoc]
theorem ins_last : ∀ (l : List Found) (x : Found), (∀ y ∈ l, y.record.seq < x.record.seq) → insT l x = l ++ [x]
  | [], x, _ => rfl
  | y :: l, x, h => by
    have h1 := h y List.mem_cons_self
    have : aheadT x y = false := by
      unfold aheadT
      rw [decide_eq_false (by omega), decide_eq_false (show ¬ x.record.seq = y.record.seq by omega)]; rfl
    unfold insT
    rw [this, if_neg (by simp), ins_last l x fun z hz => h z (List.mem_cons_of_mem _ hz)]; rfl
theorem ins_before : ∀ (l : List Found) (x y : Found), y.record.seq < x.record.seq → insT (l ++ [x]) y = insT l y ++ [x]
  | [], x, y, h => by
    have : aheadT y x = true := by unfold aheadT; rw [decide_eq_true h]; rfl
    simp only [List.nil_append, insT]
    rw [if_pos this]; rfl
  | z :: l, x, y, h => by
    simp only [List.cons_append, insT]
    split
    · rfl
    · rw [ins_before l x y h]; rfl
theorem fold_mem : ∀ (B l : List Found) (y : Found), y ∈ B.foldl insT l ↔ y ∈ l ∨ y ∈ B
  | [], l, y => by simp
  | b :: B, l, y => by
    have hi : ∀ (l : List Found) (x : Found), y ∈ insT l x ↔ y = x ∨ y ∈ l := by
      intro l x
      induction l with
      | nil => simp [insT]
      | cons z l ih =>
        unfold insT
        split
        · simp
        · simp only [List.mem_cons, ih]
          constructor
          · rintro (h | h | h)
            · exact .inr (.inl h)
            · exact .inl h
            · exact .inr (.inr h)
          · rintro (h | h | h)
            · exact .inr (.inl h)
            · exact .inl h
            · exact .inr (.inr h)
    simp only [List.foldl_cons, fold_mem B, hi, List.mem_cons]
    constructor
    · rintro ((h | h) | h)
      · exact .inr (.inl h)
      · exact .inl h
      · exact .inr (.inr h)
    · rintro (h | h | h)
      · exact .inl (.inr h)
      · exact .inl (.inl h)
      · exact .inr h
theorem fold_last : ∀ (B l : List Found) (x : Found), (∀ y ∈ B, y.record.seq < x.record.seq) → B.foldl insT (l ++ [x]) = B.foldl insT l ++ [x]
  | [], l, x, _ => rfl
  | b :: B, l, x, h => by
    simp only [List.foldl_cons]
    rw [ins_before l x b (h b List.mem_cons_self)]
    exact fold_last B _ x fun y hy => h y (List.mem_cons_of_mem _ hy)
theorem fold_one {A B : List Found} {x : Found} (h : ∀ y, y ∈ A ∨ y ∈ B → y.record.seq < x.record.seq) : (A ++ [x] ++ B).foldl insT [] = (A ++ B).foldl insT [] ++ [x] := by
  rw [List.foldl_append, List.foldl_append, List.foldl_append]
  have h1 : insT (A.foldl insT []) x = A.foldl insT [] ++ [x] := ins_last _ x fun y hy => h y (.inl (by simpa using (fold_mem A [] y).1 hy))
  simp only [List.foldl_cons, List.foldl_nil, h1]
  exact fold_last B _ x fun y hy => h y (.inr hy)
theorem repL_app : ∀ (l : List Found) (t : Table) (s : Int) (f : Found), repL (l ++ [f]) t s = (applyT (repL l t s).1 f, max (repL l t s).2 (w64 (f.record.seq + 1)))
  | [], t, s, f => rfl
  | x :: l, t, s, f => by
    simp only [List.cons_append, repL]
    exact repL_app l _ _ f
theorem repL_ge : ∀ (l : List Found) (t : Table) (s : Int), s ≤ (repL l t s).2 ∧ ∀ f ∈ l, w64 (f.record.seq + 1) ≤ (repL l t s).2
  | [], t, s => ⟨Int.le_refl _, fun f h => by cases h⟩
  | x :: l, t, s => by
    obtain ⟨h1, h2⟩ := repL_ge l (applyT t x) (max s (w64 (x.record.seq + 1)))
    simp only [repL]
    refine ⟨by omega, fun f hf => ?_⟩
    rcases List.mem_cons.1 hf with rfl | hf
    · omega
    · exact h2 f hf
end Clk
namespace Clk
open Go
set_option linter.unusedVariables false
def BlkG (g : Geometry) (b : Block) : Prop := (b.pages.length : Int) = g.pages ∧ 0 ≤ b.next ∧ ∀ i : Nat, b.next ≤ i → i < b.pages.length → (b.pages.getD i default).written = false
structure ChipG (g : Geometry) (c : Chip) : Prop where
  len : (c.blocks.length : Int) = g.blocks
  each : ∀ b ∈ c.blocks, BlkG g b
  pages : PagesOk c
theorem small_range : ∀ g ∈ smalls, 1 ≤ g.blocks ∧ g.blocks ≤ 32 ∧ 1 ≤ g.pages ∧ g.pages ≤ 16 ∧ fitsT g = true := by
  intro g hg
  simp only [smalls, List.mem_cons, List.not_mem_nil, or_false] at hg
  rcases hg with rfl | rfl | rfl | rfl | rfl | rfl <;> decide
theorem ChipG.ok {g : Geometry} (hg : g ∈ smalls) {c : Chip} (h : ChipG g c) : ChipOk c := by
  obtain ⟨h1, h2, h3, h4, _⟩ := small_range g hg
  refine ⟨by have := h.len; omega, fun b hb => ?_⟩
  have := (h.each b hb).1
  omega
theorem BlkG_prog {g : Geometry} (hg : g ∈ smalls) {bl : Block} (h : BlkG g bl) {p : Int} (h0 : 0 ≤ p) (h1 : p < bl.pages.length) (hn : bl.next = p) (page : Page) (f : Fate) : BlkG g (newBlock bl p page f) := by
  obtain ⟨k1, k2, k3, k4, _⟩ := small_range g hg
  obtain ⟨h2, h3, h4⟩ := h
  have e : w64 (bl.next + 1) = bl.next + 1 := w64_id (by omega) (by omega)
  refine ⟨by simpa [newBlock] using h2, by simp only [newBlock, e]; omega, fun i hi hl => ?_⟩
  simp only [newBlock, e] at hi
  simp only [newBlock, List.length_set] at hl ⊢
  rw [getD_set_ne' (by omega)]
  exact h4 i (by omega) hl
theorem clrT_all (n : Int) : ∀ (i : Nat) (l : List Page), ∀ p ∈ clrT true n i l, p = zPage
  | _, [], p, hp => by cases hp
  | i, q :: l, p, hp => by
    unfold clrT at hp
    rcases List.mem_cons.1 hp with rfl | hp
    · rw [if_pos (.inl rfl)]
    · exact clrT_all n (i + 1) l p hp
theorem BlkG_era {g : Geometry} {bl : Block} (h : BlkG g bl) : BlkG g (eraBlock bl zFate) := by
  unfold eraBlock
  rw [if_neg (by decide)]
  refine ⟨by simp only [clrT_len]; exact h.1, by simp only; rw [if_neg (by decide)]; omega, fun i _ hl => ?_⟩
  have : (clrT (decide (zFate.kind = 0)) zFate.n 0 bl.pages).getD i default ∈ clrT true zFate.n 0 bl.pages := getD_mem' hl
  show ((clrT (decide (zFate.kind = 0)) zFate.n 0 bl.pages).getD i default).written = false
  rw [clrT_all _ _ _ _ this]; rfl
theorem progT_CG {g : Geometry} (hg : g ∈ smalls) {c : Chip} (h : ChipG g c) (b p : Int) {page : Page} {f : Fate} (hp : PageOk page) (hf : f.tag.length < 4294967296 ∧ f.data.length < 4294967296) : ChipG g (progT c b p page f).1 := by
  refine ⟨by rw [progT_blocks]; exact h.len, ?_, progT_pages h.pages b p hp hf⟩
  unfold progT
  split
  · exact h.each
  · split
    · rename_i hc
      obtain ⟨h1, h2, h3, h4, h5, h6, _⟩ := canProg_iff.1 hc
      intro x hx
      rcases List.mem_or_eq_of_mem_set hx with h7 | rfl
      · exact h.each x h7
      · exact BlkG_prog hg (h.each _ (getD_mem' (by omega))) h3 h4 h6 _ _
    · exact h.each
theorem eraT_CG {g : Geometry} (hg : g ∈ smalls) {c : Chip} (h : ChipG g c) (b : Int) : ChipG g (eraT c b zFate).1 := by
  refine ⟨by rw [(eraT_ok (h.ok hg) b zFate).2]; exact h.len, ?_, eraT_pages h.pages b zFate⟩
  unfold eraT
  split
  · exact h.each
  · split
    · rename_i hc
      unfold canEra at hc
      simp only [Bool.and_eq_true, decide_eq_true_eq] at hc
      intro x hx
      rcases List.mem_or_eq_of_mem_set hx with h7 | rfl
      · exact h.each x h7
      · exact BlkG_era (h.each _ (getD_mem' (by omega)))
    · exact h.each
theorem stepC_CG {g : Geometry} (hg : g ∈ smalls) {l : List Int} (hl : U16 l) {m : Int} {a : Nat} {c : Chip} (h : ChipG g c) : ChipG g (stepC l m a c) := by
  have h1 : ChipG g (if l.getD a 0 % 29 = 0 then (eraT c (l.getD a 0 % m) zFate).1 else c) := by
    split
    · exact eraT_CG hg h _
    · exact h
  have h2 : PageOk (pgT (l.getD a 0 / 7 % 30) ((l.drop a).take (nextAt l a - a))) := makeT_ok (pgT_w (hl.part a _) _)
  have h3 : (if l.getD a 0 % 11 = 0 then (⟨1, [120], (pgT (l.getD a 0 / 7 % 30) ((l.drop a).take (nextAt l a - a))).tag, 0⟩ : Fate) else zFate).tag.length < 4294967296 ∧ (if l.getD a 0 % 11 = 0 then (⟨1, [120], (pgT (l.getD a 0 / 7 % 30) ((l.drop a).take (nextAt l a - a))).tag, 0⟩ : Fate) else zFate).data.length < 4294967296 := by
    split
    · exact ⟨h2.1, by simp⟩
    · exact ⟨by simp [zFate], by simp [zFate]⟩
  unfold stepC
  simp only
  generalize (if l.getD a 0 % 29 = 0 then (eraT c (l.getD a 0 % m) zFate).1 else c) = c1 at h1
  generalize (if l.getD a 0 % 11 = 0 then (⟨1, [120], (pgT (l.getD a 0 / 7 % 30) ((l.drop a).take (nextAt l a - a))).tag, 0⟩ : Fate) else zFate) = f at h3
  split
  · exact h1
  · exact progT_CG hg h1 _ _ h2 h3
theorem chipL_CG {g : Geometry} (hg : g ∈ smalls) {l : List Int} (hl : U16 l) {m : Int} : ∀ (k a : Nat) (c : Chip), ChipG g c → ChipG g (chipL l m k a c)
  | 0, a, c, h => h
  | k + 1, a, c, h => by
    unfold chipL
    split
    · exact chipL_CG hg hl k _ _ (stepC_CG hg hl h)
    · exact h
theorem newT_CG {g : Geometry} (hg : g ∈ smalls) : ChipG g (newT g.blocks g.pages []).1 := by
  obtain ⟨k1, k2, k3, k4, _⟩ := small_range g hg
  refine ⟨(newT_CI hg).1.len, ?_, (newT_CI hg).1.pages⟩
  unfold newT
  rw [if_neg (by omega), newL_nil]
  intro b hb
  obtain ⟨_, rfl⟩ := List.mem_replicate.1 hb
  refine ⟨by simp only [List.length_replicate]; omega, by simp only; omega, fun i _ hl => ?_⟩
  have : (List.replicate g.pages.toNat zPage).getD i default ∈ List.replicate g.pages.toNat zPage := getD_mem' hl
  show ((List.replicate g.pages.toNat zPage).getD i default).written = false
  rw [(List.mem_replicate.1 this).2]; rfl
theorem chipT_CG {g : Geometry} (hg : g ∈ smalls) {l : List Int} (hl : U16 l) : ChipG g (chipT l g.blocks g.pages) := chipL_CG hg hl 40 0 _ (newT_CG hg)
theorem mtL_some {g : Geometry} : ∀ (l : List Block) (i : Nat) (o : Int), (∀ b ∈ l, BlkG g b) → ∃ o', mtL g i l o = some o'
  | [], i, o, _ => ⟨o, rfl⟩
  | b :: l, i, o, h => by
    unfold mtL
    rw [if_neg (by have := (h b List.mem_cons_self).1; simp [this])]
    exact mtL_some l _ _ fun x hx => h x (List.mem_cons_of_mem _ hx)
theorem mount_CG {g : Geometry} (hg : g ∈ smalls) {c : Chip} (h : ChipG g c) : ∃ o, mountT g c = (⟨g, onT c, (replayT c g.sectors).1, (replayT c g.sectors).2, o⟩, 0) := by
  obtain ⟨_, _, _, _, hf⟩ := small_range g hg
  obtain ⟨o, ho⟩ := mtL_some (g := g) c.blocks 0 (-1) h.each
  refine ⟨o, ?_⟩
  unfold mountT
  rw [if_neg (by rw [hf]; simp [h.len]), ho]
structure DevG (g : Geometry) (d : Device) : Prop where
  geo : d.geometry = g
  chip : ChipG g d.chip
  rep : replayT d.chip g.sectors = (d.table, d.seq)
theorem devT_DG {l : List Int} (hl : U16 l) (n : Int) : DevG (smallT n) (devT l n) := by
  have hg := smallT_mem n
  have hc := chipT_CG hg hl
  unfold devT
  obtain ⟨o, ho⟩ := mount_CG hg hc
  rw [ho]
  exact ⟨rfl, ⟨hc.len, hc.each, hc.pages⟩, rfl⟩
theorem prog_vb {c : Chip} {b p : Nat} (hb : b < c.blocks.length) (hp : p < (c.blocks.getD b default).pages.length) : ∃ A B, vb 0 c.blocks = A ++ vv b p ((c.blocks.getD b default).pages.getD p default) ++ B ∧ ∀ q n e bd, vb 0 (c.blocks.set b ⟨(c.blocks.getD b default).pages.set p q, n, e, bd⟩) = A ++ vv b p q ++ B := by
  obtain ⟨A, B, h1, h2⟩ := vb_set c.blocks 0 b hb
  obtain ⟨C, D, h3, h4⟩ := vp_set (0 + b) (c.blocks.getD b default).pages 0 p hp
  have e : 0 + b = b := by omega
  have e2 : 0 + p = p := by omega
  rw [e] at h1 h2 h3 h4
  rw [e2] at h3 h4
  refine ⟨A ++ C, D ++ B, by rw [h1, h3]; simp, fun q n e bd => ?_⟩
  rw [h2, h4]; simp
theorem allT_vb (c : Chip) : allT c = (vb 0 c.blocks).foldl insT [] := blocksT_fold _ 0 []
theorem vv_none {b p : Nat} {pg : Page} (h : (lookT pg).1 ≠ 1) : vv b p pg = [] := by
  unfold vv; rw [if_neg (fun x => h x.1)]
theorem look_blank {p : Page} (h : p.written = false) : lookT p = (0, zRec) := by unfold lookT; rw [if_pos h]
theorem vb_seq {c : Chip} {A B : List Found} {b p : Nat} (h : vb 0 c.blocks = A ++ B) {g : Geometry} {t : Table} {s : Int} (hr : replayT c g.sectors = (t, s)) : ∀ y, y ∈ A ∨ y ∈ B → y.record.seq < s := by
  intro y hy
  have hm : y ∈ vb 0 c.blocks := by rw [h]; exact List.mem_append.2 hy
  have ha : y ∈ allT c := by rw [allT_vb]; exact (fold_mem _ [] y).2 (.inr hm)
  have hs : (repL (allT c) (tabT g.sectors) 0).2 = s := by unfold replayT at hr; rw [hr]
  have := (repL_ge (allT c) (tabT g.sectors) 0).2 y ha
  rw [hs] at this
  have hv : ∀ (l : List Page) (b p : Nat), ∀ y ∈ vp b p l, rightT y.record = true := by
    intro l
    induction l with
    | nil => intro b p y hy; cases hy
    | cons q l ih =>
      intro b p y hy
      unfold vp at hy
      rcases List.mem_append.1 hy with hy | hy
      · unfold vv at hy
        split at hy
        · rename_i hc
          have := List.mem_singleton.1 hy
          subst this
          exact look_right hc.1
        · cases hy
      · exact ih _ _ y hy
  have hv2 : ∀ (l : List Block) (b : Nat), ∀ y ∈ vb b l, rightT y.record = true := by
    intro l
    induction l with
    | nil => intro b y hy; cases hy
    | cons q l ih =>
      intro b y hy
      unfold vb at hy
      rcases List.mem_append.1 hy with hy | hy
      · exact hv _ _ _ y hy
      · exact ih _ y hy
  have hr2 := rightT_len (hv2 _ _ y hm)
  obtain ⟨_, _, _, k1, k2, _⟩ := hr2
  rw [w64_id (by omega) (by omega)] at this
  omega
theorem progT_cases {c : Chip} {b p : Int} {page : Page} {f : Fate} (h : (progT c b p page f).2 = 0 ∨ (progT c b p page f).2 = 53) : canProg c b p f = true ∧ progT c b p page f = (⟨c.blocks.set b.toNat (newBlock (c.blocks.getD b.toNat default) p page f), c.broken, decide (f.kind = 2), w64 (c.ops + 1)⟩, if f.kind = 0 then 0 else if f.kind = 1 then 53 else 52) := by
  unfold progT at h ⊢
  split at h
  · simp at h
  · rename_i ho
    rw [if_neg ho]
    split at h
    · rename_i hc
      rw [if_pos hc]
      exact ⟨hc, rfl⟩
    · unfold brkT at h; simp at h
theorem prog_replay {g : Geometry} (hg : g ∈ smalls) {c : Chip} (hc : ChipG g c) {t : Table} {s : Int} (hr : replayT c g.sectors = (t, s)) (hs : 0 ≤ s ∧ s ≤ 1099511627776) {b p : Int} {page : Page} {rec : Record} {f : Fate} (hw : page.written = true) (hp : lookT page = (1, rec)) (hrec : rec.seq = s) (hf : f.kind = 1 → TornF f) :
    ((progT c b p page f).2 = 0 → replayT (progT c b p page f).1 g.sectors = (applyT t ⟨placeT b p, rec⟩, w64 (s + 1))) ∧ ((progT c b p page f).2 = 53 → replayT (progT c b p page f).1 g.sectors = (t, s)) := by
  obtain ⟨k1, k2, k3, k4, _⟩ := small_range g hg
  have base : (progT c b p page f).2 = 0 ∨ (progT c b p page f).2 = 53 → ∃ A B, vb 0 c.blocks = A ++ B ∧ vb 0 (progT c b p page f).1.blocks = A ++ vv b.toNat p.toNat (if f.kind = 0 then ⟨true, page.data, page.tag⟩ else ⟨true, f.data, f.tag⟩) ++ B ∧ 0 ≤ b ∧ b < 32 ∧ 0 ≤ p ∧ p < 16 := by
    intro h
    obtain ⟨h1, h2⟩ := progT_cases h
    obtain ⟨c1, c2, c3, c4, c5, c6, c7, c8⟩ := canProg_iff.1 h1
    have hb : b.toNat < c.blocks.length := by omega
    obtain ⟨q1, q2, q3⟩ := hc.each _ (getD_mem' (d := default) hb)
    obtain ⟨A, B, e1, e2⟩ := prog_vb (c := c) hb (p := p.toNat) (by omega)
    refine ⟨A, B, ?_, ?_, c1, by have := hc.len; omega, c3, by omega⟩
    · rw [e1, vv_none (by rw [look_blank (q3 _ (by omega) (by omega))]; decide)]; simp
    · rw [h2]; exact e2 _ _ _ _
  constructor
  · intro h
    obtain ⟨A, B, e1, e2, b1, b2, p1, p2⟩ := base (.inl h)
    have hk : f.kind = 0 := by
      obtain ⟨h1, h2⟩ := progT_cases (.inl h)
      rw [h2] at h
      simp only at h
      split at h
      · assumption
      · split at h <;> omega
    have hpl : placeT b.toNat p.toNat = placeT b p := by
      have eb : ((b.toNat : Nat) : Int) = b := by omega
      have ep : ((p.toNat : Nat) : Int) = p := by omega
      rw [eb, ep]
    have hp0 : 0 ≤ placeT b p := by unfold placeT; rw [if_neg (by omega)]; omega
    have hpg : (⟨true, page.data, page.tag⟩ : Page) = page := by rw [← hw]
    have hv : vv b.toNat p.toNat (if f.kind = 0 then ⟨true, page.data, page.tag⟩ else ⟨true, f.data, f.tag⟩) = [⟨placeT b p, rec⟩] := by
      rw [if_pos hk, hpg]
      unfold vv
      rw [hp, hpl, if_pos ⟨rfl, hp0⟩]
    rw [hv] at e2
    have hl := vb_seq (b := 0) (p := 0) e1 hr
    have ha : allT (progT c b p page f).1 = allT c ++ [⟨placeT b p, rec⟩] := by
      rw [allT_vb, allT_vb, e2, e1]
      exact fold_one fun y hy => by rw [hrec]; exact hl y hy
    unfold replayT at hr ⊢
    rw [ha, repL_app, hr]
    show (_, max s (w64 (rec.seq + 1))) = _
    rw [hrec, w64_id (n := s + 1) (by omega) (by omega)]
    congr 1
    omega
  · intro h
    obtain ⟨A, B, e1, e2, b1, b2, p1, p2⟩ := base (.inr h)
    have hk : f.kind = 1 := by
      obtain ⟨h1, h2⟩ := progT_cases (.inr h)
      rw [h2] at h
      simp only at h
      split at h
      · omega
      · split at h
        · assumption
        · omega
    obtain ⟨t1, t2⟩ := hf hk
    have hv : vv b.toNat p.toNat (if f.kind = 0 then ⟨true, page.data, page.tag⟩ else ⟨true, f.data, f.tag⟩) = [] := by
      rw [if_neg (by omega), t1]
      exact vv_none (by rw [torn_corrupt _ t2]; decide)
    rw [hv] at e2
    have ha : allT (progT c b p page f).1 = allT c := by
      rw [allT_vb, allT_vb, e2, e1]; simp
    unfold replayT at hr ⊢
    rw [ha]; exact hr
def FatesOk (fs : List Fate) : Prop := ∀ f ∈ fs, TornF f
theorem fateT_ok {fs : List Fate} (h : FatesOk fs) : ((fateT fs).1.kind = 1 → TornF (fateT fs).1) ∧ FatesOk (fateT fs).2 ∧ (fateT fs).1.tag.length < 4294967296 ∧ (fateT fs).1.data.length < 4294967296 := by
  cases fs with
  | nil => exact ⟨fun h => by exact absurd h (by decide), fun f hf => (by cases hf), by simp [fateT, zFate], by simp [fateT, zFate]⟩
  | cons f l =>
    obtain ⟨h1, h2⟩ := h f List.mem_cons_self
    refine ⟨fun _ => ⟨h1, h2⟩, fun x hx => h x (List.mem_cons_of_mem _ hx), ?_, by show f.data.length < _; rw [h1]; simp [torn]⟩
    show f.tag.length < _
    simp only [List.mem_cons, List.not_mem_nil, or_false] at h2
    rcases h2 with h2 | h2 | h2 <;> rw [h2] <;> simp
theorem putL_DG {g : Geometry} (hg : g ∈ smalls) {page : Page} {rec : Record} (hw : page.written = true) (hp : lookT page = (1, rec)) (hpo : PageOk page) (hs : 0 ≤ rec.seq ∧ rec.seq ≤ 1099511627776) : ∀ (n : Nat) (fs : List Fate) (d : Device), FatesOk fs → DevG g d → rec.seq = d.seq → (putL page rec n fs d).2.2 = 0 → DevG g (putL page rec n fs d).1
  | 0, fs, d, _, _, _, h => by simp [putL] at h
  | n + 1, fs, d, hf, hd, hr, h => by
    obtain ⟨f1, f2, f3⟩ := fateT_ok hf
    have hst := prog_replay hg hd.chip hd.rep (by rw [← hr]; exact hs) (b := openT d.chip d.opn) (p := nextOf d.chip (openT d.chip d.opn)) hw hp hr f1
    have hcg : ChipG g (rT page fs d).1 := progT_CG hg hd.chip _ _ hpo f3
    unfold putL at h ⊢
    split at h
    · simp at h
    · rename_i h1
      rw [if_neg h1]
      split at h
      · rename_i h2
        rw [if_pos h2]
        exact ⟨hd.geo, hcg, hst.1 h2⟩
      · rename_i h2
        rw [if_neg h2]
        split at h
        · rename_i h3
          rw [if_pos h3]
          exact putL_DG hg hw hp hpo hs n _ _ f2 ⟨hd.geo, hcg, hst.2 h3⟩ hr h
        · rename_i h3
          exact absurd h h2
theorem putD_DG {g : Geometry} (hg : g ∈ smalls) {d : Device} {w : Write} {fs : List Fate} (hw : WriteOk w) (hf : FatesOk fs) (hd : DevG g d) (h : (putD d w fs).2.2 = 0) : DevG g (putD d w fs).1 := by
  unfold putD at h ⊢
  split at h
  · rename_i h1; exact absurd h h1
  · rename_i h1
    rw [if_neg h1]
    simp only [ne_eq, Decidable.not_not] at h1
    have hwk : WriteOk (seqW d w) := hw
    have hpo := makeT_ok hwk
    have he : (encT (seqW d w).record (seqW d w).data).2 = 0 := by
      unfold makeT at h1
      split at h1
      · exact h1
      · rename_i h2; simpa using h2
    have hm : (makeT (seqW d w)).1 = ⟨true, (seqW d w).data, (encT (seqW d w).record (seqW d w).data).1⟩ := by
      unfold makeT; rw [if_neg (by rw [he]; simp)]
    obtain ⟨hr, hdl⟩ : rightT (seqW d w).record = true ∧ (seqW d w).data.length ≤ 16 := by
      unfold encT at he
      split at he
      · simp at he
      · rename_i h2
        constructor
        · cases hh : rightT (seqW d w).record with
          | true => rfl
          | false => exact absurd (.inl hh) h2
        · omega
    obtain ⟨_, _, _, s1, s2, _⟩ := rightT_len hr
    refine putL_DG hg (by rw [hm]) ?_ hpo ⟨s1, s2⟩ _ fs d hf hd rfl h
    rw [hm]
    unfold lookT
    simp only [dec_enc hr hdl]
    rw [if_neg (by simp), if_neg (by simp)]
theorem law_WriteMounts {l w : List Int} {n : Int} {k : List Int} (hl : U16 l) (hw : U16 w) (hk : ∀ x ∈ k, 0 ≤ x ∧ x < 256) (h0 : 0 ≤ n ∧ n < 256) (hn : l.length < 9223372036854775808) (hwn : w.length < 9223372036854775808) : S_law15_WriteMounts (l, n, w, k) = some true := by
  have hd := devT_ok hl n
  have hdg := devT_DG hl n
  have hg := smallT_mem n
  have hwk : WriteOk ⟨[100], madeT w⟩ := ⟨(madeT_ok hw).1, by simp⟩
  have hfs : FatesOk (fatesT k) := fatesT_torn hk
  show G_law15_WriteMounts l n w k = _
  unfold G_law15_WriteMounts
  rw [s_awake, some_bind', Bool.not_true, cond_false, s_law15_Made hl hn h0.1 h0.2, some_bind', s_law03_Made hw hwn, some_bind', s_Fates hk, some_bind', s_write_Put hd hwk, some_bind']
  by_cases c1 : (putD (devT l n) ⟨[100], madeT w⟩ (fatesT k)).2.2 = 0
  · have h1 := putD_DG hg hwk hfs hdg c1
    have h2 := putD_ok (w := ⟨[100], madeT w⟩) (fs := fatesT k) hd
    generalize (putD (devT l n) ⟨[100], madeT w⟩ (fatesT k)) = r at c1 h1 h2
    obtain ⟨o, ho⟩ := mount_CG hg h1.chip
    have hlook : S_ref04_Look ⟨true, [116, 111, 114, 110], []⟩ = some (2, zRec) := by
      rw [s_ref04_Look ⟨by simp, by simp⟩]
      exact congrArg some torn_look
    rw [decide_eq_true c1, Bool.not_true, cond_false, hlook, some_bind', s_Mount h2.1 h1.chip.pages, some_bind', h1.geo, ho, cond_true]
    simp only [h1.rep, decide_true, cond_true, s_ref07_Same h2.2, some_bind', tSameT, Bool.true_and]
  · rw [decide_eq_false c1, Bool.not_false, cond_true]
end Clk
namespace Clk
open Go
theorem row_mem {k : IntKind} {w : World} {a : Option Addr} {len cap : Nat} {zs : List Int} (h : IsRow k w a len cap zs) : ∀ n ∈ zs.take len, (Lit.int k n).wf = true := by
  intro n hn
  rcases h with ⟨_, _, _, rfl⟩ | ⟨_, _, _, _, _, _, h⟩
  · simp at hn
  · exact h n (List.mem_of_mem_take hn)
theorem row_len {k : IntKind} {w : World} {a : Option Addr} {len cap : Nat} {zs : List Int} (h : IsRow k w a len cap zs) : (zs.take len).length < 9223372036854775808 := by
  rcases h with ⟨_, _, _, rfl⟩ | ⟨_, _, h1, h2, h3, _, _⟩
  · simp
  · have : maxLen = 9223372036854775807 := rfl
    simp only [List.length_take]; omega
theorem wf_u8 {n : Int} (h : (Lit.int .u8 n).wf = true) : 0 ≤ n ∧ n < 256 := by
  simp [Lit.wf, IntKind.min, IntKind.max, IntKind.signed, IntKind.bits] at h
  omega
theorem wf_u16 {n : Int} (h : (Lit.int .u16 n).wf = true) : 0 ≤ n ∧ n < 65536 := by
  simp [Lit.wf, IntKind.min, IntKind.max, IntKind.signed, IntKind.bits] at h
  omega
theorem litU8 {n : Int} (h : (Lit.int .u8 n).wf = true) : 0 ≤ n ∧ n < 256 := wf_u8 h
theorem rowU16 {w : World} {a : Option Addr} {len cap : Nat} {zs : List Int} (h : IsRow .u16 w a len cap zs) : U16 (zs.take len) := fun n hn => wf_u16 (row_mem h n hn)
theorem rowU8 {w : World} {a : Option Addr} {len cap : Nat} {zs : List Int} (h : IsRow .u8 w a len cap zs) : ∀ n ∈ zs.take len, 0 ≤ n ∧ n < 256 := fun n hn => wf_u8 (row_mem h n hn)
theorem rowLen {k : IntKind} {w : World} {a : Option Addr} {len cap : Nat} {zs : List Int} (h : IsRow k w a len cap zs) : (zs.take len).length < 9223372036854775808 := row_len h
end Clk
