import PyProof.Rows.All
import VametaSpec
import PyVameta
import Wide.All
import OpenK.AllK
import Wide.FinOn
import HandS.Base
import HandS.Call
import HandS.List
import HandS.Comp
import HandS.Iter
import HandS.Dict
import HandS.Text
import HandS.Exc
import HandS.TryOnly
import HandS.ExcOwn
import HandS.ExcInit
import HandS.SortInts
import HandS.StrMore
import HandS.Strs
import HandS.Style
import HandS.Zip
import HandS.Codes
import HandS.Words
import HandS.WordsExc
import HandS.ExcField
import HandS.WordsList
import HandS.Walk
import HandS.HeadHook1
import PySem.Challenge.RW_runrelations_s01_answers
import HandS.HeadHook2
import HandS.Spec
import KE.OsHead
import KE.HD4
import Open.SpecLaws
set_option Elab.async false
set_option linter.all false
set_option maxRecDepth 100000
set_option maxHeartbeats 4000000
/-! part MathRows -/
/-! Plain laws about rows: what the program's row functions make, against the specification's. No program in sight. -/
namespace Mx
open VametBase

/-! ### sorted -/
theorem putInt_perm (n : Int) : ∀ l : Row, (putInt n l).Perm (n :: l)
  | [] => List.Perm.refl _
  | x :: l => by
    unfold putInt
    split
    · exact List.Perm.refl _
    · exact (List.Perm.cons x (putInt_perm n l)).trans (List.Perm.swap n x l)
theorem putInt_pw (n : Int) : ∀ l : Row, l.Pairwise (· ≤ ·) → (putInt n l).Pairwise (· ≤ ·)
  | [], _ => by simp [putInt]
  | x :: l, h => by
    unfold putInt
    rw [List.pairwise_cons] at h
    split
    · rename_i c
      rw [List.pairwise_cons, List.pairwise_cons]
      refine ⟨fun a ha => ?_, h⟩
      rcases List.mem_cons.mp ha with e | e
      · omega
      · have := h.1 a e
        omega
    · rename_i c
      rw [List.pairwise_cons]
      refine ⟨fun a ha => ?_, putInt_pw n l h.2⟩
      rcases List.mem_cons.mp ((putInt_perm n l).mem_iff.mp ha) with e | e
      · omega
      · exact h.1 a e
theorem sorted_go : ∀ (l k : Row), (l.foldl (fun k x => putInt x k) k).Perm (k ++ l) ∧ (k.Pairwise (· ≤ ·) → (l.foldl (fun k x => putInt x k) k).Pairwise (· ≤ ·))
  | [], k => ⟨by simp, fun h => h⟩
  | x :: l, k => by
    have h := sorted_go l (putInt x k)
    refine ⟨?_, fun hk => h.2 (putInt_pw x k hk)⟩
    refine h.1.trans ?_
    refine ((putInt_perm x k).append_right l).trans ?_
    have := (List.perm_middle (a := x) (l₁ := k) (l₂ := l)).symm
    simpa using this
theorem sorted_perm (l : Row) : (sorted l).Perm l := (sorted_go l []).1
theorem sorted_pw (l : Row) : (sorted l).Pairwise (· ≤ ·) := (sorted_go l []).2 List.Pairwise.nil
theorem sorted_eq {l m : Row} (p : m.Perm l) (w : m.Pairwise (· ≤ ·)) : m = sorted l :=
  List.Perm.eq_of_pairwise (le := (· ≤ ·)) (fun _ _ _ _ h1 h2 => Int.le_antisymm h1 h2) w (sorted_pw l) (p.trans (sorted_perm l).symm)
theorem sorted_length (l : Row) : (sorted l).length = l.length := (sorted_perm l).length_eq

/-! ### once -/
theorem onceOnly_snoc (l : Row) (x : Int) : onceOnly (l ++ [x]) = if (onceOnly l).contains x then onceOnly l else onceOnly l ++ [x] := by
  unfold onceOnly
  rw [List.foldl_append]
  rfl
theorem onceOnly_len (l : Row) : (onceOnly l).length ≤ l.length := by
  have go : ∀ (l k : Row), (l.foldl (fun k x => if k.contains x then k else k ++ [x]) k).length ≤ k.length + l.length := by
    intro l
    induction l with
    | nil => intro k; simp
    | cons x l ih =>
      intro k
      refine Nat.le_trans (ih _) ?_
      dsimp only
      split <;> simp <;> omega
  have := go l []
  rw [List.length_nil, Nat.zero_add] at this
  exact this
theorem onceOnly_mem (l : Row) (y : Int) : y ∈ onceOnly l ↔ y ∈ l := by
  have go : ∀ (l k : Row), y ∈ l.foldl (fun k x => if k.contains x then k else k ++ [x]) k ↔ y ∈ k ∨ y ∈ l := by
    intro l
    induction l with
    | nil => intro k; simp
    | cons x l ih =>
      intro k
      show y ∈ l.foldl _ _ ↔ _
      rw [ih]
      dsimp only
      split
      · rename_i c
        have c' : x ∈ k := by simpa using c
        constructor
        · rintro (h | h)
          · exact Or.inl h
          · exact Or.inr (List.mem_cons_of_mem _ h)
        · rintro (h | h)
          · exact Or.inl h
          · rcases List.mem_cons.mp h with e | e
            · rw [e]; exact Or.inl c'
            · exact Or.inr e
      · simp only [List.mem_append, List.mem_cons, List.not_mem_nil, or_false]
        constructor
        · rintro ((h | h) | h)
          · exact Or.inl h
          · exact Or.inr (Or.inl h)
          · exact Or.inr (Or.inr h)
        · rintro (h | h | h)
          · exact Or.inl (Or.inl h)
          · exact Or.inl (Or.inr h)
          · exact Or.inr h
  have := go l []
  unfold onceOnly
  rw [this]
  simp
theorem onceOnly_nodup (l : Row) : (onceOnly l).Nodup := by
  have go : ∀ (l k : Row), k.Nodup → (l.foldl (fun k x => if k.contains x then k else k ++ [x]) k).Nodup := by
    intro l
    induction l with
    | nil => intro k h; exact h
    | cons x l ih =>
      intro k h
      refine ih _ ?_
      dsimp only
      split
      · exact h
      · rename_i c
        have c' : x ∉ k := by simpa using c
        rw [List.nodup_append]
        refine ⟨h, by simp, fun a ha b hb => ?_⟩
        rcases List.mem_singleton.mp hb with rfl
        exact fun e => c' (e ▸ ha)
  exact go l [] List.nodup_nil

/-! ### greatest, least, sum -/
theorem greatest_go : ∀ (l : Row) (a : Int), (l.foldl (fun a b => if a < b then b else a) a ∈ a :: l) ∧ ∀ y ∈ a :: l, y ≤ l.foldl (fun a b => if a < b then b else a) a
  | [], a => by simp
  | x :: l, a => by
    have h := greatest_go l (if a < x then x else a)
    show (l.foldl _ (if a < x then x else a)) ∈ _ ∧ _
    refine ⟨?_, fun y hy => ?_⟩
    · rcases List.mem_cons.mp h.1 with e | e
      · rw [e]; split <;> simp
      · exact List.mem_cons_of_mem _ (List.mem_cons_of_mem _ e)
    · show y ≤ l.foldl _ (if a < x then x else a)
      have h0 := h.2 (if a < x then x else a) List.mem_cons_self
      rcases List.mem_cons.mp hy with e | e
      · subst e
        refine Int.le_trans ?_ h0
        split <;> omega
      · rcases List.mem_cons.mp e with e | e
        · subst e
          refine Int.le_trans ?_ h0
          split <;> omega
        · exact h.2 y (List.mem_cons_of_mem _ e)
theorem least_go : ∀ (l : Row) (a : Int), (l.foldl (fun a b => if b < a then b else a) a ∈ a :: l) ∧ ∀ y ∈ a :: l, l.foldl (fun a b => if b < a then b else a) a ≤ y
  | [], a => by simp
  | x :: l, a => by
    have h := least_go l (if x < a then x else a)
    show (l.foldl _ (if x < a then x else a)) ∈ _ ∧ _
    refine ⟨?_, fun y hy => ?_⟩
    · rcases List.mem_cons.mp h.1 with e | e
      · rw [e]; split <;> simp
      · exact List.mem_cons_of_mem _ (List.mem_cons_of_mem _ e)
    · show l.foldl _ (if x < a then x else a) ≤ y
      have h0 := h.2 (if x < a then x else a) List.mem_cons_self
      rcases List.mem_cons.mp hy with e | e
      · subst e
        refine Int.le_trans h0 ?_
        split <;> omega
      · rcases List.mem_cons.mp e with e | e
        · subst e
          refine Int.le_trans h0 ?_
          split <;> omega
        · exact h.2 y (List.mem_cons_of_mem _ e)
theorem greatest_eq {l : Row} {m : Int} (h : m ∈ l) (w : ∀ y ∈ l, y ≤ m) : (greatestOf l).toList = [m] := by
  cases l with
  | nil => cases h
  | cons x l =>
    have g := greatest_go l x
    have e : l.foldl (fun a b => if a < b then b else a) x = m := Int.le_antisymm (w _ g.1) (g.2 m h)
    show [l.foldl (fun a b => if a < b then b else a) x] = [m]
    rw [e]
theorem least_eq {l : Row} {m : Int} (h : m ∈ l) (w : ∀ y ∈ l, m ≤ y) : (leastOf l).toList = [m] := by
  cases l with
  | nil => cases h
  | cons x l =>
    have g := least_go l x
    have e : l.foldl (fun a b => if b < a then b else a) x = m := Int.le_antisymm (g.2 m h) (w _ g.1)
    show [l.foldl (fun a b => if b < a then b else a) x] = [m]
    rw [e]
theorem total_go : ∀ (l : Row) (a : Int), l.foldl (fun a b => a + b) a = a + l.sum
  | [], a => by simp
  | x :: l, a => by
    rw [List.foldl_cons, total_go l, List.sum_cons]
    omega
theorem total_eq (l : Row) : total l = l.sum := by
  have := total_go l 0
  unfold total
  omega

/-! ### steps, sums -/
theorem running_snoc : ∀ (l : Row) (a x : Int), runningFrom a (l ++ [x]) = runningFrom a l ++ [a + l.sum + x]
  | [], a, x => by simp [runningFrom]
  | y :: l, a, x => by
    show (a + y) :: runningFrom (a + y) (l ++ [x]) = ((a + y) :: runningFrom (a + y) l) ++ _
    rw [running_snoc l, List.sum_cons, List.cons_append]
    congr 3
    omega
theorem running_len : ∀ (l : Row) (a : Int), (runningFrom a l).length = l.length
  | [], _ => rfl
  | x :: l, a => by
    show (runningFrom (a + x) l).length + 1 = l.length + 1
    rw [running_len l]
theorem steps_len (l : Row) : (done .steps l).length = l.length - 1 := by
  simp [done]
theorem steps_get {l : Row} {i : Nat} {a b : Int} (ha : l[i]? = some a) (hb : l[i + 1]? = some b) : (done .steps l)[i]? = some (b - a) := by
  show (((l.zip (l.drop 1)).map fun x => x.2 - x.1))[i]? = _
  rw [List.getElem?_map]
  have : (l.zip (l.drop 1))[i]? = some (a, b) := by
    rw [List.getElem?_zip_eq_some]
    refine ⟨ha, ?_⟩
    rw [List.getElem?_drop]
    rw [Nat.add_comm] at hb
    exact hb
  rw [this]
  rfl

/-! ### within -/
theorem within_iff {l : Row} : within l = true ↔ l.length ≤ 40 ∧ ∀ x ∈ l, -1000000 ≤ x ∧ x ≤ 1000000 := by
  unfold within
  simp only [Bool.and_eq_true, decide_eq_true_eq, List.all_eq_true]
  unfold LONG MOST
  constructor
  · rintro ⟨h1, h2⟩
    exact ⟨h1, fun x hx => by have := h2 x hx; omega⟩
  · rintro ⟨h1, h2⟩
    exact ⟨h1, fun x hx => by have := h2 x hx; omega⟩
theorem done_len (s : Step) (l : Row) : (done s l).length ≤ 2 * l.length + 1 := by
  cases s <;> simp only [done, List.length_map, List.length_reverse, List.length_take, List.length_drop, List.length_append, sorted_length, List.length_cons, List.length_nil, running_len, List.length_zip]
  case rest => omega
  case above c => have := List.length_filter_le (fun x => decide (c < x)) l; omega
  case once => have := onceOnly_len l; omega
  case greatest => cases l <;> simp [greatestOf]
  case least => cases l <;> simp [leastOf]
  all_goals omega

/-! ### runs -/
theorem run_nil (l : Row) : run [] l = some l := rfl
theorem run_cons (s : Step) (p : Program) (l : Row) : run (s :: p) l = if within (done s l) then run p (done s l) else none := rfl
theorem run_within : ∀ {p : Program} {l m : Row}, within l = true → run p l = some m → within m = true
  | [], l, m, h, e => by
    rw [run_nil] at e
    cases e
    exact h
  | s :: p, l, m, h, e => by
    rw [run_cons] at e
    split at e
    · rename_i c
      exact run_within c e
    · cases e
theorem run_snoc : ∀ (p : Program) (s : Step) (l : Row), run (p ++ [s]) l = (run p l).bind fun m => if within (done s m) then some (done s m) else none
  | [], s, l => by
    show run [s] l = _
    rw [run_cons, run_nil]
    split <;> simp_all [run_nil]
  | t :: p, s, l => by
    rw [List.cons_append, run_cons, run_cons]
    split
    · exact run_snoc p s _
    · rfl

/-! ### conditions and relations -/
theorem rises_iff : ∀ l : Row, rises l = true ↔ ∀ i a b, l[i]? = some a → l[i + 1]? = some b → a ≤ b
  | [] => by simp [rises]
  | [x] => by
    simp only [rises, true_iff]
    intro i a b h1 h2
    simp at h2
  | x :: y :: l => by
    have ih := rises_iff (y :: l)
    show (decide (x ≤ y) && rises (y :: l)) = true ↔ _
    rw [Bool.and_eq_true, decide_eq_true_eq, ih]
    constructor
    · rintro ⟨h1, h2⟩ i a b ha hb
      cases i with
      | zero =>
        simp at ha hb
        omega
      | succ i => exact h2 i a b (by simpa using ha) (by simpa using hb)
    · intro h
      exact ⟨h 0 x y (by simp) (by simp), fun i a b ha hb => h (i + 1) a b (by simpa using ha) (by simpa using hb)⟩
theorem run_stop : ∀ {p : Program} {l : Row} {i : Nat}, run (p.take i) l = none → run p l = none
  | [], l, i, h => by rw [List.take_nil] at h; exact h
  | s :: p, l, 0, h => by cases h
  | s :: p, l, i + 1, h => by
    rw [List.take_succ_cons, run_cons] at h
    rw [run_cons]
    by_cases c : within (done s l) = true
    · rw [if_pos c] at h ⊢
      exact run_stop h
    · rw [if_neg c]
theorem rows_snoc : ∀ (p : Program) (s : Step) (l m : Row), run p l = some m → Vameta.rowsOf (p ++ [s]) l = Vameta.rowsOf p l ++ (if within (done s m) then [done s m] else [])
  | [], s, l, m, h => by
    cases h
    show l :: (if within (done s l) then Vameta.rowsOf [] (done s l) else []) = [l] ++ _
    rfl
  | t :: p, s, l, m, h => by
    rw [run_cons] at h
    by_cases c : within (done t l) = true
    · rw [if_pos c] at h
      show l :: (if within (done t l) then Vameta.rowsOf (p ++ [s]) (done t l) else []) = (l :: (if within (done t l) then Vameta.rowsOf p (done t l) else [])) ++ _
      rw [if_pos c, if_pos c, rows_snoc p s _ m h]
      rfl
    · rw [if_neg c] at h
      cases h
theorem rows_stop : ∀ (p : Program) (i : Nat) (s : Step) (l m : Row), run (p.take i) l = some m → p[i]? = some s → within (done s m) = false → Vameta.rowsOf p l = Vameta.rowsOf (p.take i) l
  | [], i, s, l, m, h, hs, hw => by simp at hs
  | t :: p, 0, s, l, m, h, hs, hw => by
    cases h
    cases hs
    show l :: (if within (done t l) then Vameta.rowsOf p (done t l) else []) = [l]
    rw [hw, if_neg Bool.false_ne_true]
  | t :: p, i + 1, s, l, m, h, hs, hw => by
    rw [List.take_succ_cons, run_cons] at h
    by_cases c : within (done t l) = true
    · rw [if_pos c] at h
      show l :: (if within (done t l) then Vameta.rowsOf p (done t l) else []) = l :: (if within (done t l) then Vameta.rowsOf (p.take i) (done t l) else [])
      rw [if_pos c, if_pos c, rows_stop p i s _ m h (by simpa using hs) hw]
    · rw [if_neg c] at h
      cases h
theorem rows_last : ∀ (p : Program) (l m : Row), run p l = some m → ∃ k, Vameta.rowsOf p l = k ++ [m]
  | [], l, m, h => by
    cases h
    exact ⟨[], rfl⟩
  | t :: p, l, m, h => by
    rw [run_cons] at h
    by_cases c : within (done t l) = true
    · rw [if_pos c] at h
      obtain ⟨k, hk⟩ := rows_last p _ m h
      refine ⟨l :: k, ?_⟩
      show l :: (if within (done t l) then Vameta.rowsOf p (done t l) else []) = _
      rw [if_pos c, hk]
      rfl
    · rw [if_neg c] at h
      cases h
theorem rows_len : ∀ (p : Program) (l : Row), (Vameta.rowsOf p l).length ≤ p.length + 1
  | [], l => Nat.le_refl _
  | t :: p, l => by
    show (l :: (if within (done t l) then Vameta.rowsOf p (done t l) else [])).length ≤ p.length + 1 + 1
    have := rows_len p (done t l)
    rw [List.length_cons]
    by_cases c : within (done t l) = true
    · rw [if_pos c]
      omega
    · rw [if_neg c]
      exact Nat.le_add_left _ _
theorem rows_within : ∀ (p : Program) (l : Row), within l = true → ∀ r ∈ Vameta.rowsOf p l, within r = true
  | [], l, h, r, hr => by
    rcases List.mem_singleton.mp hr with rfl
    exact h
  | t :: p, l, h, r, hr => by
    rcases List.mem_cons.mp hr with rfl | hr
    · exact h
    · by_cases c : within (done t l) = true
      · rw [if_pos c] at hr
        exact rows_within p _ c r hr
      · rw [if_neg c] at hr
        cases hr
theorem dedup_once (l : Row) : l.foldl (fun acc x => if acc.any (· == x) then acc else acc ++ [x]) [] = onceOnly l := by
  unfold onceOnly
  congr 1
  funext k x
  have : (k.any fun y => y == x) = k.contains x := by
    induction k with
    | nil => rfl
    | cons y k ih => rw [List.any_cons, List.contains_cons, ih, Bool.beq_comm]
  rw [this]
end Mx
/-! part MathIn -/
/-! Plain laws about bounds and inputs. -/
namespace Mi
open VametBase
def cnt (w : Nat) : Nat → Nat
  | 0 => 1
  | n + 1 => cnt w n + w ^ (n + 1)
theorem powerOf_eq {w : Nat} (hw : 1 ≤ w) : ∀ n, powerOf w n = min 1501 (w ^ n)
  | 0 => by simp [powerOf]
  | n + 1 => by
    show Nat.min (INPUTS + 1) (w * powerOf w n) = _
    rw [powerOf_eq hw n]
    show min 1501 (w * min 1501 (w ^ n)) = min 1501 (w ^ (n + 1))
    rw [Nat.pow_succ, Nat.mul_comm (w ^ n) w]
    by_cases h : w ^ n ≤ 1501
    · rw [Nat.min_eq_right h]
    · rw [Nat.min_eq_left (by omega : 1501 ≤ w ^ n), Nat.min_eq_left (Nat.le_mul_of_pos_left _ hw), Nat.min_eq_left]
      exact Nat.le_trans (by omega : 1501 ≤ w ^ n) (Nat.le_mul_of_pos_left _ hw)
theorem countTo_eq {w : Nat} (hw : 1 ≤ w) : ∀ n, countTo w n = min 1501 (cnt w n)
  | 0 => rfl
  | n + 1 => by
    show Nat.min (INPUTS + 1) (countTo w n + powerOf w (n + 1)) = min 1501 (cnt w n + w ^ (n + 1))
    rw [countTo_eq hw n, powerOf_eq hw (n + 1)]
    show min 1501 _ = _
    omega
/-- w ^ s + … , f of them -/
def tail (w : Nat) : Nat → Nat → Nat
  | _, 0 => 0
  | s, f + 1 => w ^ s + tail w (s + 1) f
theorem tail_snoc (w : Nat) : ∀ f s, tail w s (f + 1) = tail w s f + w ^ (s + f)
  | 0, s => by simp [tail]
  | f + 1, s => by
    show w ^ s + tail w (s + 1) (f + 1) = w ^ s + tail w (s + 1) f + w ^ (s + (f + 1))
    rw [tail_snoc w f (s + 1), show s + 1 + f = s + (f + 1) by omega, Nat.add_assoc]
theorem cnt_tail (w : Nat) : ∀ n, cnt w n = tail w 0 (n + 1)
  | 0 => by simp [cnt, tail]
  | n + 1 => by
    rw [tail_snoc w (n + 1) 0, ← cnt_tail w n, Nat.zero_add]
    rfl
theorem pow_cnt (w : Nat) : ∀ n i, i ≤ n → w ^ i ≤ cnt w n
  | 0, i, h => by
    rw [Nat.le_zero.mp h]
    exact Nat.le_refl _
  | n + 1, i, h => by
    show _ ≤ cnt w n + w ^ (n + 1)
    by_cases e : i = n + 1
    · rw [e]; omega
    · have := pow_cnt w n i (by omega)
      omega
def rdig (w : Nat) : Nat → Nat → List Nat
  | 0, _ => []
  | n + 1, k => (k % w) :: rdig w n (k / w)
theorem digits_rev (w : Nat) : ∀ n k, digits w n k = (rdig w n k).reverse
  | 0, _ => rfl
  | n + 1, k => by
    show digits w n (k / w) ++ [k % w] = ((k % w) :: rdig w n (k / w)).reverse
    rw [digits_rev w n, List.reverse_cons]
theorem rdig_snoc (w : Nat) : ∀ n k, rdig w (n + 1) k = rdig w n k ++ [k / w ^ n % w]
  | 0, k => by simp [rdig]
  | n + 1, k => by
    show (k % w) :: rdig w (n + 1) (k / w) = ((k % w) :: rdig w n (k / w)) ++ _
    rw [rdig_snoc w n (k / w), Nat.div_div_eq_div_mul, Nat.pow_succ, Nat.mul_comm (w ^ n) w]
    rfl
theorem rdig_len (w : Nat) : ∀ n k, (rdig w n k).length = n
  | 0, _ => rfl
  | n + 1, k => by
    show (rdig w n (k / w)).length + 1 = n + 1
    rw [rdig_len w n]
theorem width_eq {b : Bound} (h : b.lo ≤ b.hi) : (width b : Int) = b.hi - b.lo + 1 := by
  unfold width
  omega
theorem rdig_lt {w : Nat} (hw : 1 ≤ w) : ∀ n k, ∀ d ∈ rdig w n k, d < w
  | 0, _, d, h => by cases h
  | n + 1, k, d, h => by
    rcases List.mem_cons.mp h with rfl | h
    · exact Nat.mod_lt _ hw
    · exact rdig_lt hw n _ d h
theorem place_le (w : Nat) : ∀ f n k, (placeFrom w f n k).1 ≤ n + f
  | 0, n, k => Nat.le_refl _
  | f + 1, n, k => by
    show (if k < powerOf w n then (n, k) else placeFrom w f (n + 1) (k - powerOf w n)).1 ≤ _
    by_cases c : k < powerOf w n
    · rw [if_pos c]; show n ≤ n + (f + 1); omega
    · rw [if_neg c]
      have := place_le w f (n + 1) (k - powerOf w n)
      omega
/-- an input's numbers, how many -/
theorem input_len (b : Bound) (k : Nat) : (inputAt b k).length ≤ b.long + 1 := by
  unfold inputAt
  rw [List.length_map, digits_rev, List.length_reverse, rdig_len]
  have := place_le (width b) (b.long + 1) 0 k
  omega
theorem input_in {b : Bound} (h : b.lo ≤ b.hi) (k : Nat) : ∀ x ∈ inputAt b k, b.lo ≤ x ∧ x ≤ b.hi := by
  intro x hx
  unfold inputAt at hx
  obtain ⟨d, hd, rfl⟩ := List.mem_map.mp hx
  have hw := width_eq h
  rw [digits_rev, List.mem_reverse] at hd
  have := rdig_lt (by omega) _ _ d hd
  unfold int
  omega
end Mi
/-! part MathTok -/
/-! Plain laws about tokens. -/
namespace Mt
open Vameta
theorem takeWhile_take {α : Type} {p : α → Bool} : ∀ (l : List α) (j : Nat), (∀ i x, i < j → l[i]? = some x → p x = true) → (∀ x, l[j]? = some x → p x = false) → j ≤ l.length → l.takeWhile p = l.take j
  | [], j, _, _, h => by simp
  | a :: l, 0, _, h2, _ => by
    rw [List.takeWhile_cons, h2 a rfl]
    rfl
  | a :: l, j + 1, h1, h2, h3 => by
    rw [List.takeWhile_cons, h1 0 a (by omega) rfl, if_pos rfl, List.take_succ_cons]
    rw [takeWhile_take l j (fun i x hi hx => h1 (i + 1) x (by omega) (by simpa using hx)) (fun x hx => h2 x (by simpa using hx)) (by simpa using h3)]
/-- one token that begins at the first byte of t (place p), and how long it is -/
def one (p : Nat) : Text → Got (Token × Nat)
  | [] => .error ⟨1, p⟩
  | b :: r =>
    if isLetter b then (if 8 < ((b :: r).takeWhile isLetter).length then .error ⟨1, p⟩ else .ok (⟨p, .word ((b :: r).takeWhile isLetter)⟩, ((b :: r).takeWhile isLetter).length))
    else if isDigit b then (if 2 < ((b :: r).takeWhile isDigit).length ∨ (b = 48 ∧ 1 < ((b :: r).takeWhile isDigit).length) then .error ⟨1, p⟩ else .ok (⟨p, .num (numberOf ((b :: r).takeWhile isDigit))⟩, ((b :: r).takeWhile isDigit).length))
    else if SIGNS.contains b then .ok (⟨p, .sign b⟩, 1)
    else .error ⟨1, p⟩
theorem one_cons (p b : Nat) (r : Text) : one p (b :: r) =
    if isLetter b then (if 8 < ((b :: r).takeWhile isLetter).length then .error ⟨1, p⟩ else .ok (⟨p, .word ((b :: r).takeWhile isLetter)⟩, ((b :: r).takeWhile isLetter).length))
    else if isDigit b then (if 2 < ((b :: r).takeWhile isDigit).length ∨ (b = 48 ∧ 1 < ((b :: r).takeWhile isDigit).length) then .error ⟨1, p⟩ else .ok (⟨p, .num (numberOf ((b :: r).takeWhile isDigit))⟩, ((b :: r).takeWhile isDigit).length))
    else if SIGNS.contains b then .ok (⟨p, .sign b⟩, 1)
    else .error ⟨1, p⟩ := rfl
theorem from_blank {f p b : Nat} {r : Text} (h : isBlank b = true) : tokensFrom (f + 1) p (b :: r) = tokensFrom f (p + 1) r := by
  rw [tokensFrom]
  simp only [h, if_true]
theorem from_one {f p b : Nat} {r : Text} (h : isBlank b = false) : tokensFrom (f + 1) p (b :: r) = (one p (b :: r)).bind fun x => (tokensFrom f (p + x.2) ((b :: r).drop x.2)).map fun l => x.1 :: l := by
  rw [tokensFrom]
  simp only [h, Bool.false_eq_true, if_false]
  rw [one_cons]
  by_cases c1 : isLetter b = true
  · rw [if_pos c1, if_pos c1]
    by_cases c2 : 8 < ((b :: r).takeWhile isLetter).length
    · rw [if_pos c2, if_pos (show LETTERS < _ from c2)]
      rfl
    · rw [if_neg c2, if_neg (show ¬ LETTERS < _ from c2)]
      rfl
  · rw [if_neg c1, if_neg c1]
    by_cases c2 : isDigit b = true
    · rw [if_pos c2, if_pos c2]
      by_cases c3 : 2 < ((b :: r).takeWhile isDigit).length ∨ (b = 48 ∧ 1 < ((b :: r).takeWhile isDigit).length)
      · rw [if_pos c3, if_pos (show DIGITS < _ ∨ _ from c3)]
        rfl
      · rw [if_neg c3, if_neg (show ¬ (DIGITS < _ ∨ _) from c3)]
        rfl
    · rw [if_neg c2, if_neg c2]
      by_cases c3 : SIGNS.contains b = true
      · rw [if_pos c3, if_pos c3]
        rfl
      · rw [if_neg c3, if_neg c3]
        rfl
theorem from_nil {f p : Nat} : tokensFrom (f + 1) p [] = .ok [⟨p, .ending⟩] := rfl
theorem one_pos {p : Nat} {t : Text} {x : Token × Nat} (h : one p t = .ok x) : 1 ≤ x.2 ∧ x.2 ≤ t.length ∧ x.1.tok ≠ .ending := by
  cases t with
  | nil => cases h
  | cons b r =>
    rw [one_cons] at h
    have tw : ∀ q : Nat → Bool, q b = true → 1 ≤ ((b :: r).takeWhile q).length := fun q hq => by
      rw [List.takeWhile_cons, hq, if_pos rfl, List.length_cons]
      omega
    have tl : ∀ q : Nat → Bool, ((b :: r).takeWhile q).length ≤ (b :: r).length := fun q => (List.takeWhile_sublist q).length_le
    by_cases c1 : isLetter b = true
    · rw [if_pos c1] at h
      by_cases c2 : 8 < ((b :: r).takeWhile isLetter).length
      · rw [if_pos c2] at h; cases h
      · rw [if_neg c2] at h
        cases h
        exact ⟨tw _ c1, tl _, by intro z; cases z⟩
    · rw [if_neg c1] at h
      by_cases c2 : isDigit b = true
      · rw [if_pos c2] at h
        by_cases c3 : 2 < ((b :: r).takeWhile isDigit).length ∨ (b = 48 ∧ 1 < ((b :: r).takeWhile isDigit).length)
        · rw [if_pos c3] at h; cases h
        · rw [if_neg c3] at h
          cases h
          exact ⟨tw _ c2, tl _, by intro z; cases z⟩
      · rw [if_neg c2] at h
        by_cases c3 : SIGNS.contains b = true
        · rw [if_pos c3] at h
          cases h
          exact ⟨Nat.le_refl _, by rw [List.length_cons]; show 1 ≤ _; omega, by intro z; cases z⟩
        · rw [if_neg c3] at h; cases h
/-- tokens: some that are no ending, then the ending -/
def Good (l : Toks) : Prop := ∃ k p, l = k ++ [⟨p, .ending⟩] ∧ ∀ t ∈ k, t.tok ≠ .ending
theorem from_good : ∀ (f p : Nat) (t : Text) (l : Toks), tokensFrom f p t = .ok l → Good l ∧ l.length ≤ f
  | 0, p, t, l, h => by cases h
  | f + 1, p, [], l, h => by
    cases h
    exact ⟨⟨[], p, rfl, fun _ h => nomatch h⟩, by show 1 ≤ f + 1; omega⟩
  | f + 1, p, b :: r, l, h => by
    cases c : isBlank b with
    | true =>
      rw [from_blank c] at h
      have := from_good f (p + 1) r l h
      exact ⟨this.1, by omega⟩
    | false =>
      rw [from_one c] at h
      cases e : one p (b :: r) with
      | error x => rw [e] at h; cases h
      | ok x =>
        rw [e] at h
        have h : (tokensFrom f (p + x.2) ((b :: r).drop x.2)).map (fun l => x.1 :: l) = .ok l := h
        cases e2 : tokensFrom f (p + x.2) ((b :: r).drop x.2) with
        | error y => rw [e2] at h; cases h
        | ok l' =>
          rw [e2] at h
          cases h
          obtain ⟨⟨k, q, hk, hn⟩, hl⟩ := from_good f _ _ l' e2
          refine ⟨⟨x.1 :: k, q, by rw [hk]; rfl, fun t ht => ?_⟩, by rw [List.length_cons]; omega⟩
          rcases List.mem_cons.mp ht with rfl | ht
          · exact (one_pos e).2.2
          · exact hn t ht
theorem tokens_good {t : Text} {l : Toks} (h : tokens t = .ok l) : Good l ∧ l.length ≤ t.length + 1 := from_good _ _ _ _ h
theorem number_snoc (t : Text) (b : Nat) : numberOf (t ++ [b]) = 10 * numberOf t + (b - 48) := by
  unfold numberOf
  rw [List.foldl_append]
  rfl
end Mt
/-! part MathRead -/
/-! Plain laws about reading: the readers of the specification, told by the place of a word in a list. -/
namespace Mr
open VametBase Vameta
/-- one of some words: its place -/
def tw (wl : List Text) : Toks → Got (Nat × Toks)
  | ⟨p, .word w⟩ :: r => if w ∈ wl then .ok (wl.idxOf w, r) else .error ⟨2, p⟩
  | l => wrong l
theorem tw_word {wl : List Text} {p : Nat} {w : Text} {r : Toks} : tw wl (⟨p, .word w⟩ :: r) = if w ∈ wl then .ok (wl.idxOf w, r) else .error ⟨2, p⟩ := rfl
theorem tw_other {wl : List Text} {t : Token} {r : Toks} (h : ∀ w, t.tok ≠ .word w) : tw wl (t :: r) = .error ⟨2, t.place⟩ := by
  obtain ⟨p, k⟩ := t
  cases k with
  | word w => exact absurd rfl (h w)
  | _ => rfl
theorem wordIs_cons (s : String) (t : Token) (r : Toks) : wordIs s (t :: r) = decide (t.tok = .word (word s)) := by
  unfold wordIs
  rw [Bool.eq_iff_iff]
  simp
theorem signIs_cons (b : Nat) (t : Token) (r : Toks) : signIs b (t :: r) = decide (t.tok = .sign b) := by
  unfold signIs
  rw [Bool.eq_iff_iff]
  simp
theorem wordIs_word (s : String) (p : Nat) (w : Text) (r : Toks) : wordIs s (⟨p, .word w⟩ :: r) = decide (w = word s) := by
  rw [wordIs_cons, Bool.eq_iff_iff]
  simp
theorem wordIs_other (s : String) {t : Token} {r : Toks} (h : ∀ w, t.tok ≠ .word w) : wordIs s (t :: r) = false := by
  rw [wordIs_cons]
  exact decide_eq_false (h _)
theorem takeWord_tw (s : String) : ∀ l : Toks, takeWord s l = (tw [word s] l).map (·.2)
  | [] => rfl
  | ⟨p, .word w⟩ :: r => by
    unfold takeWord
    rw [wordIs_word, tw_word]
    by_cases c : w = word s
    · rw [decide_eq_true c, if_pos rfl, if_pos (by rw [c]; exact List.mem_singleton_self _)]
      rfl
    · rw [decide_eq_false c, if_neg Bool.false_ne_true, if_neg (by rw [List.mem_singleton]; exact c)]
      rfl
  | ⟨p, .num n⟩ :: r => by
    unfold takeWord
    rw [wordIs_other s (by intro w z; cases z)]
    rfl
  | ⟨p, .sign n⟩ :: r => by
    unfold takeWord
    rw [wordIs_other s (by intro w z; cases z)]
    rfl
  | ⟨p, .ending⟩ :: r => by
    unfold takeWord
    rw [wordIs_other s (by intro w z; cases z)]
    rfl
def stepsW : List Text := ["add", "times", "rest", "abs", "sort", "reverse", "rotate", "take", "drop", "above", "once", "sum", "greatest", "least", "count", "steps", "sums", "twice"].map word
def condsW : List Text := ["any", "some", "rising", "plus", "unlike", "atleast"].map word
def relsW : List Text := ["equal", "bag", "numbers", "most", "least", "begins", "long"].map word
def stepI : Nat → Int → Step
  | 0, c => .add c
  | 1, c => .times c
  | _, c => .above c
def stepN : Nat → Nat → Step
  | 6, k => .rotate k
  | 7, k => .take k
  | _, k => .drop k
def stepP : Nat → Step
  | 3 => .abs
  | 4 => .sort
  | 5 => .reverse
  | 10 => .once
  | 11 => .sum
  | 12 => .greatest
  | 13 => .least
  | 14 => .count
  | 15 => .steps
  | 16 => .sums
  | _ => .twice
def stepOf (j : Nat) (r : Toks) : Got (Step × Toks) :=
  if j = 0 ∨ j = 1 ∨ j = 9 then (takeInt r).map fun c => (stepI j c.1, c.2)
  else if j = 2 then (takeNum 1 9 r).map fun m => (.rest m.1, m.2)
  else if j = 6 ∨ j = 7 ∨ j = 8 then (takeNum 0 9 r).map fun k => (stepN j k.1, k.2)
  else .ok (stepP j, r)
def relOf : Nat → Rel
  | 0 => .equal
  | 1 => .bag
  | 2 => .numbers
  | 3 => .most
  | 4 => .least
  | 5 => .begins
  | _ => .long
def condP : Nat → Cond
  | 0 => .any
  | 1 => .some
  | 2 => .rising
  | 3 => .plus
  | _ => .unlike
def condOf (j : Nat) (r : Toks) : Got (Cond × Toks) := if j = 5 then (takeNum 0 9 r).map fun k => (.atLeast k.1, k.2) else .ok (condP j, r)
theorem mem_words {w : Text} {l : List String} (h : w ∈ l.map word) : ∃ s ∈ l, w = word s := by
  obtain ⟨s, a, b⟩ := List.mem_map.mp h
  exact ⟨s, a, b.symm⟩
theorem not_words {w : Text} {l : List String} (h : w ∉ l.map word) : ∀ s ∈ l, w ≠ word s := fun s hs e => h (List.mem_map.mpr ⟨s, hs, e.symm⟩)
theorem takeStep_tw : ∀ l : Toks, takeStep l = (tw stepsW l).bind fun x => stepOf x.1 x.2
  | [] => rfl
  | ⟨p, .word w⟩ :: r => by
    rw [tw_word]
    by_cases h : w ∈ stepsW
    · rw [if_pos h]
      obtain ⟨s, hs, rfl⟩ := mem_words h
      simp only [List.mem_cons, List.not_mem_nil, or_false] at hs
      rcases hs with rfl | rfl | rfl | rfl | rfl | rfl | rfl | rfl | rfl | rfl | rfl | rfl | rfl | rfl | rfl | rfl | rfl | rfl <;> rfl
    · rw [if_neg h]
      have n := not_words h
      unfold takeStep PLAIN
      simp only [List.find?_cons, List.find?_nil, wordIs_word, decide_eq_false (n "add" (by decide)), decide_eq_false (n "times" (by decide)), decide_eq_false (n "rest" (by decide)), decide_eq_false (n "abs" (by decide)), decide_eq_false (n "sort" (by decide)), decide_eq_false (n "reverse" (by decide)), decide_eq_false (n "rotate" (by decide)), decide_eq_false (n "take" (by decide)), decide_eq_false (n "drop" (by decide)), decide_eq_false (n "above" (by decide)), decide_eq_false (n "once" (by decide)), decide_eq_false (n "sum" (by decide)), decide_eq_false (n "greatest" (by decide)), decide_eq_false (n "least" (by decide)), decide_eq_false (n "count" (by decide)), decide_eq_false (n "steps" (by decide)), decide_eq_false (n "sums" (by decide)), decide_eq_false (n "twice" (by decide)), Bool.false_eq_true, if_false]
      rfl
  | ⟨p, .num n⟩ :: r => by
    rw [tw_other (by intro w z; cases z)]
    unfold takeStep PLAIN
    simp only [List.find?_cons, List.find?_nil, wordIs_other _ (t := ⟨p, .num n⟩) (r := r) (by intro w z; cases z), Bool.false_eq_true, if_false]
    rfl
  | ⟨p, .sign n⟩ :: r => by
    rw [tw_other (by intro w z; cases z)]
    unfold takeStep PLAIN
    simp only [List.find?_cons, List.find?_nil, wordIs_other _ (t := ⟨p, .sign n⟩) (r := r) (by intro w z; cases z), Bool.false_eq_true, if_false]
    rfl
  | ⟨p, .ending⟩ :: r => by
    rw [tw_other (by intro w z; cases z)]
    unfold takeStep PLAIN
    simp only [List.find?_cons, List.find?_nil, wordIs_other _ (t := ⟨p, .ending⟩) (r := r) (by intro w z; cases z), Bool.false_eq_true, if_false]
    rfl
theorem takeCond_tw : ∀ l : Toks, takeCond l = (tw condsW l).bind fun x => condOf x.1 x.2
  | [] => rfl
  | ⟨p, .word w⟩ :: r => by
    rw [tw_word]
    by_cases h : w ∈ condsW
    · rw [if_pos h]
      obtain ⟨s, hs, rfl⟩ := mem_words h
      simp only [List.mem_cons, List.not_mem_nil, or_false] at hs
      rcases hs with rfl | rfl | rfl | rfl | rfl | rfl <;> rfl
    · rw [if_neg h]
      have n := not_words h
      unfold takeCond CONDS
      simp only [List.find?_cons, List.find?_nil, wordIs_word, decide_eq_false (n "any" (by decide)), decide_eq_false (n "some" (by decide)), decide_eq_false (n "rising" (by decide)), decide_eq_false (n "plus" (by decide)), decide_eq_false (n "unlike" (by decide)), decide_eq_false (n "atleast" (by decide)), Bool.false_eq_true, if_false]
      rfl
  | ⟨p, .num n⟩ :: r => by
    rw [tw_other (by intro w z; cases z)]
    unfold takeCond CONDS
    simp only [List.find?_cons, List.find?_nil, wordIs_other _ (t := ⟨p, .num n⟩) (r := r) (by intro w z; cases z), Bool.false_eq_true, if_false]
    rfl
  | ⟨p, .sign n⟩ :: r => by
    rw [tw_other (by intro w z; cases z)]
    unfold takeCond CONDS
    simp only [List.find?_cons, List.find?_nil, wordIs_other _ (t := ⟨p, .sign n⟩) (r := r) (by intro w z; cases z), Bool.false_eq_true, if_false]
    rfl
  | ⟨p, .ending⟩ :: r => by
    rw [tw_other (by intro w z; cases z)]
    unfold takeCond CONDS
    simp only [List.find?_cons, List.find?_nil, wordIs_other _ (t := ⟨p, .ending⟩) (r := r) (by intro w z; cases z), Bool.false_eq_true, if_false]
    rfl
theorem takeRel_tw : ∀ l : Toks, takeRel l = (tw relsW l).map fun x => (relOf x.1, x.2)
  | [] => rfl
  | ⟨p, .word w⟩ :: r => by
    rw [tw_word]
    by_cases h : w ∈ relsW
    · rw [if_pos h]
      obtain ⟨s, hs, rfl⟩ := mem_words h
      simp only [List.mem_cons, List.not_mem_nil, or_false] at hs
      rcases hs with rfl | rfl | rfl | rfl | rfl | rfl | rfl <;> rfl
    · rw [if_neg h]
      have n := not_words h
      unfold takeRel RELS
      simp only [List.find?_cons, List.find?_nil, wordIs_word, decide_eq_false (n "equal" (by decide)), decide_eq_false (n "bag" (by decide)), decide_eq_false (n "numbers" (by decide)), decide_eq_false (n "most" (by decide)), decide_eq_false (n "least" (by decide)), decide_eq_false (n "begins" (by decide)), decide_eq_false (n "long" (by decide)), Bool.false_eq_true, if_false]
      rfl
  | ⟨p, .num n⟩ :: r => by
    rw [tw_other (by intro w z; cases z)]
    unfold takeRel RELS
    simp only [List.find?_cons, List.find?_nil, wordIs_other _ (t := ⟨p, .num n⟩) (r := r) (by intro w z; cases z)]
    rfl
  | ⟨p, .sign n⟩ :: r => by
    rw [tw_other (by intro w z; cases z)]
    unfold takeRel RELS
    simp only [List.find?_cons, List.find?_nil, wordIs_other _ (t := ⟨p, .sign n⟩) (r := r) (by intro w z; cases z)]
    rfl
  | ⟨p, .ending⟩ :: r => by
    rw [tw_other (by intro w z; cases z)]
    unfold takeRel RELS
    simp only [List.find?_cons, List.find?_nil, wordIs_other _ (t := ⟨p, .ending⟩) (r := r) (by intro w z; cases z)]
    rfl
theorem stepWord_word (p : Nat) (w : Text) (r : Toks) : stepWord (⟨p, .word w⟩ :: r) = decide (w ∈ stepsW) := by
  rw [Bool.eq_iff_iff, decide_eq_true_iff]
  unfold stepWord PLAIN stepsW
  simp only [List.any_cons, List.any_nil, wordIs_word, Bool.or_false, Bool.or_eq_true, decide_eq_true_eq, List.map_cons, List.map_nil, List.mem_cons, List.not_mem_nil, or_false]
  constructor
  · intro h
    rcases h with (h | h | h | h | h | h | h) | (h | h | h | h | h | h | h | h | h | h | h) <;> simp only [h, true_or, or_true]
  · intro h
    rcases h with h | h | h | h | h | h | h | h | h | h | h | h | h | h | h | h | h | h <;> simp only [h, true_or, or_true]
theorem stepWord_other {t : Token} {r : Toks} (h : ∀ w, t.tok ≠ .word w) : stepWord (t :: r) = false := by
  unfold stepWord PLAIN
  simp only [List.any_cons, List.any_nil, wordIs_other _ h, Bool.or_false]
theorem tw_lt {wl : List Text} {l : Toks} {x : Nat × Toks} (h : tw wl l = .ok x) : x.1 < wl.length ∧ ∃ t, l = t :: x.2 := by
  cases l with
  | nil => cases h
  | cons t r =>
    obtain ⟨p, k⟩ := t
    cases k with
    | word w =>
      rw [tw_word] at h
      by_cases c : w ∈ wl
      · rw [if_pos c] at h
        cases h
        exact ⟨List.idxOf_lt_length_of_mem c, _, rfl⟩
      · rw [if_neg c] at h
        cases h
    | _ => cases h
theorem takeNum_ok {a b : Nat} {l : Toks} {x : Nat × Toks} (h : takeNum a b l = .ok x) : a ≤ x.1 ∧ x.1 ≤ b := by
  unfold takeNum at h
  split at h
  · split at h
    · cases h
      assumption
    · cases h
  · cases h
theorem takeInt_ok {l : Toks} {x : Int × Toks} (h : takeInt l = .ok x) : -99 ≤ x.1 ∧ x.1 ≤ 99 := by
  unfold takeInt at h
  split at h
  · cases e : takeNum 0 99 (l.drop 1) with
    | error f => rw [e] at h; cases h
    | ok n =>
      rw [e] at h
      have h : (if n.1 = 0 then (.error ⟨3, here l⟩ : Got (Int × Toks)) else .ok (0 - int n.1, n.2)) = .ok x := h
      have b := takeNum_ok e
      split at h
      · cases h
      · cases h
        unfold int
        omega
  · cases e : takeNum 0 99 l with
    | error f => rw [e] at h; cases h
    | ok n =>
      rw [e] at h
      cases h
      have b := takeNum_ok e
      show -99 ≤ int n.1 ∧ int n.1 ≤ 99
      unfold int
      omega
/-- places of words by what stands behind them -/
theorem step_kinds (j : Nat) (h : j < 18) : (j = 0 ∨ j = 1 ∨ j = 9) ∨ j = 2 ∨ (j = 6 ∨ j = 7 ∨ j = 8) ∨ (j = 3 ∨ j = 4 ∨ j = 5 ∨ j = 10 ∨ j = 11 ∨ j = 12 ∨ j = 13 ∨ j = 14 ∨ j = 15 ∨ j = 16 ∨ j = 17) := by omega
theorem stepsW_len : stepsW.length = 18 := rfl
theorem good_at {l : Toks} (g : Mt.Good l) {i : Nat} {t : Token} (h : l[i]? = some t) (ne : t.tok ≠ .ending) : i + 1 < l.length := by
  obtain ⟨k, p, rfl, hk⟩ := g
  have hi := (List.getElem?_eq_some_iff.mp h).1
  rw [List.length_append] at hi ⊢
  have hi : i < k.length + 1 := hi
  show i + 1 < k.length + 1
  by_cases c : i = k.length
  · rw [c, List.getElem?_append_right (Nat.le_refl _), Nat.sub_self] at h
    have h : some (⟨p, .ending⟩ : Token) = some t := h
    cases h
    exact absurd rfl ne
  · omega
end Mr
/-! part MathShown -/
/-! Plain laws about the one form: words joined by blanks. -/
namespace Ms
open VametBase Vameta
/-- each word with a blank ahead -/
def jn (ws : List Text) : Text := ws.flatMap fun w => 32 :: w
theorem jn_append (a b : List Text) : jn (a ++ b) = jn a ++ jn b := List.flatMap_append
theorem jn_cons (a : Text) (b : List Text) : jn (a :: b) = (32 :: a) ++ jn b := rfl
theorem jn_nil : jn [] = [] := rfl
theorem jn_flat {α : Type} (l : List α) (f : α → List Text) : jn (l.flatMap f) = l.flatMap fun x => jn (f x) := by
  induction l with
  | nil => rfl
  | cons x l ih => rw [List.flatMap_cons, jn_append, ih, List.flatMap_cons]
def wordsOf (wl : List Text) (fl : List Int) : List Text := wl.getD (fl.headD 0).toNat [] :: fl.tail.map intText
theorem int_num (n : Nat) : intText (int n) = numText n := by
  unfold intText int
  rw [if_neg (by omega), Int.natAbs_natCast]
theorem step_words (s : Step) : jn (wordsOf Mr.stepsW (flatStep s)) = word " " ++ stepText s := by
  cases s with
  | add c => simp only [wordsOf, flatStep, List.tail_cons, List.map_cons, List.map_nil, jn_cons, jn_nil, List.append_nil]; rfl
  | times c => simp only [wordsOf, flatStep, List.tail_cons, List.map_cons, List.map_nil, jn_cons, jn_nil, List.append_nil]; rfl
  | above c => simp only [wordsOf, flatStep, List.tail_cons, List.map_cons, List.map_nil, jn_cons, jn_nil, List.append_nil]; rfl
  | rest m => simp only [wordsOf, flatStep, List.tail_cons, List.map_cons, List.map_nil, jn_cons, jn_nil, int_num, List.append_nil]; rfl
  | rotate m => simp only [wordsOf, flatStep, List.tail_cons, List.map_cons, List.map_nil, jn_cons, jn_nil, int_num, List.append_nil]; rfl
  | take m => simp only [wordsOf, flatStep, List.tail_cons, List.map_cons, List.map_nil, jn_cons, jn_nil, int_num, List.append_nil]; rfl
  | drop m => simp only [wordsOf, flatStep, List.tail_cons, List.map_cons, List.map_nil, jn_cons, jn_nil, int_num, List.append_nil]; rfl
  | _ => rfl
theorem cond_words (c : Cond) : jn (wordsOf Mr.condsW (flatCond c)) = word " " ++ condText c := by
  cases c with
  | atLeast k => simp only [wordsOf, flatCond, List.tail_cons, List.map_cons, List.map_nil, jn_cons, jn_nil, int_num, List.append_nil]; rfl
  | _ => rfl
theorem rel_word (r : Rel) : Mr.relsW.getD (relNumber r).toNat [] = relText r := by cases r <;> rfl
def progWords (p : Program) : List Text := [word "("] ++ p.flatMap (fun s => wordsOf Mr.stepsW (flatStep s)) ++ [word ")"]
theorem prog_words (p : Program) : jn (progWords p) = programText p := by
  unfold progWords programText
  rw [jn_append, jn_append, jn_flat]
  have : (fun s => jn (wordsOf Mr.stepsW (flatStep s))) = fun s => word " " ++ stepText s := funext step_words
  rw [this, List.append_assoc]
  rfl
def relWords (r : Relation) : List Text := [word "relation"] ++ wordsOf Mr.condsW (flatCond r.cond) ++ [word "input"] ++ progWords r.input ++ ([word "output", relText r.rel]) ++ progWords r.output
/-- words joined by blanks, then a semicolon -/
def row : List Text → Text
  | [] => word ";"
  | w :: ws => w ++ jn ws ++ word ";"
def rowsOf (s : Source) : List Text := row (word "program" :: progWords s.program) :: s.relations.map fun r => row (relWords r)
theorem row_rel (r : Relation) : row (relWords r) ++ [10] = relationText r := by
  show (word "relation" ++ jn ((((wordsOf Mr.condsW (flatCond r.cond) ++ [word "input"]) ++ progWords r.input) ++ [word "output", relText r.rel]) ++ progWords r.output) ++ word ";") ++ [10] = _
  rw [jn_append, jn_append, jn_append, jn_append, cond_words, prog_words, prog_words, jn_cons, jn_cons, jn_nil, jn_cons, jn_nil]
  unfold relationText
  have e1 : word "relation " = word "relation" ++ word " " := rfl
  have e2 : word " output " = 32 :: (word "output" ++ [32]) := rfl
  have e3 : word ";\n" = word ";" ++ [10] := rfl
  have e4 : word " input" = 32 :: word "input" := rfl
  rw [e1, e2, e3, e4]
  simp only [List.append_assoc, List.cons_append, List.append_nil, List.nil_append]
theorem source_rows (s : Source) : sourceText s = (rowsOf s).flatMap fun t => t ++ [10] := by
  unfold sourceText rowsOf
  rw [List.flatMap_cons, List.flatMap_map]
  have : (fun r : Relation => row (relWords r) ++ [10]) = relationText := funext row_rel
  rw [this]
  show _ = (word "program" ++ jn (progWords s.program) ++ word ";") ++ [10] ++ _
  rw [prog_words]
  have e3 : word ";\n" = word ";" ++ [10] := rfl
  rw [e3]
  simp only [List.append_assoc]
/-! ### signs and lengths -/
def good (b : Nat) : Bool := isLetter b || (isDigit b || [32, 40, 41, 59, 45].contains b)
def OkW (w : Text) : Prop := w.all good = true ∧ w.length ≤ 10
theorem int_ok : ∀ n : Int, -99 ≤ n → n ≤ 99 → OkW (intText n) := by
  have h : ∀ k : Fin 199, (intText ((k.val : Int) - 99)).all good = true ∧ (intText ((k.val : Int) - 99)).length ≤ 10 := by decide +kernel
  intro n h1 h2
  have := h ⟨(n + 99).toNat, by omega⟩
  have e : (((n + 99).toNat : Nat) : Int) - 99 = n := by omega
  rw [show (⟨(n + 99).toNat, by omega⟩ : Fin 199).val = (n + 99).toNat from rfl, e] at this
  exact this
theorem steps_ok : ∀ w ∈ Mr.stepsW, OkW w := by
  have : ∀ w ∈ Mr.stepsW, w.all good = true ∧ w.length ≤ 10 := by decide +kernel
  exact this
theorem conds_ok : ∀ w ∈ Mr.condsW, OkW w := by
  have : ∀ w ∈ Mr.condsW, w.all good = true ∧ w.length ≤ 10 := by decide +kernel
  exact this
theorem rels_ok : ∀ w ∈ Mr.relsW, OkW w := by
  have : ∀ w ∈ Mr.relsW, w.all good = true ∧ w.length ≤ 10 := by decide +kernel
  exact this
/-- a head that is a word's place, then few small numbers -/
def FlatOk (n : Nat) (fl : List Int) : Prop := ∃ (j : Nat) (r : List Int), fl = (j : Int) :: r ∧ j < n ∧ r.length ≤ 1 ∧ ∀ x ∈ r, -99 ≤ x ∧ x ≤ 99
theorem words_ok {wl : List Text} (h : ∀ w ∈ wl, OkW w) {fl : List Int} (hf : FlatOk wl.length fl) : (∀ w ∈ wordsOf wl fl, OkW w) ∧ (wordsOf wl fl).length ≤ 2 := by
  obtain ⟨j, r, rfl, hj, hr, hx⟩ := hf
  refine ⟨fun w hw => ?_, ?_⟩
  · rcases List.mem_cons.mp hw with rfl | hw
    · show OkW (wl.getD (j : Int).toNat [])
      rw [Int.toNat_natCast, List.getD_eq_getElem?_getD, List.getElem?_eq_getElem hj]
      exact h _ (List.getElem_mem hj)
    · obtain ⟨x, hx2, rfl⟩ := List.mem_map.mp hw
      exact int_ok x (hx x hx2).1 (hx x hx2).2
  · show (List.map intText r).length + 1 ≤ 2
    rw [List.length_map]
    omega
theorem jn_ok : ∀ {ws : List Text}, (∀ w ∈ ws, OkW w) → (jn ws).all good = true ∧ (jn ws).length ≤ 11 * ws.length
  | [], _ => ⟨rfl, Nat.zero_le _⟩
  | w :: ws, h => by
    have h1 := h w List.mem_cons_self
    have h2 := jn_ok (ws := ws) fun x hx => h x (List.mem_cons_of_mem _ hx)
    rw [jn_cons, List.all_append, List.length_append, List.all_cons, List.length_cons, List.length_cons, h1.1, h2.1]
    refine ⟨rfl, ?_⟩
    have := h1.2
    omega
theorem row_ok {ws : List Text} (h : ∀ w ∈ ws, OkW w) (hl : ws.length ≤ 50) : (row ws).all good = true ∧ (row ws).length ≤ 1000 := by
  cases ws with
  | nil => exact ⟨rfl, by decide⟩
  | cons w ws =>
    have h1 := h w List.mem_cons_self
    have h2 := jn_ok (ws := ws) fun x hx => h x (List.mem_cons_of_mem _ hx)
    have h3 := h1.2
    have h4 := h2.2
    rw [List.length_cons] at hl
    show (w ++ jn ws ++ word ";").all good = true ∧ (w ++ jn ws ++ word ";").length ≤ 1000
    rw [List.all_append, List.all_append, h1.1, h2.1, List.length_append, List.length_append]
    refine ⟨rfl, ?_⟩
    show w.length + (jn ws).length + 1 ≤ 1000
    omega
theorem prog_ok {p : Program} (h : ∀ s ∈ p, FlatOk 18 (flatStep s)) (hl : p.length ≤ 8) : (∀ w ∈ progWords p, OkW w) ∧ (progWords p).length ≤ 18 := by
  refine ⟨fun w hw => ?_, ?_⟩
  · unfold progWords at hw
    rw [List.mem_append, List.mem_append] at hw
    rcases hw with (hw | hw) | hw
    · rw [List.mem_singleton.mp hw]; exact ⟨rfl, by decide⟩
    · obtain ⟨s, hs, hw⟩ := List.mem_flatMap.mp hw
      exact (words_ok (wl := Mr.stepsW) steps_ok (h s hs)).1 w hw
    · rw [List.mem_singleton.mp hw]; exact ⟨rfl, by decide⟩
  · unfold progWords
    have : ∀ q : Program, (∀ s ∈ q, FlatOk 18 (flatStep s)) → (q.flatMap fun s => wordsOf Mr.stepsW (flatStep s)).length ≤ 2 * q.length := by
      intro q
      induction q with
      | nil => intro _; exact Nat.zero_le _
      | cons s q ih =>
        intro hq
        have a := (words_ok (wl := Mr.stepsW) steps_ok (hq s List.mem_cons_self)).2
        have b := ih fun x hx => hq x (List.mem_cons_of_mem _ hx)
        rw [List.flatMap_cons, List.length_append, List.length_cons]
        omega
    have := this p h
    rw [List.length_append, List.length_append]
    show 1 + _ + 1 ≤ 18
    omega
theorem rel_mem (r : Rel) : relText r ∈ Mr.relsW := by cases r <;> decide +kernel
theorem relw_ok {r : Relation} (hc : FlatOk 6 (flatCond r.cond)) (hi : (∀ s ∈ r.input, FlatOk 18 (flatStep s)) ∧ r.input.length ≤ 8) (ho : (∀ s ∈ r.output, FlatOk 18 (flatStep s)) ∧ r.output.length ≤ 8) : (∀ w ∈ relWords r, OkW w) ∧ (relWords r).length ≤ 50 := by
  have a := words_ok (wl := Mr.condsW) conds_ok hc
  have b := prog_ok hi.1 hi.2
  have c := prog_ok ho.1 ho.2
  refine ⟨fun w hw => ?_, ?_⟩
  · unfold relWords at hw
    simp only [List.mem_append, List.mem_cons, List.not_mem_nil, or_false] at hw
    rcases hw with ((((rfl | hw) | rfl) | hw) | (rfl | rfl)) | hw
    · exact ⟨rfl, by decide⟩
    · exact a.1 w hw
    · exact ⟨rfl, by decide⟩
    · exact b.1 w hw
    · exact ⟨rfl, by decide⟩
    · exact rels_ok _ (rel_mem _)
    · exact c.1 w hw
  · unfold relWords
    have a2 := a.2
    have b2 := b.2
    have c2 := c.2
    simp only [List.length_append, List.length_cons, List.length_nil]
    omega
end Ms
/-! part MathRowOf -/
/-! Plain laws about rows told. -/
namespace Mo
open VametBase
def inRow (n : Int) : Bool := decide (-99 ≤ n) && decide (n ≤ 99)
theorem times_all : ∀ (n : Nat) (l : List Int), (readTimes (readInt TOLD) n l) = if n ≤ l.length ∧ (l.take n).all inRow = true then some (l.take n, l.drop n) else none
  | 0, l => by simp [readTimes]
  | n + 1, [] => by simp [readTimes, readInt]
  | n + 1, x :: l => by
    show ((readInt TOLD (x :: l)).bind fun u => (readTimes (readInt TOLD) n u.2).map fun v => (u.1 :: v.1, v.2)) = _
    have e : readInt TOLD (x :: l) = if inRow x = true then some (x, l) else none := by
      show (if 0 - TOLD ≤ x ∧ x ≤ TOLD then some (x, l) else none) = _
      unfold TOLD inRow
      by_cases c : 0 - 99 ≤ x ∧ x ≤ 99
      · rw [if_pos c, if_pos (by rw [Bool.and_eq_true, decide_eq_true_eq, decide_eq_true_eq]; omega)]
      · rw [if_neg c, if_neg (by rw [Bool.and_eq_true, decide_eq_true_eq, decide_eq_true_eq]; omega)]
    rw [e]
    by_cases c : inRow x = true
    · rw [if_pos c]
      show (readTimes (readInt TOLD) n l).map _ = _
      rw [times_all n l]
      by_cases c2 : n ≤ l.length ∧ (l.take n).all inRow = true
      · rw [if_pos c2, if_pos ⟨by rw [List.length_cons]; omega, by rw [List.take_succ_cons, List.all_cons, c, c2.2]; rfl⟩]
        rfl
      · rw [if_neg c2, if_neg]
        · rfl
        · rintro ⟨h1, h2⟩
          rw [List.take_succ_cons, List.all_cons, Bool.and_eq_true] at h2
          rw [List.length_cons] at h1
          exact c2 ⟨by omega, h2.2⟩
    · rw [if_neg c, if_neg]
      · rfl
      · rintro ⟨h1, h2⟩
        rw [List.take_succ_cons, List.all_cons, Bool.and_eq_true] at h2
        exact c h2.1
theorem row_nil : whole readRow [] = none := rfl
theorem row_cons (n : Int) (l : List Int) : whole readRow (n :: l) = if (n = l.length ∧ n ≤ 8) ∧ l.all inRow = true then some l else none := by
  unfold whole
  have e : readRow (n :: l) = if 0 ≤ n ∧ n ≤ 8 then readTimes (readInt TOLD) n.toNat l else none := by
    show ((readNat 0 8 (n :: l)).bind fun n => readTimes (readInt TOLD) n.1 n.2) = _
    show ((if int 0 ≤ n ∧ n ≤ int 8 then some (n.toNat, l) else none).bind fun n => readTimes (readInt TOLD) n.1 n.2) = _
    by_cases c : 0 ≤ n ∧ n ≤ 8
    · rw [if_pos c, if_pos (show int 0 ≤ n ∧ n ≤ int 8 from c)]
      rfl
    · rw [if_neg c, if_neg (show ¬ (int 0 ≤ n ∧ n ≤ int 8) from c)]
      rfl
  rw [e]
  by_cases c : 0 ≤ n ∧ n ≤ 8
  · rw [if_pos c, times_all]
    by_cases c2 : n.toNat ≤ l.length ∧ (l.take n.toNat).all inRow = true
    · rw [if_pos c2]
      by_cases c3 : n = l.length
      · have : n.toNat = l.length := by omega
        rw [this, List.take_length, List.drop_length]
        rw [this, List.take_length] at c2
        rw [if_pos ⟨⟨c3, c.2⟩, c2.2⟩]
      · have : n.toNat < l.length := by omega
        obtain ⟨y, r, hr⟩ : ∃ y r, l.drop n.toNat = y :: r := by
          cases h : l.drop n.toNat with
          | nil =>
            have := List.drop_eq_nil_iff.mp h
            omega
          | cons y r => exact ⟨y, r, rfl⟩
        rw [hr, if_neg (fun z => c3 z.1.1)]
    · rw [if_neg c2, if_neg]
      rintro ⟨⟨h1, h2⟩, h3⟩
      have : n.toNat = l.length := by omega
      rw [this, List.take_length] at c2
      exact c2 ⟨Nat.le_refl _, h3⟩
  · rw [if_neg c, if_neg]
    rintro ⟨⟨h1, h2⟩, h3⟩
    exact c ⟨by omega, h2⟩
theorem row_small {l : List Int} {r : Row} (h : whole readRow l = some r) : r.length ≤ 8 ∧ (∀ x ∈ r, -99 ≤ x ∧ x ≤ 99) ∧ within r = true := by
  cases l with
  | nil => cases h
  | cons n l =>
    rw [row_cons] at h
    by_cases c : (n = l.length ∧ n ≤ 8) ∧ l.all inRow = true
    · rw [if_pos c] at h
      have h := Option.some.inj h
      subst h
      have hr : ∀ x ∈ l, -99 ≤ x ∧ x ≤ 99 := fun x hx => by
        have := List.all_eq_true.mp c.2 x hx
        unfold inRow at this
        rw [Bool.and_eq_true, decide_eq_true_eq, decide_eq_true_eq] at this
        exact this
      refine ⟨by omega, hr, Mx.within_iff.mpr ⟨by omega, fun x hx => ?_⟩⟩
      have := hr x hx
      omega
    · rw [if_neg c] at h
      cases h
/-- a bound, handed over -/
theorem bound_eq (n a b : Int) : whole readBound [n, a, b] = if (0 ≤ n ∧ n ≤ 8) ∧ (-99 ≤ a ∧ a ≤ b ∧ b ≤ 99) ∧ inputCount ⟨n.toNat, a, b⟩ ≤ 1500 then some ⟨n.toNat, a, b⟩ else none := by
  have e : readBound [n, a, b] = if (0 ≤ n ∧ n ≤ 8) ∧ (-99 ≤ a ∧ a ≤ 99) ∧ (-99 ≤ b ∧ b ≤ 99) then (if okBound ⟨n.toNat, a, b⟩ then some (⟨n.toNat, a, b⟩, []) else none) else none := by
    have e1 : readNat 0 8 [n, a, b] = if 0 ≤ n ∧ n ≤ 8 then some (n.toNat, [a, b]) else none := rfl
    have e2 : readInt TOLD [a, b] = if 0 - 99 ≤ a ∧ a ≤ 99 then some (a, [b]) else none := rfl
    have e3 : readInt TOLD [b] = if 0 - 99 ≤ b ∧ b ≤ 99 then some (b, []) else none := rfl
    unfold readBound readPair
    dsimp only
    rw [e1]
    by_cases c1 : 0 ≤ n ∧ n ≤ 8
    · rw [if_pos c1, Option.bind_some]
      dsimp only
      rw [e2]
      by_cases c2 : -99 ≤ a ∧ a ≤ 99
      · rw [if_pos (show 0 - 99 ≤ a ∧ a ≤ 99 by omega), Option.bind_some]
        dsimp only
        rw [e3]
        by_cases c3 : -99 ≤ b ∧ b ≤ 99
        · rw [if_pos (show 0 - 99 ≤ b ∧ b ≤ 99 by omega), if_pos ⟨c1, c2, c3⟩]
          rfl
        · rw [if_neg (show ¬ (0 - 99 ≤ b ∧ b ≤ 99) by omega), if_neg (fun z => c3 z.2.2)]
          rfl
      · rw [if_neg (show ¬ (0 - 99 ≤ a ∧ a ≤ 99) by omega), if_neg (fun z => c2 z.2.1)]
        rfl
    · rw [if_neg c1, if_neg (fun z => c1 z.1)]
      rfl
  unfold whole
  rw [e]
  have ok : okBound ⟨n.toNat, a, b⟩ = true ↔ n.toNat ≤ 8 ∧ -99 ≤ a ∧ a ≤ b ∧ b ≤ 99 ∧ inputCount ⟨n.toNat, a, b⟩ ≤ 1500 := by
    unfold okBound TOLD INPUTS
    simp only [Bool.and_eq_true, decide_eq_true_eq]
    constructor
    · rintro ⟨h1, h2, h3, h4, h5⟩
      exact ⟨h1, by omega, h3, h4, h5⟩
    · rintro ⟨h1, h2, h3, h4, h5⟩
      exact ⟨h1, by omega, h3, h4, h5⟩
  by_cases c : (0 ≤ n ∧ n ≤ 8) ∧ (-99 ≤ a ∧ a ≤ b ∧ b ≤ 99) ∧ inputCount ⟨n.toNat, a, b⟩ ≤ 1500
  · rw [if_pos c, if_pos ⟨c.1, by omega, by omega⟩, if_pos (ok.mpr ⟨by omega, c.2.1.1, c.2.1.2.1, c.2.1.2.2, c.2.2⟩)]
  · rw [if_neg c]
    by_cases c2 : (0 ≤ n ∧ n ≤ 8) ∧ (-99 ≤ a ∧ a ≤ 99) ∧ (-99 ≤ b ∧ b ≤ 99)
    · rw [if_pos c2, if_neg]
      intro h
      have h := ok.mp h
      exact c ⟨c2.1, ⟨h.2.1, h.2.2.1, h.2.2.2.1⟩, h.2.2.2.2⟩
    · rw [if_neg c2]
def sidesFlat : Option Sides → List Int
  | none => [0]
  | some s => 1 :: (listedInts s.left ++ listedInts s.right)
theorem sides_told (f : Program) (r : Relation) (x : Row) : Vameta.sidesTold f r x = sidesFlat (sides f r x) := by
  unfold Vameta.sidesTold
  cases sides f r x <;> rfl
end Mo
/-! part MathFlat -/
/-! Plain laws about the flat list of calls. -/
namespace Mf
open PyFlat
def shapesN : List (Nat × Nat) := [(0, 1), (0, 0), (0, 0), (0, 1), (0, 1), (1, 1), (1, 1), (1, 1), (3, 0), (1, 0), (2, 0)]
theorem shape_inv {p : Int} {x : Nat × Nat} (h : PyVameta.shape p = some x) : ∃ j : Nat, p = j ∧ shapesN[j]? = some x := by
  unfold PyVameta.shape at h
  split at h
  · cases h; exact ⟨0, by assumption, rfl⟩
  split at h
  · cases h; exact ⟨1, by assumption, rfl⟩
  split at h
  · cases h; exact ⟨2, by assumption, rfl⟩
  split at h
  · cases h; exact ⟨3, by assumption, rfl⟩
  split at h
  · cases h; exact ⟨4, by assumption, rfl⟩
  split at h
  · cases h; exact ⟨5, by assumption, rfl⟩
  split at h
  · cases h; exact ⟨6, by assumption, rfl⟩
  split at h
  · cases h; exact ⟨7, by assumption, rfl⟩
  split at h
  · cases h; exact ⟨8, by assumption, rfl⟩
  split at h
  · cases h; exact ⟨9, by assumption, rfl⟩
  split at h
  · cases h; exact ⟨10, by assumption, rfl⟩
  · cases h
theorem row_inv {l x t : List Int} (h : row l = some (x, t)) : ∃ (m : Nat) (r : List Int), l = (m : Int) :: r ∧ m ≤ r.length ∧ x = r.take m ∧ t = r.drop m := by
  cases l with
  | nil => cases h
  | cons n r =>
    have h : (if 0 ≤ n ∧ n.toNat ≤ r.length then some (r.take n.toNat, r.drop n.toNat) else none) = some (x, t) := h
    by_cases c : 0 ≤ n ∧ n.toNat ≤ r.length
    · rw [if_pos c] at h
      cases h
      exact ⟨n.toNat, r, by rw [Int.toNat_of_nonneg c.1], c.2, rfl, rfl⟩
    · rw [if_neg c] at h
      cases h
theorem call_inv {p : Int} {r t : List Int} {c : List (List Int)} (h : call PyVameta.shape (p :: r) = some (c, t)) : ∃ j n k : Nat, p = j ∧ shapesN[j]? = some (n, k) ∧ n ≤ r.length ∧
    ((k = 0 ∧ c = [(j : Int) :: r.take n] ∧ t = r.drop n) ∨ (k = 1 ∧ ∃ (m : Nat) (r2 : List Int), r.drop n = (m : Int) :: r2 ∧ m ≤ r2.length ∧ c = [(j : Int) :: r.take n, r2.take m] ∧ t = r2.drop m)) := by
  have h : (match PyVameta.shape p with
    | none => none
    | some (n, k) => if r.length < n then none else match rows k (r.drop n) with
      | none => none
      | some (xs, t) => some ((p :: r.take n) :: xs, t)) = some (c, t) := h
  cases hs : PyVameta.shape p with
  | none => rw [hs] at h; cases h
  | some x =>
    obtain ⟨n, k⟩ := x
    rw [hs] at h
    have h : (if r.length < n then none else match rows k (r.drop n) with
      | none => none
      | some (xs, t) => some ((p :: r.take n) :: xs, t)) = some (c, t) := h
    obtain ⟨j, rfl, hj⟩ := shape_inv hs
    by_cases c1 : r.length < n
    · rw [if_pos c1] at h
      cases h
    · rw [if_neg c1] at h
      refine ⟨j, n, k, rfl, hj, by omega, ?_⟩
      have hk : k = 0 ∨ k = 1 := by
        have hjl := (List.getElem?_eq_some_iff.mp hj).1
        have hjl : j < 11 := hjl
        have : ∀ j, j < 11 → ∀ n k, shapesN[j]? = some (n, k) → k = 0 ∨ k = 1 := by
          intro j hj n k h
          have : j = 0 ∨ j = 1 ∨ j = 2 ∨ j = 3 ∨ j = 4 ∨ j = 5 ∨ j = 6 ∨ j = 7 ∨ j = 8 ∨ j = 9 ∨ j = 10 := by omega
          rcases this with rfl | rfl | rfl | rfl | rfl | rfl | rfl | rfl | rfl | rfl | rfl <;> (cases h; decide)
        exact this j hjl n k hj
      rcases hk with rfl | rfl
      · left
        have h : some (((j : Int) :: r.take n) :: [], r.drop n) = some (c, t) := h
        cases h
        exact ⟨rfl, rfl, rfl⟩
      · right
        refine ⟨rfl, ?_⟩
        cases hr : row (r.drop n) with
        | none =>
          have : rows 1 (r.drop n) = none := by
            show (match row (r.drop n) with
              | none => none
              | some (x, s) => match rows 0 s with
                | none => none
                | some (xs, t) => some (x :: xs, t)) = none
            rw [hr]
          rw [this] at h
          cases h
        | some x =>
          obtain ⟨x, s⟩ := x
          have : rows 1 (r.drop n) = some ([x], s) := by
            show (match row (r.drop n) with
              | none => none
              | some (x, s) => match rows 0 s with
                | none => none
                | some (xs, t) => some (x :: xs, t)) = _
            rw [hr]
            rfl
          rw [this] at h
          cases h
          obtain ⟨m, r2, h1, h2, rfl, rfl⟩ := row_inv hr
          exact ⟨m, r2, h1, h2, rfl, rfl⟩
theorem calls_nil (f : Nat) : calls PyVameta.shape f [] = some [] := by cases f <;> rfl
theorem calls_cons {f : Nat} {p : Int} {r : List Int} {cs : List (List (List Int))} (h : calls PyVameta.shape f (p :: r) = some cs) : ∃ g c t cs', f = g + 1 ∧ call PyVameta.shape (p :: r) = some (c, t) ∧ calls PyVameta.shape g t = some cs' ∧ cs = c :: cs' := by
  cases f with
  | zero => cases h
  | succ g =>
    have h : (match call PyVameta.shape (p :: r) with
      | none => none
      | some (c, t) => match calls PyVameta.shape g t with
        | none => none
        | some cs => some (c :: cs)) = some cs := h
    cases hc : call PyVameta.shape (p :: r) with
    | none => rw [hc] at h; cases h
    | some x =>
      obtain ⟨c, t⟩ := x
      rw [hc] at h
      have h : (match calls PyVameta.shape g t with
        | none => none
        | some cs => some (c :: cs)) = some cs := h
      cases hcs : calls PyVameta.shape g t with
      | none => rw [hcs] at h; cases h
      | some cs' =>
        rw [hcs] at h
        cases h
        exact ⟨g, c, t, cs', rfl, rfl, hcs, rfl⟩
theorem told_cons (a : List Int) (l : List (List Int)) : told (a :: l) = ((a.length : Int) :: a) ++ told l := rfl
/-- what is asked, taken apart -/
theorem asked_inv {l : List Int} (h : PyVameta.answers_asked l = true) : ∃ raw, calls PyVameta.shape l.length l = some raw ∧ (∀ c ∈ raw, VametaNeutral.asked1 (PyVameta.whole c) = true) ∧
    PyVameta.answers l = told (played VametaNeutral.step VametaNeutral.start (raw.map PyVameta.whole)) ∧ (PyVameta.answers l).length ≤ 10000000 := by
  unfold PyVameta.answers_asked at h
  cases hc : calls PyVameta.shape l.length l with
  | none => rw [hc] at h; cases h
  | some raw =>
    rw [hc] at h
    have h : (!raw.isEmpty && atMost 60 raw && PyInside.calls PyVameta.bound raw && VametaNeutral.asked (raw.map PyVameta.whole) && short 10000000 (PyVameta.answers l)) = true := h
    simp only [Bool.and_eq_true] at h
    obtain ⟨⟨⟨⟨_, _⟩, _⟩, h1⟩, h2⟩ := h
    refine ⟨raw, rfl, fun c hc => ?_, ?_, of_decide_eq_true h2⟩
    · unfold VametaNeutral.asked at h1
      rw [Bool.and_eq_true] at h1
      exact List.all_eq_true.mp h1.1 _ (List.mem_map_of_mem hc)
    · unfold PyVameta.answers PyVameta.calls
      rw [hc]
theorem load_ok {t : List Int} (h : VametaNeutral.asked1 (PyVameta.whole [[0], t]) = true) : VametaNeutral.callOf (PyVameta.whole [[0], t]) = some (.load (t.map Int.toNat)) ∧ t.length ≤ 1600 ∧ (t.map Int.toNat).map (fun (n : Nat) => (n : Int)) = t := by
  have h : (t.all (fun (z : Int) => VametaNeutral.natural z 8) && decide (t.length ≤ 1600)) = true := h
  rw [Bool.and_eq_true, decide_eq_true_eq] at h
  have hb : ∀ z ∈ t, 0 ≤ z ∧ z < 256 := fun z hz => by
    have := List.all_eq_true.mp h.1 z hz
    unfold VametaNeutral.natural at this
    rw [Bool.and_eq_true, decide_eq_true_eq, decide_eq_true_eq] at this
    exact this
  refine ⟨?_, h.2, ?_⟩
  · show (if NeutralIO.bytes t then some (Vameta.Call.load (t.map Int.toNat)) else none) = _
    rw [if_pos]
    unfold NeutralIO.bytes
    rw [List.all_eq_true]
    intro z hz
    have := hb z hz
    rw [Bool.and_eq_true, decide_eq_true_eq, decide_eq_true_eq]
    omega
  · rw [List.map_map]
    have : ∀ l : List Int, (∀ z ∈ l, 0 ≤ z ∧ z < 256) → l.map ((fun (n : Nat) => (n : Int)) ∘ Int.toNat) = l := by
      intro l
      induction l with
      | nil => intro _; rfl
      | cons x l ih =>
        intro hl
        rw [List.map_cons, ih fun z hz => hl z (List.mem_cons_of_mem _ hz)]
        have := hl x List.mem_cons_self
        show ((x.toNat : Nat) : Int) :: l = x :: l
        rw [Int.toNat_of_nonneg this.1]
    exact this t hb
theorem list_ok {l : List Int} (h : VametaNeutral.listOk l 20 = true) : l.length ≤ 20 := by
  unfold VametaNeutral.listOk at h
  rw [Bool.and_eq_true, decide_eq_true_eq] at h
  exact h.2
theorem step_of {s : Vameta.State} {c : List (List Int)} {k : Vameta.Call} (h : VametaNeutral.callOf c = some k) : VametaNeutral.step s c = Vameta.step s k := by
  unfold VametaNeutral.step
  rw [h]
  rfl
end Mf
/-! part Found -/
/-! Rules and short words of this proof, over the hand layer. -/
namespace RR
open PySem PySem.Spec PyProof.Rows L2

/-! ### heaps -/
def Ex (H H' : Hp) : Prop := ∀ a o, H a = some o → H' a = some o
theorem Ex.refl (H : Hp) : Ex H H := fun _ _ h => h
theorem Ex.trans {H H1 H2 : Hp} (a : Ex H H1) (b : Ex H1 H2) : Ex H H2 := fun x o h => b x o (a x o h)
theorem Ex.new {H : Hp} {p : Addr} {o : HO} (h : H p = none) : Ex H (upd H p o) := fun a u e => by
  rw [upd_ne (ne_of_none e h)]
  exact e
theorem Ex.mut {H H' : Hp} {p : Addr} {o : HO} (e : Ex H H') (h : H p = none) : Ex H (upd H' p o) := fun a u ha => by
  rw [upd_ne (ne_of_none ha h)]
  exact e a u ha
theorem Ex.add {H H' : Hp} {p : Addr} {o : HO} (e : Ex H H') (h : H' p = none) : Ex H (upd H' p o) := e.trans (Ex.new h)
theorem Ex.back {H H' : Hp} {p : Addr} (e : Ex H H') (h : H' p = none) : H p = none := by
  cases h1 : H p with
  | none => rfl
  | some o =>
    rw [e p o h1] at h
    cases h
theorem Ex.rd {H H' : Hp} {a : Addr} {u : HO} (e : Ex H H') (h : Rd H a u) : Rd H' a u := by
  rcases h with h | ⟨o, h⟩
  · exact Or.inl (e a _ h)
  · exact Or.inr ⟨o, e a _ h⟩
theorem Ex.l {K : PySem.W.Frag} {H H' : Hp} {a : Addr} {xs : List V} (e : Ex H H') (h : SqL K H a xs) : SqL K H' a xs := by
  rcases h with h | h
  · exact Or.inl (e.rd h)
  · exact Or.inr h
theorem Ex.t {K : PySem.W.Frag} {H H' : Hp} {a : Addr} {xs : List V} (e : Ex H H') (h : SqT K H a xs) : SqT K H' a xs := by
  rcases h with h | h
  · exact Or.inl (e.rd h)
  · exact Or.inr h
theorem sz_of {n : Nat} (h : n ≤ 16000000) : n ≤ sizeLine := Nat.le_trans h (by decide)
theorem sz_lt {n : Nat} (h : n < 16000000) : n < sizeLine := Nat.lt_of_lt_of_le h (by decide)
/-- all but the object at a as before -/
def ExB (a : Addr) (H H' : Hp) : Prop := ∀ b o, H b = some o → b ≠ a → H' b = some o
theorem ExB.refl (a : Addr) (H : Hp) : ExB a H H := fun _ _ h _ => h
theorem ExB.trans {a : Addr} {H H1 H2 : Hp} (x : ExB a H H1) (y : ExB a H1 H2) : ExB a H H2 := fun b o h n => y b o (x b o h n) n
theorem Ex.b {a : Addr} {H H' : Hp} (e : Ex H H') : ExB a H H' := fun b o h _ => e b o h
theorem ExB.upd {a : Addr} {H : Hp} {o : HO} : ExB a H (upd H a o) := fun b u h n => by
  rw [upd_ne n]
  exact h
theorem ExB.t {K : PySem.W.Frag} {H H' : Hp} {a b : Addr} {xs : List V} (e : ExB a H H') (ha : ∃ C dx fs, H a = some (.ins C dx fs)) (h : SqT K H b xs) : SqT K H' b xs := by
  obtain ⟨C, dx, fs, ha⟩ := ha
  rcases h with h | h
  · left
    rcases h with h | ⟨o, h⟩
    · exact Or.inl (e b _ h (ne_of h ha (by intro z; cases z)))
    · exact Or.inr ⟨o, e b _ h (ne_of h ha (by intro z; cases z))⟩
  · exact Or.inr h

/-! ### promises by the number of arguments -/
def Sp0 (F : Hp → VK → XK → Prop) : Sp := fun vs H Q E => vs = [] ∧ F H Q E
def Sp1 (F : V → Hp → VK → XK → Prop) : Sp := fun vs H Q E => ∃ a, vs = [a] ∧ F a H Q E
def Sp2 (F : V → V → Hp → VK → XK → Prop) : Sp := fun vs H Q E => ∃ a b, vs = [a, b] ∧ F a b H Q E
def Sp3 (F : V → V → V → Hp → VK → XK → Prop) : Sp := fun vs H Q E => ∃ a b c, vs = [a, b, c] ∧ F a b c H Q E
def Sp4 (F : V → V → V → V → Hp → VK → XK → Prop) : Sp := fun vs H Q E => ∃ a b c d, vs = [a, b, c, d] ∧ F a b c d H Q E
def Sp5 (F : V → V → V → V → V → Hp → VK → XK → Prop) : Sp := fun vs H Q E => ∃ a b c d e, vs = [a, b, c, d, e] ∧ F a b c d e H Q E
theorem Sp1.len {F} {x : Str} : ∀ vs H Q E, Sp1 F vs H Q E → vs.length = [x].length := by rintro vs H Q E ⟨a, rfl, _⟩; rfl
theorem Sp2.len {F} {x y : Str} : ∀ vs H Q E, Sp2 F vs H Q E → vs.length = [x, y].length := by rintro vs H Q E ⟨a, b, rfl, _⟩; rfl
theorem Sp3.len {F} {x y z : Str} : ∀ vs H Q E, Sp3 F vs H Q E → vs.length = [x, y, z].length := by rintro vs H Q E ⟨a, b, c, rfl, _⟩; rfl
theorem Sp4.len {F} {x y z u : Str} : ∀ vs H Q E, Sp4 F vs H Q E → vs.length = [x, y, z, u].length := by rintro vs H Q E ⟨a, b, c, d, rfl, _⟩; rfl
theorem Sp5.len {F} {x y z u v : Str} : ∀ vs H Q E, Sp5 F vs H Q E → vs.length = [x, y, z, u, v].length := by rintro vs H Q E ⟨a, b, c, d, e, rfl, _⟩; rfl

/-! ### what a def gives back -/
def RetL (H : Hp) (xs : List V) (Q : VK) : Prop := ∀ H' p, Ex H H' → H p = none → H' p = some (.lst xs) → Q (.ref p) H'
def RetU (H : Hp) (xs : List V) (Q : VK) : Prop := ∀ H' p, Ex H H' → H p = none → H' p = some (.tup xs) → Q (.ref p) H'
def RetV (H : Hp) (v : V) (Q : VK) : Prop := ∀ H', Ex H H' → Q v H'

/-! ### defs and methods, ready to be called -/
structure DefAt (K : PySem.W.Frag) (mg : Str → Option Value) (x : Str) (st : Stmt) (ps : List Str) : Prop where
  ex : ∃ (f : Addr) (fd : FuncData), Fun K x x st f fd ∧ mg x = some (.ref f) ∧ Binds K fd ps []
structure MetAt (K : PySem.W.Frag) (C : Addr) (m qual : Str) (st : Stmt) (ps : List Str) : Prop where
  ex : ∃ (f : Addr) (fd : FuncData), Fun K m qual st f fd ∧ Meth K C m f ∧ Binds K fd ps []
structure IniAt (K : PySem.W.Frag) (mg : Str → Option Value) (x : Str) (C : Addr) (qual : Str) (st : Stmt) (ps : List Str) : Prop where
  ex : ∃ (f : Addr) (fd : FuncData), Fun K "__init__" qual st f fd ∧ Mk K C f ∧ mg x = some (.ref C) ∧ Binds K fd ps []
structure Cal0 (P : Program) (w : World) (K : PySem.W.Frag) (mg : Str → Option Value) (base : Heap) (k : Nat) (x : Str) (sp : Sp) : Prop where
  ex : ∃ (f : Addr) (fd : FuncData) (ps : List Str), FnOk P w K mg base CX0 k f fd ps sp ∧ mg x = some (.ref f) ∧ PySem.W.keepIn K (.ref f) = true ∧ Binds K fd ps []
structure CalX (P : Program) (w : World) (K : PySem.W.Frag) (mg : Str → Option Value) (base : Heap) (k : Nat) (x : Str) (sp : Sp) : Prop where
  ex : ∃ (f : Addr) (fd : FuncData) (ps : List Str), FnOk P w K mg base (L2.CX P w) k f fd ps sp ∧ mg x = some (.ref f) ∧ PySem.W.keepIn K (.ref f) = true ∧ Binds K fd ps []
structure Met0 (P : Program) (w : World) (K : PySem.W.Frag) (mg : Str → Option Value) (base : Heap) (k : Nat) (C : Addr) (m : Str) (sp : Sp) : Prop where
  ex : ∃ (f : Addr) (fd : FuncData) (ps : List Str), FnOk P w K mg base CX0 k f fd ps sp ∧ Meth K C m f ∧ Binds K fd ps []
structure MetX (P : Program) (w : World) (K : PySem.W.Frag) (mg : Str → Option Value) (base : Heap) (k : Nat) (C : Addr) (m : Str) (sp : Sp) : Prop where
  ex : ∃ (f : Addr) (fd : FuncData) (ps : List Str), FnOk P w K mg base (L2.CX P w) k f fd ps sp ∧ Meth K C m f ∧ Binds K fd ps []
structure Mak0 (P : Program) (w : World) (K : PySem.W.Frag) (mg : Str → Option Value) (base : Heap) (k : Nat) (x : Str) (C : Addr) (sp : Sp) : Prop where
  ex : ∃ (f : Addr) (fd : FuncData) (ps : List Str), FnOk P w K mg base CX0 k f fd ps sp ∧ Mk K C f ∧ mg x = some (.ref C) ∧ Binds K fd ps []
structure MakX (P : Program) (w : World) (K : PySem.W.Frag) (mg : Str → Option Value) (base : Heap) (k : Nat) (x : Str) (C : Addr) (sp : Sp) : Prop where
  ex : ∃ (f : Addr) (fd : FuncData) (ps : List Str), FnOk P w K mg base (L2.CX P w) k f fd ps sp ∧ Mk K C f ∧ mg x = some (.ref C) ∧ Binds K fd ps []

/-- an own error class's __init__ in the text; ready to be raised -/
structure IniE (K : PySem.W.Frag) (mg : Str → Option Value) (x : Str) (C : Addr) (qual : Str) (st : Stmt) (ps : List Str) : Prop where
  ex : ∃ (f : Addr) (fd : FuncData), Fun K "__init__" qual st f fd ∧ OexC K C ∧ PySem.W.findIn K (.ref C) "__init__" = some (some (.ref f)) ∧ PySem.W.typeIn K (.ref f) = some (.type "function") ∧ mg x = some (.ref C) ∧ Binds K fd ps []
structure MakE (P : Program) (w : World) (K : PySem.W.Frag) (mg : Str → Option Value) (base : Heap) (k : Nat) (x : Str) (C : Addr) (sp : Sp) : Prop where
  ex : ∃ (f : Addr) (fd : FuncData) (ps : List Str), FnOk P w K mg base CX0 k f fd ps sp ∧ OexC K C ∧ PySem.W.findIn K (.ref C) "__init__" = some (some (.ref f)) ∧ PySem.W.typeIn K (.ref f) = some (.type "function") ∧ mg x = some (.ref C) ∧ Binds K fd ps []

section
variable {P : Program} {w : World} {K : PySem.W.Frag} {mg : Str → Option Value} {base : Heap} {x m qual : Str} {C : Addr} {st : Stmt} {N ps : List Str} {k : Nat} {sp : Sp}
theorem okX_of {f : Addr} {fd : FuncData} (F : Fun K x qual st f fd) (S : FnScope N ps (defScope st)) (len : ∀ vs H Q E, sp vs H Q E → vs.length = ps.length)
    (hbody : ∀ (cdv : Value) (A : Around) (outer : List Env) (s : Shared) (H : Hp) (vs : List V) (Q : VK) (E : XK), Room k (A.deeper (envOfC qual (defScope st) s.heap.objs.size f cdv)) → sp vs H Q E →
      ∃ t, PSs (cxOf (L2.CX P w) P w K mg base N qual (defScope st) f cdv A outer s H E) (defBody st) t ∧ t { nx := fun _ H' => Q .non H', rt := Q } (start N vs) H) : FnOk P w K mg base (L2.CX P w) (k + 1) f fd ps sp := by
  obtain ⟨oc, od, kV, doc, pm, an, cdv, ct, osl, rfl, lk, hcd⟩ := F.ex
  exact fn_of lk hcd S len fun A outer s H vs Q E hr hsp => hbody cdv A outer s H vs Q E hr hsp
theorem DefAt.ok0 (D : DefAt K mg x st ps) (S : FnScope N ps (defScope st)) (len : ∀ vs H Q E, sp vs H Q E → vs.length = ps.length)
    (hbody : ∀ (f : Addr) (cdv : Value) (A : Around) (outer : List Env) (s : Shared) (H : Hp) (vs : List V) (Q : VK) (E : XK), Room k (A.deeper (envOfC x (defScope st) s.heap.objs.size f cdv)) → sp vs H Q E →
      ∃ t, PSs (cxOf CX0 P w K mg base N x (defScope st) f cdv A outer s H E).nox (defBody st) t ∧ t { nx := fun _ H' => Q .non H', rt := Q } (start N vs) H) : Cal0 P w K mg base (k + 1) x sp := by
  obtain ⟨f, fd, F, hm, b⟩ := D.ex
  exact ⟨f, fd, ps, F.ok S len (hbody f), hm, F.kp, b⟩
theorem DefAt.okX (D : DefAt K mg x st ps) (S : FnScope N ps (defScope st)) (len : ∀ vs H Q E, sp vs H Q E → vs.length = ps.length)
    (hbody : ∀ (f : Addr) (cdv : Value) (A : Around) (outer : List Env) (s : Shared) (H : Hp) (vs : List V) (Q : VK) (E : XK), Room k (A.deeper (envOfC x (defScope st) s.heap.objs.size f cdv)) → sp vs H Q E →
      ∃ t, PSs (cxOf (L2.CX P w) P w K mg base N x (defScope st) f cdv A outer s H E) (defBody st) t ∧ t { nx := fun _ H' => Q .non H', rt := Q } (start N vs) H) : CalX P w K mg base (k + 1) x sp := by
  obtain ⟨f, fd, F, hm, b⟩ := D.ex
  exact ⟨f, fd, ps, okX_of F S len (hbody f), hm, F.kp, b⟩
theorem MetAt.ok0 (D : MetAt K C m qual st ps) (S : FnScope N ps (defScope st)) (len : ∀ vs H Q E, sp vs H Q E → vs.length = ps.length)
    (hbody : ∀ (f : Addr) (cdv : Value) (A : Around) (outer : List Env) (s : Shared) (H : Hp) (vs : List V) (Q : VK) (E : XK), Room k (A.deeper (envOfC qual (defScope st) s.heap.objs.size f cdv)) → sp vs H Q E →
      ∃ t, PSs (cxOf CX0 P w K mg base N qual (defScope st) f cdv A outer s H E).nox (defBody st) t ∧ t { nx := fun _ H' => Q .non H', rt := Q } (start N vs) H) : Met0 P w K mg base (k + 1) C m sp := by
  obtain ⟨f, fd, F, hm, b⟩ := D.ex
  exact ⟨f, fd, ps, F.ok S len (hbody f), hm, b⟩
theorem MetAt.okX (D : MetAt K C m qual st ps) (S : FnScope N ps (defScope st)) (len : ∀ vs H Q E, sp vs H Q E → vs.length = ps.length)
    (hbody : ∀ (f : Addr) (cdv : Value) (A : Around) (outer : List Env) (s : Shared) (H : Hp) (vs : List V) (Q : VK) (E : XK), Room k (A.deeper (envOfC qual (defScope st) s.heap.objs.size f cdv)) → sp vs H Q E →
      ∃ t, PSs (cxOf (L2.CX P w) P w K mg base N qual (defScope st) f cdv A outer s H E) (defBody st) t ∧ t { nx := fun _ H' => Q .non H', rt := Q } (start N vs) H) : MetX P w K mg base (k + 1) C m sp := by
  obtain ⟨f, fd, F, hm, b⟩ := D.ex
  exact ⟨f, fd, ps, okX_of F S len (hbody f), hm, b⟩
theorem IniAt.ok0 (D : IniAt K mg x C qual st ps) (S : FnScope N ps (defScope st)) (len : ∀ vs H Q E, sp vs H Q E → vs.length = ps.length)
    (hbody : ∀ (f : Addr) (cdv : Value) (A : Around) (outer : List Env) (s : Shared) (H : Hp) (vs : List V) (Q : VK) (E : XK), Room k (A.deeper (envOfC qual (defScope st) s.heap.objs.size f cdv)) → sp vs H Q E →
      ∃ t, PSs (cxOf CX0 P w K mg base N qual (defScope st) f cdv A outer s H E).nox (defBody st) t ∧ t { nx := fun _ H' => Q .non H', rt := Q } (start N vs) H) : Mak0 P w K mg base (k + 1) x C sp := by
  obtain ⟨f, fd, F, M, hm, b⟩ := D.ex
  exact ⟨f, fd, ps, F.ok S len (hbody f), M, hm, b⟩
theorem IniAt.okX (D : IniAt K mg x C qual st ps) (S : FnScope N ps (defScope st)) (len : ∀ vs H Q E, sp vs H Q E → vs.length = ps.length)
    (hbody : ∀ (f : Addr) (cdv : Value) (A : Around) (outer : List Env) (s : Shared) (H : Hp) (vs : List V) (Q : VK) (E : XK), Room k (A.deeper (envOfC qual (defScope st) s.heap.objs.size f cdv)) → sp vs H Q E →
      ∃ t, PSs (cxOf (L2.CX P w) P w K mg base N qual (defScope st) f cdv A outer s H E) (defBody st) t ∧ t { nx := fun _ H' => Q .non H', rt := Q } (start N vs) H) : MakX P w K mg base (k + 1) x C sp := by
  obtain ⟨f, fd, F, M, hm, b⟩ := D.ex
  exact ⟨f, fd, ps, okX_of F S len (hbody f), M, hm, b⟩
theorem IniE.ok0 (D : IniE K mg x C qual st ps) (S : FnScope N ps (defScope st)) (len : ∀ vs H Q E, sp vs H Q E → vs.length = ps.length)
    (hbody : ∀ (f : Addr) (cdv : Value) (A : Around) (outer : List Env) (s : Shared) (H : Hp) (vs : List V) (Q : VK) (E : XK), Room k (A.deeper (envOfC qual (defScope st) s.heap.objs.size f cdv)) → sp vs H Q E →
      ∃ t, PSs (cxOf CX0 P w K mg base N qual (defScope st) f cdv A outer s H E).nox (defBody st) t ∧ t { nx := fun _ H' => Q .non H', rt := Q } (start N vs) H) : MakE P w K mg base (k + 1) x C sp := by
  obtain ⟨f, fd, F, T, iC, tI, hm, b⟩ := D.ex
  exact ⟨f, fd, ps, F.ok S len (hbody f), T, iC, tI, hm, b⟩
/-- a weaker promise -/
theorem Cal0.imp {sp' : Sp} (c : Cal0 P w K mg base k x sp) (h : ∀ vs H Q E, sp' vs H Q E → sp vs H Q E) : Cal0 P w K mg base k x sp' := by
  obtain ⟨f, fd, ps, F, r⟩ := c.ex
  exact ⟨f, fd, ps, F.imp h, r⟩

/-! ### what leaves a def's body -/
theorem takesD {f : Addr} {sc : Scope} {cdv : Value} {A : Around} {outer : List Env} {s : Shared} {H : Hp} {E : XK} : Takes (cxOf (L2.CX P w) P w K mg base N qual sc f cdv A outer s H E) (fun cls d _ H => E cls d H) := takes_of rfl rfl rfl rfl
theorem passD {f : Addr} {sc : Scope} {cdv : Value} {A : Around} {outer : List Env} {s : Shared} {H : Hp} {E : XK} : ∀ σ, PassesAt (L2.CX P w) (cxOf (L2.CX P w) P w K mg base N qual sc f cdv A outer s H E) σ (WE (fun cls d _ H => E cls d H) σ) := fun σ => passAt takesD σ
theorem passM {f : Addr} {sc : Scope} {cdv : Value} {A : Around} {outer : List Env} {s : Shared} {H : Hp} {E : XK} : Passes (L2.CX P w) (cxOf (L2.CX P w) P w K mg base N qual sc f cdv A outer s H E) E := passes_call takesD (fun _ _ _ _ h => h)
theorem ownD {f : Addr} {sc : Scope} {cdv : Value} {A : Around} {outer : List Env} {s : Shared} {H : Hp} {E : XK} : PassesOwn (model P w) (cxOf (L2.CX P w) P w K mg base N qual sc f cdv A outer s H E).A (cxOf (L2.CX P w) P w K mg base N qual sc f cdv A outer s H E).env (cxOf (L2.CX P w) P w K mg base N qual sc f cdv A outer s H E).xe := passes_of (X := cxOf (L2.CX P w) P w K mg base N qual sc f cdv A outer s H E) rfl
end

/-! ### calls -/
/-- o.m(..), what it raises wished for at the slots as they stand -/
def tMethS (C : Addr) (m : Str) (sp : Sp) (E : L2.St → XK) (ta : TE) (t : TA) : TE := fun σ H Q => ta σ H fun x H1 => ∃ a dx fs, x = .ref a ∧ H1 a = some (.ins C dx fs) ∧ fs.lookup m = none ∧ t σ H1 fun vs H2 => sp (x :: vs) H2 Q (E σ)
section
variable {X : Cx} {k j : Nat} {C : Addr} {x m : Str} {sp : Sp} {E : L2.St → XK} {EX : XK} {p pos apos : Pos} {e o : Expr} {es : List Expr} {ta : TE} {t : TA}
theorem pe_c0 (c : Cal0 X.prog X.w X.K X.mg X.base k x sp) (hr : Room j X.A) (hk : k ≤ j) (ha : PA X (e :: es) t) (hg : Gl X x := by rfl)
    (hdb : (x == ("__debug__" : Str)) = false := by decide) (he : starEach (e :: es) X.env = (false, eval e X.env) :: starEach es X.env := by rfl) (hpl : (backTo pos (starEach es X.env)).any (·.1) = false := by rfl) :
    PE X (.Call (.Name x p) (e :: es) [] pos) (tCall sp [] E0 t) := by
  obtain ⟨f, fd, ps, F, hm, kp, b⟩ := c.ex
  exact pe_call F (hr.mono hk) hg hm kp b .nil pass0 ha hdb he hpl
theorem pe_cX (c : CalX X.prog X.w X.K X.mg X.base k x sp) (hr : Room j X.A) (hk : k ≤ j) (hx : ∀ σ, PassesAt (L2.CX X.prog X.w) X σ (E σ)) (ha : PA X (e :: es) t) (hg : Gl X x := by rfl)
    (hdb : (x == ("__debug__" : Str)) = false := by decide) (he : starEach (e :: es) X.env = (false, eval e X.env) :: starEach es X.env := by rfl) (hpl : (backTo pos (starEach es X.env)).any (·.1) = false := by rfl) :
    PE X (.Call (.Name x p) (e :: es) [] pos) (tCallS sp E t) := by
  obtain ⟨f, fd, ps, F, hm, kp, b⟩ := c.ex
  exact pe_callS F (hr.mono hk) hg hm kp b hx ha hdb he hpl
theorem pe_k0 (c : Mak0 X.prog X.w X.K X.mg X.base k x C sp) (hr : Room j X.A) (hk : k + 1 ≤ j) (ha : PA X (e :: es) t) (hg : Gl X x := by rfl)
    (hdb : (x == ("__debug__" : Str)) = false := by decide) (he : starEach (e :: es) X.env = (false, eval e X.env) :: starEach es X.env := by rfl) (hpl : (backTo pos (starEach es X.env)).any (·.1) = false := by rfl) :
    PE X (.Call (.Name x p) (e :: es) [] pos) (tMake C sp [] E0 t) := by
  obtain ⟨f, fd, ps, F, M, hm, b⟩ := c.ex
  exact pe_make M F (hr.mono hk) hg hm b .nil pass0 ha hdb he hpl
theorem pe_k0n (c : Mak0 X.prog X.w X.K X.mg X.base k x C sp) (hr : Room j X.A) (hk : k + 1 ≤ j) (hg : Gl X x := by rfl)
    (hdb : (x == ("__debug__" : Str)) = false := by decide) : PE X (.Call (.Name x p) [] [] pos) (tMake C sp [] E0 tNil) := by
  obtain ⟨f, fd, ps, F, M, hm, b⟩ := c.ex
  exact pe_make0 M F (hr.mono hk) hg hm b .nil pass0 hdb
theorem pe_kX (c : MakX X.prog X.w X.K X.mg X.base k x C sp) (hr : Room j X.A) (hk : k + 1 ≤ j) (hx : Passes (L2.CX X.prog X.w) X EX) (ha : PA X (e :: es) t) (hg : Gl X x := by rfl)
    (hdb : (x == ("__debug__" : Str)) = false := by decide) (he : starEach (e :: es) X.env = (false, eval e X.env) :: starEach es X.env := by rfl) (hpl : (backTo pos (starEach es X.env)).any (·.1) = false := by rfl) :
    PE X (.Call (.Name x p) (e :: es) [] pos) (tMake C sp [] EX t) := by
  obtain ⟨f, fd, ps, F, M, hm, b⟩ := c.ex
  exact pe_make M F (hr.mono hk) hg hm b .nil hx ha hdb he hpl
theorem pe_m0 {pl : Sem Bool} (c : Met0 X.prog X.w X.K X.mg X.base k C m sp) (cl : Cls X.K C) (hr : Room j X.A) (hk : k ≤ j) (he : PE X o ta) (ha : PA X (e :: es) t)
    (hst : starEach (e :: es) X.env = (false, eval e X.env) :: starEach es X.env := by rfl) (hpl : (backTo pos (starEach es X.env)).any (·.1) = false := by rfl)
    (ht : eval (.Call (.Attribute o m apos) (e :: es) [] pos) X.env = (do
      let ov ← eval o X.env
      standAt apos.atName
      let (f, first) ← holding [ov] (getMethod ov m pl)
      callWith pos f first (backTo pos (starEach (e :: es) X.env)) (backToKw pos (keywordEach [] X.env))) := by rfl) :
    PE X (.Call (.Attribute o m apos) (e :: es) [] pos) (tMeth C m sp [] E0 ta t) := by
  obtain ⟨f, fd, ps, F, hm, b⟩ := c.ex
  exact pe_meth (pl := pl) he cl hm F (hr.mono hk) b .nil pass0 ha hst hpl ht
theorem pe_m0n {pl : Sem Bool} (c : Met0 X.prog X.w X.K X.mg X.base k C m sp) (cl : Cls X.K C) (hr : Room j X.A) (hk : k ≤ j) (he : PE X o ta)
    (ht : eval (.Call (.Attribute o m apos) [] [] pos) X.env = (do
      let ov ← eval o X.env
      standAt apos.atName
      let (f, first) ← holding [ov] (getMethod ov m pl)
      callWith pos f first (backTo pos (starEach [] X.env)) (backToKw pos (keywordEach [] X.env))) := by rfl) :
    PE X (.Call (.Attribute o m apos) [] [] pos) (tMeth C m sp [] E0 ta tNil) := by
  obtain ⟨f, fd, ps, F, hm, b⟩ := c.ex
  exact pe_meth0 (pl := pl) he cl hm F (hr.mono hk) b .nil pass0 ht
theorem pe_mX {pl : Sem Bool} (c : MetX X.prog X.w X.K X.mg X.base k C m sp) (cl : Cls X.K C) (hr : Room j X.A) (hk : k ≤ j) (hx : ∀ σ, PassesAt (L2.CX X.prog X.w) X σ (E σ)) (he : PE X o ta) (ha : PA X (e :: es) t)
    (hst : starEach (e :: es) X.env = (false, eval e X.env) :: starEach es X.env := by rfl) (hpl : (backTo pos (starEach es X.env)).any (·.1) = false := by rfl)
    (ht : eval (.Call (.Attribute o m apos) (e :: es) [] pos) X.env = (do
      let ov ← eval o X.env
      standAt apos.atName
      let (f, first) ← holding [ov] (getMethod ov m pl)
      callWith pos f first (backTo pos (starEach (e :: es) X.env)) (backToKw pos (keywordEach [] X.env))) := by rfl) :
    PE X (.Call (.Attribute o m apos) (e :: es) [] pos) (tMethS C m sp E ta t) := by
  obtain ⟨f, fd, ps, F, hm, b⟩ := c.ex
  refine ⟨fun pins s σ H Q I h => ?_⟩
  refine PySem.W.methodCall_KW (pl := pl) (thn (he.run pins s σ H _ I h) fun u s1 ⟨x, H1, I1, rx, a, dx, fs, ex, ea, l, q⟩ => ?_) ht
  subst ex
  obtain rfl : u = Value.ref a := rx
  refine getmeth_ok I1 ea cl hm l ?_
  refine PySem.W.callWith_K (first := [.ref a]) (h₀ := X.base) I.ok.mod.kin hm.kp (thn (ha.run pos pins s1 σ H1 _ I1 q) fun us s2 ⟨vs, H2, I2, r, q2⟩ => ⟨I2.kIn, ?_⟩) hst hpl
  exact run_fnS (us := .ref a :: us) (vs := .ref a :: vs) F (hr.mono hk) b (hx σ) I2 (.cons rfl r) q2
theorem pe_mXn {pl : Sem Bool} (c : MetX X.prog X.w X.K X.mg X.base k C m sp) (cl : Cls X.K C) (hr : Room j X.A) (hk : k ≤ j) (hx : ∀ σ, PassesAt (L2.CX X.prog X.w) X σ (E σ)) (he : PE X o ta)
    (ht : eval (.Call (.Attribute o m apos) [] [] pos) X.env = (do
      let ov ← eval o X.env
      standAt apos.atName
      let (f, first) ← holding [ov] (getMethod ov m pl)
      callWith pos f first (backTo pos (starEach [] X.env)) (backToKw pos (keywordEach [] X.env))) := by rfl) :
    PE X (.Call (.Attribute o m apos) [] [] pos) (tMethS C m sp E ta tNil) := by
  obtain ⟨f, fd, ps, F, hm, b⟩ := c.ex
  refine ⟨fun pins s σ H Q I h => ?_⟩
  refine PySem.W.methodCall_KW (pl := pl) (thn (he.run pins s σ H _ I h) fun u s1 ⟨x, H1, I1, rx, a, dx, fs, ex, ea, l, q⟩ => ?_) ht
  subst ex
  obtain rfl : u = Value.ref a := rx
  refine getmeth_ok I1 ea cl hm l ?_
  exact PySem.W.callWith_K0 (first := [.ref a]) I1.kIn hm.kp (run_fnS (us := [.ref a]) (vs := [.ref a]) F (hr.mono hk) b (hx σ) I1 (.cons rfl .nil) q)
/-- a local name that holds a def of the module, called: what it raises wished for at the slots -/
def tCallL (i : Nat) (f : Addr) (sp : Sp) (E : L2.St → XK) (t : TA) : TE := fun σ H Q => σ[i]? = some (some (.ref f)) ∧ t σ H fun vs H1 => sp vs H1 Q (E σ)
theorem pe_cL {i : Nat} {f : Addr} {fd : FuncData} {ps : List Str} (F : FnOk X.prog X.w X.K X.mg X.base (L2.CX X.prog X.w) k f fd ps sp) (b : Binds X.K fd ps []) (kp : PySem.W.keepIn X.K (.ref f) = true) (hr : Room j X.A) (hk : k ≤ j) (hx : ∀ σ, PassesAt (L2.CX X.prog X.w) X σ (E σ))
    (hN : X.N[i]? = some x) (hv : Vis X.env.scope x) (ha : PA X (e :: es) t)
    (hd : (x == ("__debug__" : Str)) = false := by decide) (hcd : (x == ("__classdict__" : Str)) = false := by decide)
    (he : starEach (e :: es) X.env = (false, eval e X.env) :: starEach es X.env := by rfl) (hpl : (backTo pos (starEach es X.env)).any (·.1) = false := by rfl) : PE X (.Call (.Name x p) (e :: es) [] pos) (tCallL i f sp E t) := by
  refine ⟨fun pins s σ H Q I h => ?_⟩
  obtain ⟨hs, h⟩ := h
  refine wpAny_Call_Name_kw (thn ((pe_var (pos := p) (i := i) hN hv hd hcd).run pins s σ H (fun v H1 => v = .ref f ∧ H1 = H) I ⟨.ref f, hs, rfl, rfl⟩) fun u s1 ⟨v, H1, I1, r1, ev, eH⟩ => ?_)
  subst ev
  rw [eH] at I1
  cases r1
  refine PySem.W.callWith_K (h₀ := X.base) I.ok.mod.kin kp (thn (ha.run pos pins s1 σ H _ I1 h) fun us s2 ⟨vs, H2, I2, r, q⟩ => ⟨I2.kIn, ?_⟩) he hpl
  exact run_fnS F (hr.mono hk) b (hx σ) I2 r q
/-- X(), an own exception class without an __init__ -/
theorem pmk_ownN {bmB : List Value} {B newId initId : String} (F : ExcBaseFacts B newId initId bmB) (q : PySem.W.excIn X.K C bmB newId = true) (gC : X.mg x = some (.ref C))
    (kC : PySem.W.keepIn X.K (.ref C) = true) (r : Raises X (.ref C)) (hg : Gl X x := by rfl) (hdb : (x == ("__debug__" : Str)) = false := by decide) :
    PMk X (.Call (.Name x p) [] [] pos) (fun _ H Q => Q (.ref C) none H) := by
  intro pins s σ H Q I h
  refine wpAny_Call_Name_kw (ld_glob I hg gC ?_ hdb)
  refine PySem.W.callWith_K0 I.kIn kC ?_
  show wpAny _ _ (call (.ref C) []) _ _ _
  obtain ⟨bm, N, nm, qn, bs, hdct, sn, sub, ab, col, dd, k0, k1, k2, k3, k5, mN, hC, hN, hni, T⟩ := exc_obj I.kIn q
  refine wpAny_call_exc_subT F T hC hN hni (fun h' e hm => ?_) (by show 0 ≤ sizeLine; exact Nat.zero_le _)
  exact mk_of I hm r h (I.hok.gone hm.new)
end

theorem pmk_e {X : Cx} {k j : Nat} {C : Addr} {x : Str} {sp : Sp} {p pos : Pos} {e : Expr} {es : List Expr} {ta : TA} (c : MakE X.prog X.w X.K X.mg X.base k x C sp) (hr : Room j X.A) (hk : k + 1 ≤ j) (ha : PA X (e :: es) ta) (hg : Gl X x := by rfl)
    (hdb : (x == ("__debug__" : Str)) = false := by decide) (he : starEach (e :: es) X.env = (false, eval e X.env) :: starEach es X.env := by rfl) (hpl : (backTo pos (starEach es X.env)).any (·.1) = false := by rfl) :
    PMk X (.Call (.Name x p) (e :: es) [] pos) (tMkO C sp [] ta) := by
  obtain ⟨f, fd, ps, F, T, iC, tI, hm, b⟩ := c.ex
  exact pmk_oex T iC tI F (hr.mono hk) b .nil pass0 hg hm ha hdb he hpl

/-! ### a <= b <= c <= d -/
def tChain3 (r r' r'' : R2) (ta tb tc td : TE) : TE := fun σ H Q => ta σ H fun x H1 => tb σ H1 fun y H2 => r x y H2 fun z H3 => ∃ k, z = .bl k ∧
  (if k = true then tc σ H3 fun w H4 => r' y w H4 fun z' H5 => ∃ k', z' = .bl k' ∧ (if k' = true then td σ H5 fun v H6 => r'' w v H6 Q else Q (.bl false) H5) else Q (.bl false) H3)
theorem pe_chain3 {X : Cx} {a b c d : Expr} {ta tb tc td : TE} {pos : Pos} {op op' op'' : CmpOp} {r r' r'' : R2} (ho : OpR X (compareOp op) r) (ho' : OpR X (compareOp op') r') (ho'' : OpR X (compareOp op'') r'') (ha : PE X a ta) (hb : PE X b tb) (hc : PE X c tc) (hd : PE X d td)
    (hm : lastMarks [op, op', op''] [b, c, d] = false := by with_unfolding_all rfl) : PE X (.Compare a [op, op', op''] [b, c, d] pos) (tChain3 r r' r'' ta tb tc td) := by
  refine ⟨fun pins s σ H Q I h => ?_⟩
  refine Compare_chain (thn (ha.run pins s σ H _ I h) fun v s1 ⟨x, H1, I1, r1, q1⟩ => chain_link (thn (hb.run pins s1 σ H1 _ I1 q1) fun u s2 ⟨y, H2, I2, r2, q2⟩ =>
    thn (ho pins s2 σ H2 x y v u _ I2 r1 r2 q2) fun d s3 ⟨z, H3, I3, r3, k, e, q3⟩ => ?_)) hm
  subst e
  cases r3
  refine wpAny_truthy_bool ?_
  cases k with
  | false => exact ite_ff ⟨.bl false, H3, I3, rfl, q3⟩
  | true =>
    refine ite_tt (chain_link (thn (hc.run pins s3 σ H3 _ I3 q3) fun w s4 ⟨y', H4, I4, r4, q4⟩ => thn (ho' pins s4 σ H4 y y' u w _ I4 r2 r4 q4) fun d s5 ⟨z', H5, I5, r5, k', e', q5⟩ => ?_))
    subst e'
    cases r5
    refine wpAny_truthy_bool ?_
    cases k' with
    | false => exact ite_ff ⟨.bl false, H5, I5, rfl, q5⟩
    | true => exact ite_tt (chain_last (thn (hd.run pins s5 σ H5 _ I5 q5) fun w' s6 ⟨z2, H6, I6, r6, q6⟩ => ho'' pins s6 σ H6 y' z2 w w' Q I6 r4 r6 q6))

/-! ### targets: one of two forms -/
theorem pg_or {X : Cx} {tg : Expr} {g g' : TG} (h : PG X tg g) (h' : PG X tg g') : PG X tg (fun v σ H Q => g v σ H Q ∨ g' v σ H Q) := by
  refine ⟨fun pins s σ H v u Q I r hw => ?_⟩
  rcases hw with hw | hw
  · exact h.run pins s σ H v u Q I r hw
  · exact h'.run pins s σ H v u Q I r hw

/-! ### a tuple made here, that has no dict of its own: its methods may be called -/
def tTupF (t : TA) : TE := fun σ H Q => t σ H fun xs H1 => xs.length ≤ sizeLine ∧ ∀ (p : Addr) (o : Obj), H1 p = none → o.cls = .type "tuple" → o.dict = none → Q (.ref p) (upd H1 p (.frz o (.tup xs)))
def TyU (K : PySem.W.Frag) (x : V) (H : Hp) : Prop := ∃ p, x = .ref p ∧ ((∃ o, K.lookup p = some o ∧ o.cls = .type "tuple" ∧ o.dict = none) ∨ ∃ o xs, H p = some (.frz o (.tup xs)) ∧ o.cls = .type "tuple" ∧ o.dict = none)
def tBMU (K : PySem.W.Frag) (r : V → List V → Hp → VK → Prop) (to : TE) (t : TA) : TE := fun σ H Q => to σ H fun x H1 => TyU K x H1 ∧ t σ H1 fun xs H2 => r x xs H2 Q
theorem TyU.ex {K : PySem.W.Frag} {x : V} {H H' : Hp} (e : Ex H H') (h : TyU K x H) : TyU K x H' := by
  obtain ⟨p, rfl, h | ⟨o, xs, h1, h2⟩⟩ := h
  · exact ⟨p, rfl, Or.inl h⟩
  · exact ⟨p, rfl, Or.inr ⟨o, xs, e p _ h1, h2⟩⟩
section
variable {X : Cx} {e o : Expr} {es : List Expr} {te to : TE} {t : TA} {pos apos cpos : Pos} {name : Str} {id : String} {r : V → List V → Hp → VK → Prop}
theorem pe_tupF {x1} (h : PA X es t) : PE X (.Tuple es x1 pos) (tTupF t) := by
  refine ⟨fun pins s σ H Q I hq => ?_⟩
  refine wpAny_Tuple_spliced (thn (h.run pos pins s σ H _ I hq) fun us s1 ⟨xs, H1, I1, r, z, q⟩ => ⟨by rw [← r.length]; exact z, ?_⟩)
  have hf : H1 s1.heap.objs.size = none := I1.hok.fresh (Nat.le_refl _)
  refine ⟨.ref s1.heap.objs.size, upd H1 s1.heap.objs.size (.frz _ (.tup xs)), I1.laid (t' := s1.toks) (fun b u e => Heap.get?_push_of_some _ e) (Nat.le_refl _) ⟨Heap.get?_push_size _ rfl, ?_⟩, rfl, q _ _ hf rfl rfl⟩
  exact ⟨z, us, r, ⟨_, Heap.get?_push_size _ rfl, rfl, _, rfl⟩⟩
theorem pe_bmU (pa : PlainAttrs "tuple") (slot : Slot "tuple" name id) (hty : typeOf (.builtin id) = pure (.type "method_descriptor")) (hm : MtR X id r) (ho : PE X o to) (ha : PA X (e :: es) t)
    (hbase : attributeBase o name X.env (eval o X.env) = eval o X.env := by rfl)
    (hfew : ((backTo cpos (starEach (e :: es) X.env)).all (fun x => !x.1) && (backToKw cpos (keywordEach [] X.env)).all (fun x => x.1.isSome)
      && decide ((e :: es).length + ([] : List Keyword).length + (if ([] : List Keyword).isEmpty then 0 else 1) < 30)) = true := by rfl)
    (hline : (apos.endLine == cpos.line) = true := by rfl) (hs : starEach (e :: es) X.env = (false, eval e X.env) :: starEach es X.env := by rfl) (hplain : (backTo cpos (starEach es X.env)).any (·.1) = false := by rfl) :
    PE X (.Call (.Attribute o name apos) (e :: es) [] cpos) (tBMU X.K r to t) := by
  refine ⟨fun pins s σ H Q I h => ?_⟩
  refine wpAny_Call_method_late hbase hfew hline rfl (thn (ho.run pins s σ H _ I h) fun v s1 ⟨x, H1, I1, r1, ty, q1⟩ => ?_)
  obtain ⟨p, ex, ty⟩ := ty
  subst ex
  obtain rfl : v = Value.ref p := r1
  have hz : s1.TypeIs (.ref p) "tuple" ∧ ∀ a, (Value.ref p) = .ref a → ∃ ob, s1.heap.get? a = some ob ∧ ob.dict = none := by
    rcases ty with ⟨o, hk, hc, hd⟩ | ⟨o, xs, hk, hc, hd⟩
    · refine ⟨⟨o, I1.kIn p o hk, hc⟩, fun a e => ?_⟩
      cases e
      exact ⟨o, I1.kIn _ o hk, hd⟩
    · have z : ObjOk X.prog X.w H1 s1.heap p (.frz o (.tup xs)) := I1.hok p _ hk
      refine ⟨⟨o, z.1, hc⟩, fun a e => ?_⟩
      cases e
      exact ⟨o, z.1, hd⟩
  refine ⟨"tuple", id, pa, slot, hty, hz.1, hz.2, ?_⟩
  have hA := ha.run cpos pins s1 σ H1 _ I1 q1
  rw [hs] at hA ⊢
  refine Calls.callWith_builtin (by show (false || (backTo cpos (starEach es X.env)).any (·.1)) = false; rw [hplain] <;> rfl) (Calls.evalArgs_plain ?_)
  exact thn hA fun us s2 ⟨vs, H2, I2, r2, q2⟩ => hm pins s2 σ H2 (.ref p) vs (.ref p) us Q I2 rfl r2 q2
end

/-! ### len(set(xs)) of ints, any -/
def dedup (l : List Int) : List Int := l.foldl (fun acc x => if acc.any (· == x) then acc else acc ++ [x]) []
theorem firstMet_dedup (ns : List Int) : ∀ n, n ≤ ns.length → PyProof.Rows.firstMet (fun i => ns.getD i 0) n = dedup (ns.take n)
  | 0, _ => rfl
  | i + 1, hi => by
    have hlt : i < ns.length := hi
    have e1 : ns.getD i 0 = ns[i] := by
      rw [List.getD_eq_getElem?_getD, List.getElem?_eq_getElem hlt] <;> rfl
    have e2 : ns.take (i + 1) = ns.take i ++ [ns[i]] := by
      rw [List.take_add_one, List.getElem?_eq_getElem hlt] <;> rfl
    rw [PyProof.Rows.firstMet_succ, firstMet_dedup ns i (Nat.le_of_lt hlt), e2]
    unfold dedup
    rw [List.foldl_append]
    show PyProof.Rows.step_dedup _ (ns.getD i 0) = _
    rw [e1]
    rfl
theorem intsAre_vals : ∀ {ns : List Int} {us : List Value}, Vals (ns.map V.int) us → PyProof.Rows.IntsAre us ns
  | [], _, .nil => .nil
  | n :: ns, _, .cons r t => by
    obtain ⟨k, rfl⟩ := r
    exact .cons n k (intsAre_vals t)
def tLenSet (K : PySem.W.Frag) (ta : TE) : TE := fun σ H Q => ta σ H fun x H1 => ∃ (l : Addr) (ns : List Int), x = .ref l ∧ SqL K H1 l (ns.map V.int) ∧ ns.length ≤ 4000 ∧ Q (.int ((dedup ns).length : Nat)) H1
theorem pe_lenSet {X : Cx} {a : Expr} {ta : TE} {p p2 q pos : Pos} (hm : X.mg "len" = none) (hm2 : X.mg "set" = none) (ha : PE X a ta) (hc : X.calm = true := by rfl) (hg : Gl X "len" := by rfl) (hg2 : Gl X "set" := by rfl)
    (na : starEach [a] X.env = (false, eval a X.env) :: starEach [] X.env := by rfl) : PE X (.Call (.Name "len" p) [.Call (.Name "set" p2) [a] [] q] [] pos) (tLenSet X.K ta) := by
  refine ⟨fun pins s σ H Q I h => ?_⟩
  refine Call_ (ld_blt I hg hm boot_len ?_)
  refine PyProof.Rows.callWith_builtin1 (PyProof.Rows.args_cons ?_ rfl) rfl rfl
  refine Call_ (ld_blt I hg2 hm2 boot_set ?_)
  refine PyProof.Rows.callWith_type1 (PyProof.Rows.args_cons (thn (ha.run pins s σ H _ I h) fun v s1 ⟨x, H1, I1, r1, q1⟩ => PyProof.Rows.args_nil ?_) na) na rfl
  obtain ⟨l, ns, rfl, hq, hl, q1⟩ := q1
  cases r1
  obtain ⟨its, r, pl, hz⟩ := I1.list hq
  have hlen : its.toArray.size = ns.length := by rw [List.size_toArray, ← r.length, List.length_map]
  refine call_set_list (I1.ok.hd hc) pl.isList (by simpa using intsAre_vals r) (by rw [hlen]; unfold scanBound; omega) fun h' tk hS hk => ?_
  refine PyProof.Rows.args_nil ?_
  have hle := PyProof.Rows.firstMet_length_le (fun i => ns.getD i 0) ns.length
  rw [hlen] at hS
  rw [firstMet_dedup ns ns.length (Nat.le_refl _), List.take_length] at hS hle
  obtain ⟨o, es, ep, t, ho, hex, hd, _, _, _, hf, hn⟩ := hS
  have I2 : Inv X pins σ H1 { s1 with heap := h', toks := tk } := I1.kept fun b o e => hk b o (Heap.lt_size e) e
  exact call_len_set ho hex hd hf (by rw [hn] <;> omega) ⟨.int (dedup ns).length, H1, I2.tok _, ⟨_, by rw [hn]⟩, q1⟩

/-! ### a dict of the module with int keys -/
/-- what the written part holds at a: a dict, its pairs -/
structure KDi (K : PySem.W.Frag) (a : Addr) (kvs : List (Int × V)) : Prop where
  ex : ∃ (o : Obj) (es : Array DictEntry) (ep : Nat) (vs : List (Key × Value)), K.lookup a = some o ∧ o.ExactDict ∧ o.data = .dict es ep ∧
    (∀ (P : Program) (w : World), KeysOf (mixKind P w) es ∧ Pairs (mixKind P w) es.toList vs) ∧ (vs.map (·.1)).Nodup ∧ KV (kvs.map fun q => ((Sum.inl q.1 : Key), q.2)) vs
  nm : (a == sysModules) = false
theorem KDi.dictOf {K : PySem.W.Frag} {a : Addr} {kvs : List (Int × V)} (d : KDi K a kvs) {P : Program} {w : World} {h : Heap} (X : K.In h) : ∃ vs, h.DictOf (mixKind P w) a vs ∧ KV (kvs.map fun q => ((Sum.inl q.1 : Key), q.2)) vs := by
  obtain ⟨o, es, ep, vs, l, ex, hd, hk, nd, kv⟩ := d.ex
  exact ⟨vs, ⟨o, es, ep, X _ _ l, ex, hd, (hk P w).1, (hk P w).2, nd⟩, kv⟩
def rNiKD (K : PySem.W.Frag) : R2 := fun x y H Q => ∃ (a : Addr) (n : Int) (kvs : List (Int × V)), x = .int n ∧ y = .ref a ∧ KDi K a kvs ∧ Q (.bl (!(kvs.any fun q => decide (q.1 = n)))) H
theorem valV_any (kvs : List (Int × V)) (n : Int) : (valV (kvs.map fun q => ((Sum.inl q.1 : Key), q.2)) (Sum.inl n)).isSome = kvs.any fun q => decide (q.1 = n) := by
  induction kvs with
  | nil => rfl
  | cons q r ih =>
    unfold valV at ih ⊢
    rw [List.map_cons, List.find?_cons, List.any_cons]
    by_cases e : q.1 = n
    · have e2 : decide ((Sum.inl q.1 : Key) = Sum.inl n) = true := decide_eq_true (by rw [e])
      simp only [e2, decide_eq_true e, Bool.true_or]
      rfl
    · have e2 : decide ((Sum.inl q.1 : Key) = Sum.inl n) = false := decide_eq_false fun z => e (Sum.inl.inj z)
      simp only [e2, decide_eq_false e, Bool.false_or]
      exact ih
theorem valV_find {kvs : List (Int × V)} {n : Int} {v : V} (h : (kvs.find? fun q => decide (q.1 = n)).map (·.2) = some v) : valV (kvs.map fun q => ((Sum.inl q.1 : Key), q.2)) (Sum.inl n) = some v := by
  induction kvs with
  | nil => cases h
  | cons q r ih =>
    unfold valV at ih ⊢
    rw [List.map_cons, List.find?_cons]
    rw [List.find?_cons] at h
    by_cases e : q.1 = n
    · have e2 : decide ((Sum.inl q.1 : Key) = Sum.inl n) = true := decide_eq_true (by rw [e])
      simp only [decide_eq_true e] at h
      simp only [e2]
      exact h
    · have e2 : decide ((Sum.inl q.1 : Key) = Sum.inl n) = false := decide_eq_false fun z => e (Sum.inl.inj z)
      simp only [decide_eq_false e] at h
      simp only [e2]
      exact ih h
section
variable {X : Cx}
theorem op_niKD : OpR X (compareOp .NotIn) (rNiKD X.K) := by
  intro pins s σ H x y u v Q I rx ry h
  obtain ⟨a, n, kvs, rfl, rfl, d, q⟩ := h
  obtain rfl : v = Value.ref a := ry
  obtain ⟨vs, dd, rel⟩ := d.dictOf (P := X.prog) (w := X.w) I.kIn
  refine wpAny_notIn_of (kV_is (k := Sum.inl n) rx) d.nm dd.mapOf ?_
  rw [← (rel.val (Sum.inl n)).isSome_eq, valV_any]
  exact ⟨.bl (!(kvs.any fun q => decide (q.1 = n))), H, I.tok _, rfl, q⟩
def rIxKD (K : PySem.W.Frag) : R2 := fun x y H Q => ∃ (a : Addr) (n : Int) (kvs : List (Int × V)) (v : V), x = .ref a ∧ y = .int n ∧ KDi K a kvs ∧ (kvs.find? fun q => decide (q.1 = n)).map (·.2) = some v ∧ Q v H
theorem ix_KD : IxR X (rIxKD X.K) := by
  intro value slice pins s σ H x y v u Q I rx ry h hs
  obtain ⟨a, n, kvs, r, rfl, rfl, d, hv, q⟩ := h
  obtain rfl : v = Value.ref a := rx
  obtain ⟨vs, dd, rel⟩ := d.dictOf (P := X.prog) (w := X.w) I.kIn
  obtain ⟨w', hw, rw'⟩ := RelO.some_of (v := r) (o := valueAt vs (Sum.inl n)) (by rw [← valV_find hv]; exact rel.val (Sum.inl n))
  exact tail_any dd.typeIs slot_dict_getitem.lookup (wpAny_getItem_of (kV_is (k := Sum.inl n) ry) dd.mapOf hw ⟨r, H, I.tok _, rw', q⟩) hs
end
end RR
/-! part Reads -/
/-! Readings, taken apart from the left: one lemma a word of a reading; «walk_at "rd"» takes all steps that ask nothing. -/
namespace RR
open PySem PySem.Spec PyProof.Rows L2
section
variable {t u ts : TS} {nx bk ct : L2.St → Hp → Prop} {rt : VK} {σ : L2.St} {H : Hp} {te ta tb tc tv : TE} {g : TG} {c d : TT} {Q : VK} {QB : Bool → Hp → Prop} {i : Nat} {v x y : V} {K : PySem.W.Frag} {QA : List V → Hp → Prop} {tr tA : TA} {r r' : R2}
theorem x_seq (h : t ⟨u ⟨nx, rt, bk, ct⟩, rt, bk, ct⟩ σ H) : tSeq t u ⟨nx, rt, bk, ct⟩ σ H := h
theorem x_next (h : nx σ H) : tNext ⟨nx, rt, bk, ct⟩ σ H := h
theorem x_asg (h : te σ H fun x H1 => g x σ H1 nx) : tAsg te g ⟨nx, rt, bk, ct⟩ σ H := h
theorem x_name {Qg : L2.St → Hp → Prop} (h : Qg (σ.set i (some v)) H) : gName i v σ H Qg := h
theorem x_ret (h : te σ H rt) : tRet te ⟨nx, rt, bk, ct⟩ σ H := h
theorem x_retN (h : rt .non H) : tRetN ⟨nx, rt, bk, ct⟩ σ H := h
theorem x_drop (h : te σ H fun _ H1 => nx σ H1) : tDrop te ⟨nx, rt, bk, ct⟩ σ H := h
theorem x_if (h : c σ H fun b H1 => if b = true then t ⟨nx, rt, bk, ct⟩ σ H1 else u ⟨nx, rt, bk, ct⟩ σ H1) : tIfS c t u ⟨nx, rt, bk, ct⟩ σ H := h
theorem x_var (h : σ[i]? = some (some v)) (q : Q v H) : tVar i σ H Q := ⟨v, h, q⟩
theorem x_c (q : Q v H) : tC v σ H Q := q
theorem x_op (h : ta σ H fun x H1 => tb σ H1 fun y H2 => r x y H2 Q) : tOp r ta tb σ H Q := h
theorem x_un {r : V → Hp → VK → Prop} (h : ta σ H fun x H1 => r x H1 Q) : tUn r ta σ H Q := h
theorem x_U {f : Int → V} {i : Int} (q : Q (f i) H) : rU f (.int i) H Q := ⟨i, rfl, q⟩
theorem x_I0 {f : Int → Int → V} {i j : Int} (q : Q (f i j) H) : rI0 f (.int i) (.int j) H Q := ⟨i, j, rfl, rfl, q⟩
theorem x_I {C : Int → Int → Prop} {f : Int → Int → V} {i j : Int} (c : C i j) (q : Q (f i j) H) : rI C f (.int i) (.int j) H Q := ⟨i, j, rfl, rfl, c, q⟩
theorem x_eqI {i j : Int} (q : Q (.bl (decide (i = j))) H) : rEq (.int i) (.int j) H Q := ⟨rfl, by
  have e : decide (V.int i = V.int j) = decide (i = j) := by
    by_cases h : i = j
    · rw [decide_eq_true h, decide_eq_true (by rw [h])]
    · rw [decide_eq_false h, decide_eq_false fun z => h (V.int.inj z)]
  rw [e]
  exact q⟩
theorem x_eqS {i j : Str} (q : Q (.bl (decide (i = j))) H) : rEq (.str i) (.str j) H Q := ⟨rfl, by
  have e : decide (V.str i = V.str j) = decide (i = j) := by
    by_cases h : i = j
    · rw [decide_eq_true h, decide_eq_true (by rw [h])]
    · rw [decide_eq_false h, decide_eq_false fun z => h (V.str.inj z)]
  rw [e]
  exact q⟩
theorem x_neI {i j : Int} (q : Q (.bl (!decide (i = j))) H) : rNe (.int i) (.int j) H Q := ⟨rfl, by
  have e : decide (V.int i = V.int j) = decide (i = j) := by
    by_cases h : i = j
    · rw [decide_eq_true h, decide_eq_true (by rw [h])]
    · rw [decide_eq_false h, decide_eq_false fun z => h (V.int.inj z)]
  rw [e]
  exact q⟩
theorem x_test (h : te σ H fun x H' => ∃ k, x = .bl k ∧ QB k H') : tTest te σ H QB := h
theorem x_tB (h : te σ H fun x H' => ∃ k, x = .bl k ∧ QB k H') : tB te σ H QB := h
theorem x_bl {b : Bool} {P : Bool → Prop} (q : P b) : ∃ k, V.bl b = .bl k ∧ P k := ⟨b, rfl, q⟩
theorem x_and (h : c σ H fun k H1 => if k = true then d σ H1 QB else QB false H1) : tAnd c d σ H QB := h
theorem x_or (h : c σ H fun k H1 => if k = true then QB true H1 else d σ H1 QB) : tOr c d σ H QB := h
theorem x_not (h : c σ H fun k H1 => QB (!k) H1) : tNot c σ H QB := h
theorem x_andV (h : ta σ H fun x H1 => ∃ c, x = .bl c ∧ if c = true then tb σ H1 Q else Q (.bl false) H1) : tAndV ta tb σ H Q := h
theorem x_orV (h : ta σ H fun x H1 => ∃ c, x = .bl c ∧ if c = true then Q (.bl true) H1 else tb σ H1 Q) : tOrV ta tb σ H Q := h
theorem x_notV (h : ta σ H fun x H1 => ∃ c, x = .bl c ∧ Q (.bl (!c)) H1) : tNotV ta σ H Q := h
theorem x_tIf (h : c σ H fun k H1 => if k = true then ta σ H1 Q else tb σ H1 Q) : tIf c ta tb σ H Q := h
theorem x_chain (h : ta σ H fun x H1 => tb σ H1 fun y H2 => r x y H2 fun z H3 => ∃ k, z = .bl k ∧ (if k = true then tc σ H3 fun w' H4 => r' y w' H4 Q else Q (.bl false) H3)) : tChain r r' ta tb tc σ H Q := h
theorem x_cons (h : ta σ H fun x H1 => tr σ H1 fun xs H2 => QA (x :: xs) H2) : tCons ta tr σ H QA := h
theorem x_nil (q : QA [] H) : tNil σ H QA := q
theorem x_tup (h : tA σ H fun xs H1 => xs.length ≤ sizeLine ∧ ∀ p, H1 p = none → Q (.ref p) (upd H1 p (.tup xs))) : tTup tA σ H Q := h
theorem x_lst (h : tA σ H fun xs H1 => xs.length ≤ sizeLine ∧ ∀ p, H1 p = none → Q (.ref p) (upd H1 p (.lst xs))) : tLst tA σ H Q := h
theorem x_tupF (h : tA σ H fun xs H1 => xs.length ≤ sizeLine ∧ ∀ (p : Addr) (o : Obj), H1 p = none → o.cls = .type "tuple" → o.dict = none → Q (.ref p) (upd H1 p (.frz o (.tup xs)))) : tTupF tA σ H Q := h
theorem x_sz0 {A : Prop} (h : A) : ([] : List V).length ≤ sizeLine ∧ A := ⟨Nat.zero_le _, h⟩
theorem x_sz1 {A : Prop} {a : V} (h : A) : [a].length ≤ sizeLine ∧ A := ⟨by show 1 ≤ sizeLine; decide, h⟩
theorem x_sz2 {A : Prop} {a b : V} (h : A) : [a, b].length ≤ sizeLine ∧ A := ⟨by show 2 ≤ sizeLine; decide, h⟩
theorem x_sz3 {A : Prop} {a b c : V} (h : A) : [a, b, c].length ≤ sizeLine ∧ A := ⟨by show 3 ≤ sizeLine; decide, h⟩
theorem x_sz4 {A : Prop} {a b c d : V} (h : A) : [a, b, c, d].length ≤ sizeLine ∧ A := ⟨by show 4 ≤ sizeLine; decide, h⟩
theorem x_sz5 {A : Prop} {a b c d e : V} (h : A) : [a, b, c, d, e].length ≤ sizeLine ∧ A := ⟨by show 5 ≤ sizeLine; decide, h⟩
theorem x_cb {rc : List V → Hp → VK → Prop} (h : tA σ H fun vs H1 => rc vs H1 Q) : tCB rc tA σ H Q := h
theorem x_call {sp : Sp} {E : XK} (h : tA σ H fun vs H1 => sp (vs ++ []) H1 Q E) : tCall sp [] E tA σ H Q := h
theorem x_callS {sp : Sp} {E : L2.St → XK} (h : tA σ H fun vs H1 => sp vs H1 Q (E σ)) : tCallS sp E tA σ H Q := h
theorem x_meth {C : Addr} {m : Str} {sp : Sp} {E : XK} (h : ta σ H fun x H1 => ∃ a dx fs, x = .ref a ∧ H1 a = some (.ins C dx fs) ∧ fs.lookup m = none ∧ tA σ H1 fun vs H2 => sp (x :: (vs ++ [])) H2 Q E) : tMeth C m sp [] E ta tA σ H Q := h
theorem x_methS {C : Addr} {m : Str} {sp : Sp} {E : L2.St → XK} (h : ta σ H fun x H1 => ∃ a dx fs, x = .ref a ∧ H1 a = some (.ins C dx fs) ∧ fs.lookup m = none ∧ tA σ H1 fun vs H2 => sp (x :: vs) H2 Q (E σ)) : tMethS C m sp E ta tA σ H Q := h
theorem x_make {C : Addr} {sp : Sp} {E : XK} (h : tA σ H fun vs H1 => ∀ x dx, H1 x = none → H1 dx = none → dx ≠ x →
  sp (.ref x :: (vs ++ [])) (upd (upd H1 dx (.own x)) x (.ins C dx [])) (fun v H2 => v = .non ∧ Q (.ref x) H2) E) : tMake C sp [] E tA σ H Q := h
theorem x_fld {f : Str} (h : ta σ H fun x H1 => ∃ a C dx fs v, x = .ref a ∧ H1 a = some (.ins C dx fs) ∧ Cls K C ∧ NoAttr K C f ∧ fs.lookup f = some v ∧ Q v H1) : tFld K ta f σ H Q := h
theorem x_bm {T : String} {rm : V → List V → Hp → VK → Prop} (h : ta σ H fun x H1 => tyV K T x H1 ∧ tA σ H1 fun xs H2 => rm x xs H2 Q) : tBM K T rm ta tA σ H Q := h
theorem x_bmU {rm : V → List V → Hp → VK → Prop} (h : ta σ H fun x H1 => TyU K x H1 ∧ tA σ H1 fun xs H2 => rm x xs H2 Q) : tBMU K rm ta tA σ H Q := h
theorem x_sl {rs : V → Option Int → Option Int → Hp → VK → Prop} {tl th : TO} (h : te σ H fun x H1 => tl σ H1 fun l H2 => th σ H2 fun u H3 => rs x l u H3 Q) : tSl rs te tl th σ H Q := h
theorem x_part {QO : Option Int → Hp → Prop} (h : te σ H fun x H1 => ∃ i, x = .int i ∧ QO (some i) H1) : tPart te σ H QO := h
theorem x_int {j : Int} {P : Int → Prop} (q : P j) : ∃ i, V.int j = .int i ∧ P i := ⟨j, rfl, q⟩
theorem x_noPart {QO : Option Int → Hp → Prop} (q : QO none H) : tNoPart σ H QO := q
theorem x_revL (h : te σ H fun x H1 => ∃ a xs, x = .ref a ∧ SqL K H1 a xs ∧ ∀ p, H1 p = none → Q (.ref p) (upd H1 p (.lst xs.reverse))) : tRevL K te σ H Q := h
theorem x_for {wi : TI} (h : wi σ H fun J H1 => ∃ W : Nat → Nat → L2.St → Hp → Prop, (∃ m, W 0 m σ H1) ∧ ∀ i m σ H, W i m σ H →
  (J.stop i H ∧ nx σ H) ∨ (J.go i H ∧ ∃ N : L2.St → Hp → Prop, (∀ σ' H', N σ' H' → ∃ m', m' < m ∧ W (i + 1) m' σ' H') ∧ ∀ x H', J.yld i H x H' → g x σ H' fun σ2 H2 => t ⟨N, rt, nx, N⟩ σ2 H2)) : tFor wi g t ⟨nx, rt, bk, ct⟩ σ H := h
theorem x_lc {wi : TI} {vs : List Nat} (h : wi σ H fun J H1 => ∀ D, H1 D = none → ∃ W : Nat → Nat → Hp → Prop, (∃ m, W 0 m (upd H1 D (.lst []))) ∧ ∀ i m H, W i m H →
  (J.stop i H ∧ Q (.ref D) H) ∨ (J.go i H ∧ ∃ Nx : Hp → Prop, (∀ H', Nx H' → ∃ m', m' < m ∧ W (i + 1) m' H') ∧ ∀ x H', J.yld i H x H' → g x (wipe σ vs) H' fun σ2 H2 => wipe σ2 vs = wipe σ vs ∧ c σ2 H2 fun b H3 =>
    if b = true then te σ2 H3 fun y H4 => ∃ acc, H4 D = some (.lst acc) ∧ acc.length < sizeLine ∧ Nx (upd H4 D (.lst (acc ++ [y]))) else Nx H3)) : tLc wi g c te vs σ H Q := h
theorem x_iList {R : It → Hp → Prop} (h : te σ H fun x H1 => ∃ a, x = .ref a ∧ (∃ xs, SqL K H1 a xs) ∧ R (Itl K a) H1) : iList K te σ H R := h
theorem x_iTup {R : It → Hp → Prop} (h : te σ H fun x H1 => ∃ a, x = .ref a ∧ (∃ xs, SqT K H1 a xs) ∧ R (Itt K a) H1) : iTup K te σ H R := h
theorem x_iRng1 {R : It → Hp → Prop} (h : tA σ H fun vs H1 => ∃ j : Int, vs = [.int j] ∧ -(2 ^ 62) ≤ j ∧ j < 2 ^ 62 ∧ R (Itr 0 j.toNat) H1) : iRng1 tA σ H R := h
theorem x_iRng2 {R : It → Hp → Prop} (h : tA σ H fun vs H1 => ∃ i j : Int, vs = [.int i, .int j] ∧ (-(2 ^ 62) ≤ i ∧ i < 2 ^ 62 ∧ -(2 ^ 62) ≤ j ∧ j < 2 ^ 62) ∧ R (Itr i (j - i).toNat) H1) : iRng2 tA σ H R := h
theorem x_ost {f : Str} {to : TE} (h : te σ H fun y H1 => to σ H1 fun x H2 => ∃ a C : Addr, x = .ref a ∧ OexC K C ∧ PySem.W.findIn K (.ref C) f = some none ∧
  ((H2 a = some (exo a C none) ∧ ∀ dx, H2 dx = none → dx ≠ a → nx σ (upd (upd H2 dx (exd dx [(f, y)])) a (exo a C (some dx)))) ∨
    ∃ (dx : Addr) (fs : List (Str × V)), H2 a = some (exo a C (some dx)) ∧ H2 dx = some (exd dx fs) ∧ fs.length ≤ 900 ∧ nx σ (upd H2 dx (exd dx ((f, y) :: fs))))) : tOst K f to te ⟨nx, rt, bk, ct⟩ σ H := h
theorem x_mkO {C : Addr} {sp : Sp} {QX : XK} (h : tA σ H fun vs H1 => vs.length ≤ 1000 ∧ ∀ a, H1 a = none → sp (.ref a :: (vs ++ [])) (upd H1 a (exo a C none))
  (fun v H2 => v = .non ∧ ∃ (d : Addr) (fs : List (Str × V)), H2 a = some (exo a C (some d)) ∧ H2 d = some (exd d fs) ∧ H1 d = none ∧ QX (.ref C) (some d) (upd (del H2 a) d (.xd fs))) (fun _ _ _ => False)) : tMkO C sp [] tA σ H QX := h
theorem x_sFld {f : Str} (h : tv σ H fun y H1 => ta σ H1 fun x H2 => ∃ a C dx fs, x = .ref a ∧ H2 a = some (.ins C dx fs) ∧ Cls K C ∧ NoAttr K C f ∧ fs.length < 1000 ∧ nx σ (upd H2 a (.ins C dx (putF f y fs)))) : sFld K ta tv f ⟨nx, rt, bk, ct⟩ σ H := h
theorem x_sFldAug {f : Str} {rd : V → V → Hp → VK → Prop} (h : ta σ H fun x H1 => ∃ a C dx fs v, x = .ref a ∧ H1 a = some (.ins C dx fs) ∧ Cls K C ∧ NoAttr K C f ∧ fs.lookup f = some v ∧
  tv σ H1 fun y H2 => rd v y H2 fun z H3 => ∃ dx' fs', H3 a = some (.ins C dx' fs') ∧ fs'.length < 1000 ∧ nx σ (upd H3 a (.ins C dx' (putF f z fs')))) : sFldAug K ta tv rd f ⟨nx, rt, bk, ct⟩ σ H := h
theorem x_m1 {rm : V → List V → Hp → VK → Prop} (h : ta σ H fun v H1 => (∃ a, v = .str a) ∧ tv σ H1 fun y H2 => rm v [y] H2 Q) : tM1 rm ta tv σ H Q := h
theorem x_aug1 {n j : Int} {f : Int → Int → Int} (h : σ[i]? = some (some (.int n))) (q : nx (σ.set i (some (.int (f n j)))) H) : tAug i (tC (.int j)) (ipI f) ⟨nx, rt, bk, ct⟩ σ H := ⟨_, h, _, _, rfl, rfl, q⟩
/-! ### leaves -/
theorem x_len {P : List V → Prop} {p : Addr} {ys : List V} (h : SqL K H p ys ∨ SqT K H p ys) (q : P ys) : ∃ p' ys', [V.ref p] = [.ref p'] ∧ (SqL K H p' ys' ∨ SqT K H p' ys') ∧ P ys' := ⟨p, ys, rfl, h, q⟩
theorem x_ixL {p : Addr} {xs : List V} {i : Int} (h : SqL K H p xs) (ha : atI xs i = some v) (q : Q v H) : rIxL K (.ref p) (.int i) H Q := ⟨p, xs, i, v, rfl, rfl, h, ha, q⟩
theorem x_ixT {p : Addr} {xs : List V} {i : Int} (h : SqT K H p xs) (ha : atI xs i = some v) (q : Q v H) : rIxT K (.ref p) (.int i) H Q := ⟨p, xs, i, v, rfl, rfl, h, ha, q⟩
theorem x_cat {p q : Addr} {xs ys : List V} (h1 : H p = some (.lst xs)) (h2 : H q = some (.lst ys)) (hl : xs.length + ys.length ≤ sizeLine) (k : ∀ l, H l = none → Q (.ref l) (upd H l (.lst (xs ++ ys)))) : rCat (.ref p) (.ref q) H Q := ⟨p, q, xs, ys, rfl, rfl, h1, h2, hl, k⟩
theorem x_slL {p : Addr} {xs : List V} {lo hi : Option Int} (h : SqL K H p xs) (k : ∀ l, H l = none → Q (.ref l) (upd H l (.lst (cutV xs lo hi)))) : rSlL K (.ref p) lo hi H Q := ⟨p, xs, rfl, h, k⟩
theorem x_append {l : Addr} {xs : List V} (h : H l = some (.lst xs)) (hl : xs.length < sizeLine) (q : Q .non (upd H l (.lst (xs ++ [y])))) : rAppend (.ref l) [y] H Q := ⟨l, xs, y, rfl, rfl, h, hl, q⟩
theorem x_extend {l b : Addr} {xs zs : List V} (h : H l = some (.lst xs)) (h2 : H b = some (.lst zs)) (hl : xs.length + zs.length ≤ sizeLine) (q : Q .non (upd H l (.lst (xs ++ zs)))) : rExtend (.ref l) [.ref b] H Q := ⟨l, b, xs, zs, rfl, rfl, h, h2, hl, q⟩
theorem x_tyL {l : Addr} {xs : List V} (h : H l = some (.lst xs)) : tyV K "list" (.ref l) H := Or.inl ⟨rfl, xs, Or.inl (Or.inl h)⟩
theorem x_in {neg : Bool} {p : Addr} {xs : List V} (h : SqL K H p xs ∨ SqT K H p xs) (hx : flatV x = true) (ha : xs.all flatV = true) (q : Q (.bl (if neg then !inV x xs else inV x xs)) H) : rIn K neg x (.ref p) H Q := ⟨p, xs, rfl, h, hx, ha, q⟩
theorem x_iteT {A B : Prop} {b : Bool} (hb : b = true) (h : A) : if b = true then A else B := by rw [if_pos hb]; exact h
theorem x_iteF {A B : Prop} {b : Bool} (hb : b = false) (h : B) : if b = true then A else B := by rw [hb, if_neg Bool.false_ne_true]; exact h
theorem x_ite {A B : Prop} {p : Prop} [Decidable p] (h1 : p → A) (h2 : ¬ p → B) : if decide p = true then A else B := by
  by_cases h : p
  · exact x_iteT (decide_eq_true h) (h1 h)
  · exact x_iteF (decide_eq_false h) (h2 h)
theorem x_iteB {A B : Prop} {b : Bool} (h1 : b = true → A) (h2 : b = false → B) : if b = true then A else B := by
  cases hb : b with
  | true => exact x_iteT rfl (h1 hb)
  | false => exact x_iteF rfl (h2 hb)
theorem sqL {p : Addr} {xs : List V} (h : H p = some (.lst xs)) : SqL K H p xs := Or.inl (Or.inl h)
theorem sqT {p : Addr} {xs : List V} (h : H p = some (.tup xs)) : SqT K H p xs := Or.inl (Or.inl h)
end
end RR
/-! part Lc -/
/-! Comprehensions whose element asks nothing of the heap; comparisons of rows. -/
namespace RR
open PySem PySem.Spec PyProof.Rows L2
theorem take_more {α : Type} {l : List α} {i : Nat} {x : α} (h : l[i]? = some x) : l.take (i + 1) = l.take i ++ [x] := by
  rw [List.take_add_one, h]
  rfl
theorem x_yes {σ : L2.St} {H : Hp} {QB : Bool → Hp → Prop} (q : QB true H) : tYes σ H QB := q
theorem wipe_one (σ : L2.St) (i : Nat) (v : Option V) : wipe ((wipe σ [i]).set i v) [i] = wipe σ [i] := by
  show ((σ.set i none).set i v).set i none = σ.set i none
  rw [List.set_set, List.set_set]
section
variable {K : PySem.W.Frag} {a : Addr} {i : Nat} {tl te : TE} {tt : TT} {σ : L2.St} {H : Hp} {Q : VK} {g : V → V} {p : V → Bool}
theorem lc_grow {xs : List V} {j : Nat} {x : V} (hx : xs[j]? = some x) : ((xs.take (j + 1)).filter p).map g = if p x = true then ((xs.take j).filter p).map g ++ [g x] else ((xs.take j).filter p).map g := by
  rw [take_more hx, List.filter_append, List.map_append]
  by_cases c : p x = true
  · rw [if_pos c]
    simp [List.filter, c]
  · rw [if_neg c]
    simp [List.filter, c]
theorem lc_len {xs : List V} {j : Nat} : (((xs.take j).filter p).map g).length ≤ xs.length := by
  rw [List.length_map]
  refine Nat.le_trans (List.length_filter_le _ _) ?_
  rw [List.length_take]
  exact Nat.min_le_right _ _
/-- [g x for x in xs if p x] -/
theorem x_lcL {xs : List V} (p : V → Bool) (g : V → V) (htl : ∀ q : VK, q (.ref a) H → tl σ H q) (hl : SqL K H a xs) (hz : xs.length ≤ 1000000)
    (ht : ∀ x ∈ xs, ∀ H1, Ex H H1 → ∀ q : Bool → Hp → Prop, q (p x) H1 → tt ((wipe σ [i]).set i (some x)) H1 q)
    (he : ∀ x ∈ xs, ∀ H1, Ex H H1 → ∀ q : VK, q (g x) H1 → te ((wipe σ [i]).set i (some x)) H1 q) (k : RetL H ((xs.filter p).map g) Q) :
    tLc (iList K tl) (gName i) tt te [i] σ H Q := by
  refine x_lc (x_iList (htl _ ⟨a, rfl, ⟨xs, hl⟩, fun D hD => ?_⟩))
  refine lc_list (K := K) (a := a) (xs := xs) (fun j H' => Ex H H' ∧ H' D = some (.lst (((xs.take j).filter p).map g))) ⟨Ex.new hD, upd_same⟩ (fun j H' _ h => h.1.l hl) ?_ ?_
  · rintro j x H' hx ⟨e, hd⟩
    have hm : x ∈ xs := List.mem_of_getElem? hx
    refine x_name ⟨wipe_one σ i _, ht x hm H' e _ ?_⟩
    by_cases c : p x = true
    · rw [if_pos c]
      refine he x hm H' e _ ⟨_, hd, sz_lt (Nat.lt_of_le_of_lt lc_len (by omega)), e.mut hD, ?_⟩
      rw [lc_grow hx, if_pos c]
      exact upd_same
    · rw [if_neg c]
      refine ⟨e, ?_⟩
      rw [lc_grow hx, if_neg c]
      exact hd
  · rintro H' ⟨e, hd⟩
    rw [List.take_length] at hd
    exact k H' D e hD hd
theorem filter_true {α : Type} (l : List α) : l.filter (fun _ => true) = l := by simp
/-- [g x for x in xs] -/
theorem x_lcM {xs : List V} (g : V → V) (htl : ∀ q : VK, q (.ref a) H → tl σ H q) (hl : SqL K H a xs) (hz : xs.length ≤ 1000000)
    (he : ∀ x ∈ xs, ∀ H1, Ex H H1 → ∀ q : VK, q (g x) H1 → te ((wipe σ [i]).set i (some x)) H1 q) (k : RetL H (xs.map g) Q) :
    tLc (iList K tl) (gName i) tYes te [i] σ H Q :=
  x_lcL (fun _ => true) g htl hl hz (fun _ _ _ _ q h => h) he (by rw [filter_true]; exact k)
/-- [g (lo + j) for it in range(lo, hi)] -/
theorem x_lcR {tA : TA} {lo hi : Int} (g : Int → V) (htA : ∀ q : List V → Hp → Prop, q [.int lo, .int hi] H → tA σ H q) (h1 : -1000000 ≤ lo ∧ lo ≤ 1000000) (h2 : -1000000 ≤ hi ∧ hi ≤ 1000000)
    (he : ∀ j : Nat, j < (hi - lo).toNat → ∀ H1, Ex H H1 → ∀ q : VK, q (g (lo + j)) H1 → te ((wipe σ [i]).set i (some (.int (lo + j)))) H1 q) (k : RetL H ((List.range (hi - lo).toNat).map fun j => g (lo + (j : Nat))) Q) :
    tLc (iRng2 tA) (gName i) tYes te [i] σ H Q := by
  refine x_lc (x_iRng2 (htA _ ⟨lo, hi, rfl, ⟨by omega, by omega, by omega, by omega⟩, fun D hD => ?_⟩))
  refine lc_range (fun j H' => Ex H H' ∧ H' D = some (.lst ((List.range j).map fun j => g (lo + (j : Nat))))) ⟨Ex.new hD, upd_same⟩ ?_ ?_
  · rintro j H' hj ⟨e, hd⟩
    refine x_name ⟨wipe_one σ i _, ?_⟩
    refine x_yes (x_iteT rfl ?_)
    refine he j hj H' e _ ⟨_, hd, sz_lt (by rw [List.length_map, List.length_range]; omega), e.mut hD, ?_⟩
    rw [List.range_succ, List.map_append]
    exact upd_same
  · rintro H' ⟨e, hd⟩
    exact k H' D e hD hd
/-- [g x for x in t], t a tuple -/
theorem x_lcT {xs : List V} (g : V → V) (htl : ∀ q : VK, q (.ref a) H → tl σ H q) (hl : SqT K H a xs) (hz : xs.length ≤ 1000000)
    (he : ∀ x ∈ xs, ∀ H1, Ex H H1 → ∀ q : VK, q (g x) H1 → te ((wipe σ [i]).set i (some x)) H1 q) (k : RetL H (xs.map g) Q) :
    tLc (iTup K tl) (gName i) tYes te [i] σ H Q := by
  refine x_lc (x_iTup (htl _ ⟨a, rfl, ⟨xs, hl⟩, fun D hD => ?_⟩))
  refine lc_tup (K := K) (a := a) (xs := xs) (fun j H' => Ex H H' ∧ H' D = some (.lst ((xs.take j).map g))) ⟨Ex.new hD, upd_same⟩ (fun j H' _ h => h.1.t hl) ?_ ?_
  · rintro j x H' hx ⟨e, hd⟩
    have hm : x ∈ xs := List.mem_of_getElem? hx
    refine x_name ⟨wipe_one σ i _, ?_⟩
    refine x_yes (x_iteT rfl ?_)
    refine he x hm H' e _ ⟨_, hd, sz_lt (by rw [List.length_map, List.length_take]; omega), e.mut hD, ?_⟩
    rw [take_more hx, List.map_append]
    exact upd_same
  · rintro H' ⟨e, hd⟩
    rw [List.take_length] at hd
    exact k H' D e hD hd
end
/-! ### loops -/
section
variable {K : PySem.W.Frag} {a : Addr} {tl : TE} {tA : TA} {σ : L2.St} {H : Hp} {nx bk ct : L2.St → Hp → Prop} {rt : VK} {g : TG} {t : TS} {c : TT}
theorem forL_core {xs : List V} (Pv : Nat → L2.St → Hp → Prop) (h0 : Pv 0 σ H) (hl : ∀ i σ' H', i ≤ xs.length → Pv i σ' H' → SqL K H' a xs)
    (hs : ∀ i x σ' H', xs[i]? = some x → Pv i σ' H' → g x σ' H' fun σ2 H2 => t ⟨Pv (i + 1), rt, nx, Pv (i + 1)⟩ σ2 H2) (hd : ∀ σ' H', Pv xs.length σ' H' → nx σ' H') :
    ∃ W : Nat → Nat → L2.St → Hp → Prop, (∃ m, W 0 m σ H) ∧ ∀ i m σ H, W i m σ H →
      ((Itl K a).stop i H ∧ nx σ H) ∨ ((Itl K a).go i H ∧ ∃ N : L2.St → Hp → Prop, (∀ σ' H', N σ' H' → ∃ m', m' < m ∧ W (i + 1) m' σ' H') ∧ ∀ x H', (Itl K a).yld i H x H' → g x σ H' fun σ2 H2 => t ⟨N, rt, nx, N⟩ σ2 H2) :=
  for_list (D := ⟨nx, rt, fun _ _ => False, fun _ _ => False⟩) Pv h0 hl hs hd
theorem forT_core {xs : List V} (Pv : Nat → L2.St → Hp → Prop) (h0 : Pv 0 σ H) (hl : ∀ i σ' H', i ≤ xs.length → Pv i σ' H' → SqT K H' a xs)
    (hs : ∀ i x σ' H', xs[i]? = some x → Pv i σ' H' → g x σ' H' fun σ2 H2 => t ⟨Pv (i + 1), rt, nx, Pv (i + 1)⟩ σ2 H2) (hd : ∀ σ' H', Pv xs.length σ' H' → nx σ' H') :
    ∃ W : Nat → Nat → L2.St → Hp → Prop, (∃ m, W 0 m σ H) ∧ ∀ i m σ H, W i m σ H →
      ((Itt K a).stop i H ∧ nx σ H) ∨ ((Itt K a).go i H ∧ ∃ N : L2.St → Hp → Prop, (∀ σ' H', N σ' H' → ∃ m', m' < m ∧ W (i + 1) m' σ' H') ∧ ∀ x H', (Itt K a).yld i H x H' → g x σ H' fun σ2 H2 => t ⟨N, rt, nx, N⟩ σ2 H2) :=
  for_tup (D := ⟨nx, rt, fun _ _ => False, fun _ _ => False⟩) Pv h0 hl hs hd
theorem x_forL {xs : List V} (Pv : Nat → L2.St → Hp → Prop) (htl : ∀ q : VK, q (.ref a) H → tl σ H q) (hx : SqL K H a xs) (h0 : Pv 0 σ H) (hl : ∀ i σ' H', i ≤ xs.length → Pv i σ' H' → SqL K H' a xs)
    (hs : ∀ i x σ' H', xs[i]? = some x → Pv i σ' H' → g x σ' H' fun σ2 H2 => t ⟨Pv (i + 1), rt, nx, Pv (i + 1)⟩ σ2 H2) (hd : ∀ σ' H', Pv xs.length σ' H' → nx σ' H') : tFor (iList K tl) g t ⟨nx, rt, bk, ct⟩ σ H :=
  x_for (x_iList (htl _ ⟨a, rfl, ⟨_, hx⟩, forL_core Pv h0 hl hs hd⟩))
theorem x_forT {xs : List V} (Pv : Nat → L2.St → Hp → Prop) (htl : ∀ q : VK, q (.ref a) H → tl σ H q) (hx : SqT K H a xs) (h0 : Pv 0 σ H) (hl : ∀ i σ' H', i ≤ xs.length → Pv i σ' H' → SqT K H' a xs)
    (hs : ∀ i x σ' H', xs[i]? = some x → Pv i σ' H' → g x σ' H' fun σ2 H2 => t ⟨Pv (i + 1), rt, nx, Pv (i + 1)⟩ σ2 H2) (hd : ∀ σ' H', Pv xs.length σ' H' → nx σ' H') : tFor (iTup K tl) g t ⟨nx, rt, bk, ct⟩ σ H :=
  x_for (x_iTup (htl _ ⟨a, rfl, ⟨_, hx⟩, forT_core Pv h0 hl hs hd⟩))
theorem x_forR1 {n : Nat} (Pv : Nat → L2.St → Hp → Prop) (htA : ∀ q : List V → Hp → Prop, q [.int n] H → tA σ H q) (hn : n ≤ 1000000) (h0 : Pv 0 σ H)
    (hs : ∀ i σ' H', i < n → Pv i σ' H' → g (.int (0 + (i : Nat))) σ' H' fun σ2 H2 => t ⟨Pv (i + 1), rt, nx, Pv (i + 1)⟩ σ2 H2) (hd : ∀ σ' H', Pv n σ' H' → nx σ' H') : tFor (iRng1 tA) g t ⟨nx, rt, bk, ct⟩ σ H :=
  x_for (x_iRng1 (htA _ ⟨(n : Int), rfl, by omega, by omega, by
    rw [Int.toNat_natCast]
    exact for_range (D := ⟨nx, rt, bk, ct⟩) Pv h0 hs hd⟩))
theorem x_forR2 {lo hi : Int} (Pv : Nat → L2.St → Hp → Prop) (htA : ∀ q : List V → Hp → Prop, q [.int lo, .int hi] H → tA σ H q) (h1 : -1000000 ≤ lo ∧ lo ≤ 1000000) (h2 : -1000000 ≤ hi ∧ hi ≤ 1000000) (h0 : Pv 0 σ H)
    (hs : ∀ i σ' H', i < (hi - lo).toNat → Pv i σ' H' → g (.int (lo + (i : Nat))) σ' H' fun σ2 H2 => t ⟨Pv (i + 1), rt, nx, Pv (i + 1)⟩ σ2 H2) (hd : ∀ σ' H', Pv (hi - lo).toNat σ' H' → nx σ' H') : tFor (iRng2 tA) g t ⟨nx, rt, bk, ct⟩ σ H :=
  x_for (x_iRng2 (htA _ ⟨lo, hi, rfl, ⟨by omega, by omega, by omega, by omega⟩, for_range (D := ⟨nx, rt, bk, ct⟩) Pv h0 hs hd⟩))
theorem x_while (Pv : Nat → L2.St → Hp → Prop) (h0 : ∃ m, Pv m σ H) (hs : ∀ m σ' H', Pv m σ' H' → c σ' H' fun b H1 => if b = true then ∃ N : L2.St → Hp → Prop, (∀ σ2 H2, N σ2 H2 → ∃ m', m' < m ∧ Pv m' σ2 H2) ∧ t ⟨N, rt, nx, N⟩ σ' H1 else nx σ' H1) :
    tWhile c t ⟨nx, rt, bk, ct⟩ σ H := ⟨Pv, h0, hs⟩
theorem x_turn {Pv : Nat → L2.St → Hp → Prop} {m : Nat} (h : t ⟨fun σ2 H2 => ∃ m', m' < m ∧ Pv m' σ2 H2, rt, nx, fun σ2 H2 => ∃ m', m' < m ∧ Pv m' σ2 H2⟩ σ H) : ∃ N : L2.St → Hp → Prop, (∀ σ2 H2, N σ2 H2 → ∃ m', m' < m ∧ Pv m' σ2 H2) ∧ t ⟨N, rt, nx, N⟩ σ H := ⟨_, fun _ _ h => h, h⟩
end
theorem x_whileJ {c : TT} {t : TS} {nx bk ct : L2.St → Hp → Prop} {rt : VK} {σ : L2.St} {H : Hp} {ι : Type} (S : ι → L2.St) (I : ι → Hp → Prop) (ms : ι → Nat) (B : ι → Bool) (j0 : ι) (h0 : σ = S j0 ∧ I j0 H) (hI : ∀ j H1 H2, I j H1 → Ex H1 H2 → I j H2)
    (hc : ∀ j H', I j H' → ∀ q : Bool → Hp → Prop, (∀ H1, Ex H' H1 → q (B j) H1) → c (S j) H' q)
    (hs : ∀ j H', I j H' → B j = true → t ⟨fun σ2 H2 => ∃ j', ms j' < ms j ∧ σ2 = S j' ∧ I j' H2, rt, nx, fun σ2 H2 => ∃ j', ms j' < ms j ∧ σ2 = S j' ∧ I j' H2⟩ (S j) H')
    (hd : ∀ j H', I j H' → B j = false → nx (S j) H') : tWhile c t ⟨nx, rt, bk, ct⟩ σ H := by
  refine x_while (fun m σ' H' => ∃ j, m = ms j ∧ σ' = S j ∧ I j H') ⟨ms j0, j0, rfl, h0⟩ ?_
  rintro m σ' H' ⟨j, rfl, rfl, hj⟩
  refine hc j H' hj _ fun H1 e => ?_
  cases b : B j with
  | true =>
    rw [if_pos rfl]
    exact ⟨_, fun σ2 H2 ⟨j', h1, h2, h3⟩ => ⟨ms j', h1, j', rfl, h2, h3⟩, hs j H1 (hI j H' H1 hj e) b⟩
  | false =>
    rw [if_neg Bool.false_ne_true]
    exact hd j H1 (hI j H' H1 hj e) b
theorem map_get {l : List Int} {i : Nat} {x : V} (h : (l.map V.int)[i]? = some x) : ∃ n, l[i]? = some n ∧ x = V.int n := by
  rw [List.getElem?_map] at h
  cases e2 : l[i]? with
  | none => rw [e2] at h; cases h
  | some n => rw [e2] at h; exact ⟨n, rfl, (Option.some.inj h).symm⟩
/-! ### rows compared -/
theorem dp_ints {K : PySem.W.Frag} {H : Hp} : ∀ l : List Int, DpAll K H (l.map V.int) (l.map PyData.int)
  | [] => .nil
  | x :: l => .cons (.int x) (dp_ints l)
theorem eqvAll_ints : ∀ l m : List Int, PyData.eqvAll (l.map PyData.int) (m.map PyData.int) = decide (l = m)
  | [], [] => by simp [PyData.eqvAll]
  | [], _ :: _ => by simp [PyData.eqvAll]
  | _ :: _, [] => by simp [PyData.eqvAll]
  | a :: r, b :: t => by
    simp only [List.map_cons, PyData.eqvAll, PyData.eqv, eqvAll_ints r t]
    by_cases h : a = b <;> by_cases h' : r = t <;> simp [h, h']
theorem canLay_ints : ∀ l : List Int, PyData.canLayAll0 (l.map PyData.int) = true
  | [] => rfl
  | x :: l => by
    show (PyData.canLay0 (PyData.int x) && PyData.canLayAll0 (l.map PyData.int)) = true
    rw [canLay_ints l]
    rfl
theorem depth_ints : ∀ l : List Int, PyData.depthAll (l.map PyData.int) = 0
  | [] => rfl
  | x :: l => by
    show max (PyData.depth (PyData.int x)) (PyData.depthAll (l.map PyData.int)) = 0
    rw [depth_ints l]
    rfl
theorem shaped_row (l : List Int) : SeqAt.shaped (.list (l.map PyData.int)) = true := by
  unfold SeqAt.shaped
  rw [Bool.and_eq_true, decide_eq_true_eq]
  refine ⟨canLay_ints l, ?_⟩
  show PyData.depthAll (l.map PyData.int) + 1 ≤ 64
  rw [depth_ints l]
  decide
section
variable {K : PySem.W.Frag} {p q : Addr} {H : Hp} {Q : VK}
theorem x_eqL {l m : List Int} (h1 : SqL K H p (l.map V.int)) (h2 : SqL K H q (m.map V.int)) (k : Q (.bl (decide (l = m))) H) : rEqD K (.ref p) (.ref q) H Q := by
  refine ⟨_, _, .lst h1 (dp_ints l), .lst h2 (dp_ints m), shaped_row l, shaped_row m, ?_⟩
  rw [show PyData.eqv (.list (l.map PyData.int)) (.list (m.map PyData.int)) = decide (l = m) from by rw [PyData.eqv, eqvAll_ints]]
  exact k
theorem x_neL {l m : List Int} (h1 : SqL K H p (l.map V.int)) (h2 : SqL K H q (m.map V.int)) (k : Q (.bl (!decide (l = m))) H) : rNeD K (.ref p) (.ref q) H Q := by
  refine ⟨_, _, .lst h1 (dp_ints l), .lst h2 (dp_ints m), shaped_row l, shaped_row m, ?_⟩
  rw [show PyData.eqv (.list (l.map PyData.int)) (.list (m.map PyData.int)) = decide (l = m) from by rw [PyData.eqv, eqvAll_ints]]
  exact k
end
/-! ### places, slices -/
theorem atI_of {α : Type} {xs : List α} {i : Int} {v : α} (h0 : 0 ≤ i) (h : xs[i.toNat]? = some v) : atI xs i = some v := by
  have e : i = (i.toNat : Int) := by omega
  rw [e]
  exact atI_nat (by simpa using h)
theorem cutV_len (xs : List V) (lo hi : Option Int) : (cutV xs lo hi).length ≤ xs.length := by
  unfold cutV
  rw [List.length_take, List.length_drop]
  omega
theorem cutV_mid (xs : List V) (a b : Nat) : cutV xs (some (a : Int)) (some (b : Int)) = (xs.drop a).take (b - a) := by
  unfold cutV
  rw [HT.sIx_nat, HT.sIx_nat]
  by_cases h : a ≤ xs.length
  · rw [Nat.min_eq_left h]
    by_cases h2 : b ≤ xs.length
    · rw [Nat.min_eq_left h2]
    · rw [Nat.min_eq_right (by omega), List.take_of_length_le (l := xs.drop a) (by rw [List.length_drop]; exact Nat.le_refl _), List.take_of_length_le (l := xs.drop a) (by rw [List.length_drop]; omega)]
  · have : xs.drop (min a xs.length) = [] := List.drop_eq_nil_of_le (by omega)
    rw [this, List.drop_eq_nil_of_le (by omega), List.take_nil, List.take_nil]
theorem cutV_to (xs : List V) (b : Nat) : cutV xs none (some (b : Int)) = xs.take b := by
  unfold cutV
  rw [HT.sIx_nat, HT.sIx_none, List.drop_zero, Nat.sub_zero]
  by_cases h2 : b ≤ xs.length
  · rw [Nat.min_eq_left h2]
  · rw [Nat.min_eq_right (by omega), List.take_of_length_le (Nat.le_refl _), List.take_of_length_le (by omega)]
theorem cutV_from (xs : List V) (a : Nat) : cutV xs (some (a : Int)) none = xs.drop a := by
  unfold cutV
  rw [HT.sIx_nat, HT.sIx_none]
  by_cases h : a ≤ xs.length
  · rw [Nat.min_eq_left h, List.take_of_length_le (by rw [List.length_drop]; exact Nat.le_refl _)]
  · rw [List.drop_eq_nil_of_le (i := min a xs.length) (by omega), List.drop_eq_nil_of_le (by omega), List.take_nil]
theorem inV_int (n : Int) (l : List Int) : inV (V.int n) (l.map V.int) = l.contains n := by
  unfold inV
  rw [List.any_map]
  induction l with
  | nil => rfl
  | cons x l ih =>
    rw [List.any_cons, List.contains_cons]
    show (eqV (V.int x) (V.int n) || _) = _
    rw [ih]
    have : eqV (V.int x) (V.int n) = (n == x) := by
      show (x == n) = _
      by_cases c : x = n
      · subst c; rfl
      · rw [beq_false_of_ne c, beq_false_of_ne (Ne.symm c)]
    rw [this]
theorem flat_ints (l : List Int) : (l.map V.int).all flatV = true := by
  rw [List.all_map, List.all_eq_true]
  intro x _
  rfl
/-- [h n for n in l if pp n], l a list of ints -/
theorem x_lcG {K : PySem.W.Frag} {a : Addr} {i : Nat} {tl te : TE} {tt : TT} {σ : L2.St} {H : Hp} {Q : VK} {l : List Int} (pp : Int → Bool) (h : Int → V) (htl : ∀ q : VK, q (.ref a) H → tl σ H q) (hl : SqL K H a (l.map V.int)) (hz : l.length ≤ 1000000)
    (ht : ∀ n ∈ l, ∀ H1, Ex H H1 → ∀ q : Bool → Hp → Prop, q (pp n) H1 → tt ((wipe σ [i]).set i (some (.int n))) H1 q)
    (he : ∀ n ∈ l, ∀ H1, Ex H H1 → ∀ q : VK, q (h n) H1 → te ((wipe σ [i]).set i (some (.int n))) H1 q) (k : RetL H ((l.filter pp).map h) Q) :
    tLc (iList K tl) (gName i) tt te [i] σ H Q := by
  refine x_lcL (fun v => match v with | .int n => pp n | _ => true) (fun v => match v with | .int n => h n | v => v) htl hl (by rw [List.length_map]; exact hz) ?_ ?_ ?_
  · intro x hx H1 e q hq
    obtain ⟨n, hn, rfl⟩ := List.mem_map.mp hx
    exact ht n hn H1 e q hq
  · intro x hx H1 e q hq
    obtain ⟨n, hn, rfl⟩ := List.mem_map.mp hx
    exact he n hn H1 e q hq
  · have : ((l.map V.int).filter (fun v => match v with | .int n => pp n | _ => true)).map (fun v => match v with | .int n => h n | v => v) = (l.filter pp).map h := by
      clear htl hl hz ht he k
      induction l with
      | nil => rfl
      | cons x l ih =>
        rw [List.map_cons, List.filter_cons, List.filter_cons]
        by_cases c : pp x = true
        · simp only [c, if_true, List.map_cons, ih]
        · simp only [c, if_false, ih, Bool.false_eq_true]
    rw [this]
    exact k
theorem x_lcGM {K : PySem.W.Frag} {a : Addr} {i : Nat} {tl te : TE} {σ : L2.St} {H : Hp} {Q : VK} {l : List Int} (h : Int → V) (htl : ∀ q : VK, q (.ref a) H → tl σ H q) (hl : SqL K H a (l.map V.int)) (hz : l.length ≤ 1000000)
    (he : ∀ n ∈ l, ∀ H1, Ex H H1 → ∀ q : VK, q (h n) H1 → te ((wipe σ [i]).set i (some (.int n))) H1 q) (k : RetL H (l.map h) Q) :
    tLc (iList K tl) (gName i) tYes te [i] σ H Q :=
  x_lcG (fun _ => true) h htl hl hz (fun _ _ _ _ q h => h) he (by rw [filter_true]; exact k)
/-! ### rows of things -/
/-- vs stand for the things of l, one each -/
def AllAt {α : Type} (R : V → α → Prop) (vs : List V) (l : List α) : Prop := vs.length = l.length ∧ ∀ (i : Nat) (v : V) (s : α), vs[i]? = some v → l[i]? = some s → R v s
theorem AllAt.imp {α : Type} {R R' : V → α → Prop} {vs : List V} {l : List α} (h : AllAt R vs l) (f : ∀ v s, R v s → R' v s) : AllAt R' vs l := ⟨h.1, fun i v s a b => f v s (h.2 i v s a b)⟩
theorem AllAt.nil {α : Type} {R : V → α → Prop} : AllAt R [] ([] : List α) := ⟨rfl, fun i v s a _ => by simp at a⟩
theorem AllAt.snoc {α : Type} {R : V → α → Prop} {vs : List V} {l : List α} {v : V} {s : α} (h : AllAt R vs l) (hr : R v s) : AllAt R (vs ++ [v]) (l ++ [s]) := by
  refine ⟨by rw [List.length_append, List.length_append, h.1]; rfl, fun i u t a b => ?_⟩
  by_cases c : i < vs.length
  · rw [List.getElem?_append_left c] at a
    rw [List.getElem?_append_left (by rw [← h.1]; exact c)] at b
    exact h.2 i u t a b
  · rw [List.getElem?_append_right (by omega)] at a
    rw [List.getElem?_append_right (by rw [← h.1]; omega)] at b
    rw [h.1] at a
    cases e : i - l.length with
    | zero =>
      rw [e] at a b
      cases a; cases b
      exact hr
    | succ n => rw [e] at a; cases a
theorem AllAt.get {α : Type} {R : V → α → Prop} {vs : List V} {l : List α} {i : Nat} {v : V} (h : AllAt R vs l) (hv : vs[i]? = some v) : ∃ s, l[i]? = some s ∧ R v s := by
  have hi : i < l.length := by
    rw [← h.1]
    exact (List.getElem?_eq_some_iff.mp hv).1
  exact ⟨l[i], List.getElem?_eq_getElem hi, h.2 i v _ hv (List.getElem?_eq_getElem hi)⟩
theorem AllAt.at {α : Type} {R : V → α → Prop} {vs : List V} {l : List α} {i : Nat} {s : α} (h : AllAt R vs l) (hs : l[i]? = some s) : ∃ v, vs[i]? = some v ∧ R v s := by
  have hi : i < vs.length := by
    rw [h.1]
    exact (List.getElem?_eq_some_iff.mp hs).1
  exact ⟨vs[i], List.getElem?_eq_getElem hi, h.2 i _ s (List.getElem?_eq_getElem hi) hs⟩
theorem wipe_two (σ : L2.St) {i j : Nat} (h : i ≠ j) (u v : Option V) : wipe (((wipe σ [i, j]).set i u).set j v) [i, j] = wipe σ [i, j] := by
  show ((((((σ.set j none).set i none).set i u).set j v).set j none).set i none) = (σ.set j none).set i none
  apply List.ext_getElem?
  intro n
  simp only [List.getElem?_set, List.foldl_cons, List.foldl_nil, List.foldr_cons, List.foldr_nil, List.length_set]
  by_cases h1 : i = n <;> by_cases h2 : j = n <;> simp [h1, h2]
/-- [g x y for x, y in zip(l, m)], of one length -/
theorem x_lcZ {K : PySem.W.Frag} {a b : Addr} {i j : Nat} {tA : TA} {te : TE} {σ : L2.St} {H : Hp} {Q : VK} {l m : List Int} (hij : i ≠ j) (g : Int → Int → V) (htA : ∀ q : List V → Hp → Prop, q [.ref a, .ref b] H → tA σ H q) (ha : SqL K H a (l.map V.int)) (hb : SqL K H b (m.map V.int)) (hlen : l.length = m.length) (hz : l.length ≤ 1000000)
    (he : ∀ x y : Int, ∀ H1, Ex H H1 → ∀ q : VK, q (g x y) H1 → te (((wipe σ [i, j]).set i (some (.int x))).set j (some (.int y))) H1 q) (k : RetL H ((l.zip m).map fun z => g z.1 z.2) Q) :
    tLc (iZip K tA) (gTup K 2 (gCons (gName i) (gCons (gName j) gNil))) tYes te [i, j] σ H Q := by
  refine x_lc (htA _ ⟨a, b, _, _, rfl, ha, hb, fun D hD => ?_⟩)
  refine lc_it (walk_zip (K := K) (a := a) (b := b) (xs := l.map V.int) (ys := m.map V.int) (n := l.length) (by rw [List.length_map, List.length_map]; omega)) (fun j H' => Ex H H' ∧ H' D = some (.lst (((l.zip m).take j).map fun z => g z.1 z.2))) ⟨Ex.new hD, upd_same⟩ (fun j H' _ h => ⟨h.1.l ha, h.1.l hb⟩) ?_ ?_
  · rintro n v H1 H' hn ⟨e, hd⟩ ⟨T, x, y, rfl, hT, rfl, hx, hy⟩
    dsimp only at hx hy
    obtain ⟨x, hx1, rfl⟩ := map_get hx
    obtain ⟨y, hy1, rfl⟩ := map_get hy
    refine ⟨T, _, rfl, Or.inl (Or.inl upd_same), rfl, _, _, rfl, x_name ⟨_, _, rfl, x_name ⟨rfl, wipe_two σ hij _ _, x_yes (x_iteT rfl ?_)⟩⟩⟩
    have hDT : D ≠ T := ne_of_none hd hT
    have hzz : (l.zip m)[n]? = some (x, y) := by
      rw [List.getElem?_zip_eq_some]
      exact ⟨hx1, hy1⟩
    refine he x y _ (e.add hT) _ ⟨_, (upd_ne hDT).trans hd, sz_lt (by rw [List.length_map, List.length_take]; omega), (e.add hT).mut hD, ?_⟩
    rw [take_more hzz, List.map_append]
    exact upd_same
  · rintro H' ⟨e, hd⟩
    rw [List.take_of_length_le (by rw [List.length_zip]; omega)] at hd
    exact k H' D e hD hd
end RR
/-! part Defs -/
/-! The defs of the text by their places (printed by gen.py). -/
namespace RR
open PySem PySem.Spec PyProof.Rows L2
/-- the i-th statement of the text -/
def top (i : Nat) : Stmt := PySem.Challenge.pw_runrelations_s01_answers.main.body.getD i (.Pass ⟨0, 0, 0, 0⟩)
abbrev s_turned_on : Stmt := top 4
abbrev N_turned_on : List Str := ["row", "many", "first"]
theorem sc_turned_on : FnScope N_turned_on ["row", "many"] (defScope s_turned_on) := ⟨rfl, rfl, rfl, by decide +kernel, rfl, by decide +kernel, by decide +kernel⟩
abbrev s_once_each : Stmt := top 5
abbrev N_once_each : List Str := ["row", "found", "number"]
theorem sc_once_each : FnScope N_once_each ["row"] (defScope s_once_each) := ⟨rfl, rfl, rfl, by decide +kernel, rfl, by decide +kernel, by decide +kernel⟩
abbrev s_differences : Stmt := top 6
abbrev N_differences : List Str := ["row", "at"]
theorem sc_differences : FnScope N_differences ["row"] (defScope s_differences) := ⟨rfl, rfl, rfl, by decide +kernel, rfl, by decide +kernel, by decide +kernel⟩
abbrev s_running_sums : Stmt := top 7
abbrev N_running_sums : List Str := ["row", "found", "total", "number"]
theorem sc_running_sums : FnScope N_running_sums ["row"] (defScope s_running_sums) := ⟨rfl, rfl, rfl, by decide +kernel, rfl, by decide +kernel, by decide +kernel⟩
abbrev s_by_number : Stmt := top 8
abbrev N_by_number : List Str := ["kind", "number", "row", "one"]
theorem sc_by_number : FnScope N_by_number ["kind", "number", "row"] (defScope s_by_number) := ⟨rfl, rfl, rfl, by decide +kernel, rfl, by decide +kernel, by decide +kernel⟩
abbrev s_by_itself : Stmt := top 9
abbrev N_by_itself : List Str := ["kind", "row", "one"]
theorem sc_by_itself : FnScope N_by_itself ["kind", "row"] (defScope s_by_itself) := ⟨rfl, rfl, rfl, by decide +kernel, rfl, by decide +kernel, by decide +kernel⟩
abbrev s_stepped : Stmt := top 10
abbrev N_stepped : List Str := ["step", "row", "found", "one"]
theorem sc_stepped : FnScope N_stepped ["step", "row"] (defScope s_stepped) := ⟨rfl, rfl, rfl, by decide +kernel, rfl, by decide +kernel, by decide +kernel⟩
abbrev s_run_on : Stmt := top 11
abbrev N_run_on : List Str := ["program", "row", "found", "step"]
theorem sc_run_on : FnScope N_run_on ["program", "row"] (defScope s_run_on) := ⟨rfl, rfl, rfl, by decide +kernel, rfl, by decide +kernel, by decide +kernel⟩
abbrev s_rows_on : Stmt := top 12
abbrev N_rows_on : List Str := ["program", "row", "found", "step"]
theorem sc_rows_on : FnScope N_rows_on ["program", "row"] (defScope s_rows_on) := ⟨rfl, rfl, rfl, by decide +kernel, rfl, by decide +kernel, by decide +kernel⟩
abbrev s_is_so : Stmt := top 17
abbrev N_is_so : List Str := ["condition", "row", "kind", "at", "one"]
theorem sc_is_so : FnScope N_is_so ["condition", "row"] (defScope s_is_so) := ⟨rfl, rfl, rfl, by decide +kernel, rfl, by decide +kernel, by decide +kernel⟩
abbrev s_stands : Stmt := top 18
abbrev N_stands : List Str := ["stand", "one", "other", "left", "right", "number"]
theorem sc_stands : FnScope N_stands ["stand", "one", "other"] (defScope s_stands) := ⟨rfl, rfl, rfl, by decide +kernel, rfl, by decide +kernel, by decide +kernel⟩
abbrev s_sides_at : Stmt := top 19
abbrev N_sides_at : List Str := ["program", "relation", "row", "condition", "turning", "stand", "behind", "right"]
theorem sc_sides_at : FnScope N_sides_at ["program", "relation", "row"] (defScope s_sides_at) := ⟨rfl, rfl, rfl, by decide +kernel, rfl, by decide +kernel, by decide +kernel⟩
abbrev s_verdict_of : Stmt := top 20
abbrev N_verdict_of : List Str := ["relation", "sides"]
theorem sc_verdict_of : FnScope N_verdict_of ["relation", "sides"] (defScope s_verdict_of) := ⟨rfl, rfl, rfl, by decide +kernel, rfl, by decide +kernel, by decide +kernel⟩
abbrev s_many_inputs : Stmt := top 21
abbrev N_many_inputs : List Str := ["bound", "length", "low", "high", "found", "own", "size"]
theorem sc_many_inputs : FnScope N_many_inputs ["bound"] (defScope s_many_inputs) := ⟨rfl, rfl, rfl, by decide +kernel, rfl, by decide +kernel, by decide +kernel⟩
abbrev s_input_of : Stmt := top 22
abbrev N_input_of : List Str := ["bound", "number", "length", "low", "high", "many", "size", "own", "left", "found", "place"]
theorem sc_input_of : FnScope N_input_of ["bound", "number"] (defScope s_input_of) := ⟨rfl, rfl, rfl, by decide +kernel, rfl, by decide +kernel, by decide +kernel⟩
abbrev s_Fault___init__ : Stmt := inClass (top 33) 0
abbrev N_Fault___init__ : List Str := ["self", "kind", "place"]
theorem sc_Fault___init__ : FnScope N_Fault___init__ ["self", "kind", "place"] (defScope s_Fault___init__) := ⟨rfl, rfl, rfl, by decide +kernel, rfl, by decide +kernel, by decide +kernel⟩
abbrev s_Token___init__ : Stmt := inClass (top 34) 0
abbrev N_Token___init__ : List Str := ["self", "kind", "word", "number", "place"]
theorem sc_Token___init__ : FnScope N_Token___init__ ["self", "kind", "word", "number", "place"] (defScope s_Token___init__) := ⟨rfl, rfl, rfl, by decide +kernel, rfl, by decide +kernel, by decide +kernel⟩
abbrev s_is_letter : Stmt := top 35
abbrev N_is_letter : List Str := ["code"]
theorem sc_is_letter : FnScope N_is_letter ["code"] (defScope s_is_letter) := ⟨rfl, rfl, rfl, by decide +kernel, rfl, by decide +kernel, by decide +kernel⟩
abbrev s_is_digit : Stmt := top 36
abbrev N_is_digit : List Str := ["code"]
theorem sc_is_digit : FnScope N_is_digit ["code"] (defScope s_is_digit) := ⟨rfl, rfl, rfl, by decide +kernel, rfl, by decide +kernel, by decide +kernel⟩
abbrev s_word_at : Stmt := top 37
abbrev N_word_at : List Str := ["data", "at", "end", "word", "place"]
theorem sc_word_at : FnScope N_word_at ["data", "at"] (defScope s_word_at) := ⟨rfl, rfl, rfl, by decide +kernel, rfl, by decide +kernel, by decide +kernel⟩
abbrev s_number_at : Stmt := top 38
abbrev N_number_at : List Str := ["data", "at", "end", "found", "place"]
theorem sc_number_at : FnScope N_number_at ["data", "at"] (defScope s_number_at) := ⟨rfl, rfl, rfl, by decide +kernel, rfl, by decide +kernel, by decide +kernel⟩
abbrev s_token_at : Stmt := top 39
abbrev N_token_at : List Str := ["data", "at"]
theorem sc_token_at : FnScope N_token_at ["data", "at"] (defScope s_token_at) := ⟨rfl, rfl, rfl, by decide +kernel, rfl, by decide +kernel, by decide +kernel⟩
abbrev s_tokens_of : Stmt := top 40
abbrev N_tokens_of : List Str := ["data", "found", "at", "token"]
theorem sc_tokens_of : FnScope N_tokens_of ["data"] (defScope s_tokens_of) := ⟨rfl, rfl, rfl, by decide +kernel, rfl, by decide +kernel, by decide +kernel⟩
abbrev s_Reader___init__ : Stmt := inClass (top 50) 0
abbrev N_Reader___init__ : List Str := ["self", "data"]
theorem sc_Reader___init__ : FnScope N_Reader___init__ ["self", "data"] (defScope s_Reader___init__) := ⟨rfl, rfl, rfl, by decide +kernel, rfl, by decide +kernel, by decide +kernel⟩
abbrev s_Reader_token : Stmt := inClass (top 50) 1
abbrev N_Reader_token : List Str := ["self"]
theorem sc_Reader_token : FnScope N_Reader_token ["self"] (defScope s_Reader_token) := ⟨rfl, rfl, rfl, by decide +kernel, rfl, by decide +kernel, by decide +kernel⟩
abbrev s_Reader_step : Stmt := inClass (top 50) 2
abbrev N_Reader_step : List Str := ["self"]
theorem sc_Reader_step : FnScope N_Reader_step ["self"] (defScope s_Reader_step) := ⟨rfl, rfl, rfl, by decide +kernel, rfl, by decide +kernel, by decide +kernel⟩
abbrev s_Reader_refuse : Stmt := inClass (top 50) 3
abbrev N_Reader_refuse : List Str := ["self", "kind"]
theorem sc_Reader_refuse : FnScope N_Reader_refuse ["self", "kind"] (defScope s_Reader_refuse) := ⟨rfl, rfl, rfl, by decide +kernel, rfl, by decide +kernel, by decide +kernel⟩
abbrev s_Reader_is_sign : Stmt := inClass (top 50) 4
abbrev N_Reader_is_sign : List Str := ["self", "sign"]
theorem sc_Reader_is_sign : FnScope N_Reader_is_sign ["self", "sign"] (defScope s_Reader_is_sign) := ⟨rfl, rfl, rfl, by decide +kernel, rfl, by decide +kernel, by decide +kernel⟩
abbrev s_Reader_take_sign : Stmt := inClass (top 50) 5
abbrev N_Reader_take_sign : List Str := ["self", "sign"]
theorem sc_Reader_take_sign : FnScope N_Reader_take_sign ["self", "sign"] (defScope s_Reader_take_sign) := ⟨rfl, rfl, rfl, by decide +kernel, rfl, by decide +kernel, by decide +kernel⟩
abbrev s_Reader_take_word : Stmt := inClass (top 50) 6
abbrev N_Reader_take_word : List Str := ["self", "words"]
theorem sc_Reader_take_word : FnScope N_Reader_take_word ["self", "words"] (defScope s_Reader_take_word) := ⟨rfl, rfl, rfl, by decide +kernel, rfl, by decide +kernel, by decide +kernel⟩
abbrev s_Reader_take_number : Stmt := inClass (top 50) 7
abbrev N_Reader_take_number : List Str := ["self", "least", "most"]
theorem sc_Reader_take_number : FnScope N_Reader_take_number ["self", "least", "most"] (defScope s_Reader_take_number) := ⟨rfl, rfl, rfl, by decide +kernel, rfl, by decide +kernel, by decide +kernel⟩
abbrev s_Reader_take_signed : Stmt := inClass (top 50) 8
abbrev N_Reader_take_signed : List Str := ["self", "place", "number"]
theorem sc_Reader_take_signed : FnScope N_Reader_take_signed ["self"] (defScope s_Reader_take_signed) := ⟨rfl, rfl, rfl, by decide +kernel, rfl, by decide +kernel, by decide +kernel⟩
abbrev s_Reader_take_step : Stmt := inClass (top 50) 9
abbrev N_Reader_take_step : List Str := ["self", "number", "word"]
theorem sc_Reader_take_step : FnScope N_Reader_take_step ["self"] (defScope s_Reader_take_step) := ⟨rfl, rfl, rfl, by decide +kernel, rfl, by decide +kernel, by decide +kernel⟩
abbrev s_Reader_take_steps : Stmt := inClass (top 50) 10
abbrev N_Reader_take_steps : List Str := ["self", "found"]
theorem sc_Reader_take_steps : FnScope N_Reader_take_steps ["self"] (defScope s_Reader_take_steps) := ⟨rfl, rfl, rfl, by decide +kernel, rfl, by decide +kernel, by decide +kernel⟩
abbrev s_Reader_take_condition : Stmt := inClass (top 50) 11
abbrev N_Reader_take_condition : List Str := ["self", "number"]
theorem sc_Reader_take_condition : FnScope N_Reader_take_condition ["self"] (defScope s_Reader_take_condition) := ⟨rfl, rfl, rfl, by decide +kernel, rfl, by decide +kernel, by decide +kernel⟩
abbrev s_Reader_take_relation : Stmt := inClass (top 50) 12
abbrev N_Reader_take_relation : List Str := ["self", "condition", "turning", "stand", "found"]
theorem sc_Reader_take_relation : FnScope N_Reader_take_relation ["self"] (defScope s_Reader_take_relation) := ⟨rfl, rfl, rfl, by decide +kernel, rfl, by decide +kernel, by decide +kernel⟩
abbrev s_Reader_take_text : Stmt := inClass (top 50) 13
abbrev N_Reader_take_text : List Str := ["self", "program", "relations"]
theorem sc_Reader_take_text : FnScope N_Reader_take_text ["self"] (defScope s_Reader_take_text) := ⟨rfl, rfl, rfl, by decide +kernel, rfl, by decide +kernel, by decide +kernel⟩
abbrev s_read_text : Stmt := top 51
abbrev N_read_text : List Str := ["data"]
theorem sc_read_text : FnScope N_read_text ["data"] (defScope s_read_text) := ⟨rfl, rfl, rfl, by decide +kernel, rfl, by decide +kernel, by decide +kernel⟩
abbrev s_worded : Stmt := top 52
abbrev N_worded : List Str := ["words", "numbers", "number"]
theorem sc_worded : FnScope N_worded ["words", "numbers"] (defScope s_worded) := ⟨rfl, rfl, rfl, by decide +kernel, rfl, by decide +kernel, by decide +kernel⟩
abbrev s_steps_words : Stmt := top 53
abbrev N_steps_words : List Str := ["steps", "found", "step"]
theorem sc_steps_words : FnScope N_steps_words ["steps"] (defScope s_steps_words) := ⟨rfl, rfl, rfl, by decide +kernel, rfl, by decide +kernel, by decide +kernel⟩
abbrev s_text_rows : Stmt := top 54
abbrev N_text_rows : List Str := ["text", "program", "relations", "found", "condition", "turning", "stand", "behind", "words"]
theorem sc_text_rows : FnScope N_text_rows ["text"] (defScope s_text_rows) := ⟨rfl, rfl, rfl, by decide +kernel, rfl, by decide +kernel, by decide +kernel⟩
abbrev s_code_of : Stmt := top 55
abbrev N_code_of : List Str := ["sign"]
theorem sc_code_of : FnScope N_code_of ["sign"] (defScope s_code_of) := ⟨rfl, rfl, rfl, by decide +kernel, rfl, by decide +kernel, by decide +kernel⟩
abbrev s_text_bytes : Stmt := top 56
abbrev N_text_bytes : List Str := ["text", "found", "row", "sign"]
theorem sc_text_bytes : FnScope N_text_bytes ["text"] (defScope s_text_bytes) := ⟨rfl, rfl, rfl, by decide +kernel, rfl, by decide +kernel, by decide +kernel⟩
abbrev s_Refused___init__ : Stmt := inClass (top 63) 0
abbrev N_Refused___init__ : List Str := ["self", "code"]
theorem sc_Refused___init__ : FnScope N_Refused___init__ ["self", "code"] (defScope s_Refused___init__) := ⟨rfl, rfl, rfl, by decide +kernel, rfl, by decide +kernel, by decide +kernel⟩
abbrev s_Keeper___init__ : Stmt := inClass (top 64) 0
abbrev N_Keeper___init__ : List Str := ["self"]
theorem sc_Keeper___init__ : FnScope N_Keeper___init__ ["self"] (defScope s_Keeper___init__) := ⟨rfl, rfl, rfl, by decide +kernel, rfl, by decide +kernel, by decide +kernel⟩
abbrev s_Keeper_hold_text : Stmt := inClass (top 64) 1
abbrev N_Keeper_hold_text : List Str := ["self", "text"]
theorem sc_Keeper_hold_text : FnScope N_Keeper_hold_text ["self", "text"] (defScope s_Keeper_hold_text) := ⟨rfl, rfl, rfl, by decide +kernel, rfl, by decide +kernel, by decide +kernel⟩
abbrev s_Keeper_hold_bound : Stmt := inClass (top 64) 2
abbrev N_Keeper_hold_bound : List Str := ["self", "bound"]
theorem sc_Keeper_hold_bound : FnScope N_Keeper_hold_bound ["self", "bound"] (defScope s_Keeper_hold_bound) := ⟨rfl, rfl, rfl, by decide +kernel, rfl, by decide +kernel, by decide +kernel⟩
abbrev s_require : Stmt := top 65
abbrev N_require : List Str := ["is_right", "code"]
theorem sc_require : FnScope N_require ["is_right", "code"] (defScope s_require) := ⟨rfl, rfl, rfl, by decide +kernel, rfl, by decide +kernel, by decide +kernel⟩
abbrev s_require_text : Stmt := top 66
abbrev N_require_text : List Str := ["keeper"]
theorem sc_require_text : FnScope N_require_text ["keeper"] (defScope s_require_text) := ⟨rfl, rfl, rfl, by decide +kernel, rfl, by decide +kernel, by decide +kernel⟩
abbrev s_relation_of : Stmt := top 67
abbrev N_relation_of : List Str := ["keeper", "number"]
theorem sc_relation_of : FnScope N_relation_of ["keeper", "number"] (defScope s_relation_of) := ⟨rfl, rfl, rfl, by decide +kernel, rfl, by decide +kernel, by decide +kernel⟩
abbrev s_row_of : Stmt := top 68
abbrev N_row_of : List Str := ["told", "one"]
theorem sc_row_of : FnScope N_row_of ["told"] (defScope s_row_of) := ⟨rfl, rfl, rfl, by decide +kernel, rfl, by decide +kernel, by decide +kernel⟩
abbrev s_as_numbers : Stmt := top 69
abbrev N_as_numbers : List Str := ["row"]
theorem sc_as_numbers : FnScope N_as_numbers ["row"] (defScope s_as_numbers) := ⟨rfl, rfl, rfl, by decide +kernel, rfl, by decide +kernel, by decide +kernel⟩
abbrev s_steps_numbers : Stmt := top 70
abbrev N_steps_numbers : List Str := ["steps", "found", "step"]
theorem sc_steps_numbers : FnScope N_steps_numbers ["steps"] (defScope s_steps_numbers) := ⟨rfl, rfl, rfl, by decide +kernel, rfl, by decide +kernel, by decide +kernel⟩
abbrev s_outcome : Stmt := top 71
abbrev N_outcome : List Str := ["program", "row"]
theorem sc_outcome : FnScope N_outcome ["program", "row"] (defScope s_outcome) := ⟨rfl, rfl, rfl, by decide +kernel, rfl, by decide +kernel, by decide +kernel⟩
abbrev s_sides_numbers : Stmt := top 72
abbrev N_sides_numbers : List Str := ["sides"]
theorem sc_sides_numbers : FnScope N_sides_numbers ["sides"] (defScope s_sides_numbers) := ⟨rfl, rfl, rfl, by decide +kernel, rfl, by decide +kernel, by decide +kernel⟩
abbrev s_load : Stmt := top 73
abbrev N_load : List Str := ["keeper", "numbers", "rows", "text", "e"]
theorem sc_load : FnScope N_load ["keeper", "numbers", "rows"] (defScope s_load) := ⟨rfl, rfl, rfl, by decide +kernel, rfl, by decide +kernel, by decide +kernel⟩
abbrev s_shown : Stmt := top 74
abbrev N_shown : List Str := ["keeper", "numbers", "rows"]
theorem sc_shown : FnScope N_shown ["keeper", "numbers", "rows"] (defScope s_shown) := ⟨rfl, rfl, rfl, by decide +kernel, rfl, by decide +kernel, by decide +kernel⟩
abbrev s_told : Stmt := top 75
abbrev N_told : List Str := ["keeper", "numbers", "rows", "found", "condition", "turning", "stand", "behind"]
theorem sc_told : FnScope N_told ["keeper", "numbers", "rows"] (defScope s_told) := ⟨rfl, rfl, rfl, by decide +kernel, rfl, by decide +kernel, by decide +kernel⟩
abbrev s_run : Stmt := top 76
abbrev N_run : List Str := ["keeper", "numbers", "rows"]
theorem sc_run : FnScope N_run ["keeper", "numbers", "rows"] (defScope s_run) := ⟨rfl, rfl, rfl, by decide +kernel, rfl, by decide +kernel, by decide +kernel⟩
abbrev s_all_rows : Stmt := top 77
abbrev N_all_rows : List Str := ["keeper", "numbers", "rows", "some", "found", "row"]
theorem sc_all_rows : FnScope N_all_rows ["keeper", "numbers", "rows"] (defScope s_all_rows) := ⟨rfl, rfl, rfl, by decide +kernel, rfl, by decide +kernel, by decide +kernel⟩
abbrev s_turned : Stmt := top 78
abbrev N_turned : List Str := ["keeper", "numbers", "rows", "relation"]
theorem sc_turned : FnScope N_turned ["keeper", "numbers", "rows"] (defScope s_turned) := ⟨rfl, rfl, rfl, by decide +kernel, rfl, by decide +kernel, by decide +kernel⟩
abbrev s_sides : Stmt := top 79
abbrev N_sides : List Str := ["keeper", "numbers", "rows", "relation"]
theorem sc_sides : FnScope N_sides ["keeper", "numbers", "rows"] (defScope s_sides) := ⟨rfl, rfl, rfl, by decide +kernel, rfl, by decide +kernel, by decide +kernel⟩
abbrev s_verdict : Stmt := top 80
abbrev N_verdict : List Str := ["keeper", "numbers", "rows", "relation"]
theorem sc_verdict : FnScope N_verdict ["keeper", "numbers", "rows"] (defScope s_verdict) := ⟨rfl, rfl, rfl, by decide +kernel, rfl, by decide +kernel, by decide +kernel⟩
abbrev s_bound : Stmt := top 81
abbrev N_bound : List Str := ["keeper", "numbers", "rows", "length", "low", "high", "many"]
theorem sc_bound : FnScope N_bound ["keeper", "numbers", "rows"] (defScope s_bound) := ⟨rfl, rfl, rfl, by decide +kernel, rfl, by decide +kernel, by decide +kernel⟩
abbrev s_numbered : Stmt := top 82
abbrev N_numbered : List Str := ["keeper", "number"]
theorem sc_numbered : FnScope N_numbered ["keeper", "number"] (defScope s_numbered) := ⟨rfl, rfl, rfl, by decide +kernel, rfl, by decide +kernel, by decide +kernel⟩
abbrev s_one_input : Stmt := top 83
abbrev N_one_input : List Str := ["keeper", "numbers", "rows"]
theorem sc_one_input : FnScope N_one_input ["keeper", "numbers", "rows"] (defScope s_one_input) := ⟨rfl, rfl, rfl, by decide +kernel, rfl, by decide +kernel, by decide +kernel⟩
abbrev s_at_input : Stmt := top 84
abbrev N_at_input : List Str := ["keeper", "numbers", "rows", "relation", "found"]
theorem sc_at_input : FnScope N_at_input ["keeper", "numbers", "rows"] (defScope s_at_input) := ⟨rfl, rfl, rfl, by decide +kernel, rfl, by decide +kernel, by decide +kernel⟩
abbrev s_answer_to : Stmt := top 86
abbrev N_answer_to : List Str := ["keeper", "number", "numbers", "rows", "deed", "e"]
theorem sc_answer_to : FnScope N_answer_to ["keeper", "number", "numbers", "rows"] (defScope s_answer_to) := ⟨rfl, rfl, rfl, by decide +kernel, rfl, by decide +kernel, by decide +kernel⟩
abbrev s_answers : Stmt := top 87
abbrev N_answers : List Str := ["calls", "keeper", "found", "at", "number", "whole", "many", "numbers", "rows", "answer"]
theorem sc_answers : FnScope N_answers ["calls"] (defScope s_answers) := ⟨rfl, rfl, rfl, by decide +kernel, rfl, by decide +kernel, by decide +kernel⟩
/-- what the top has written -/
structure Txt (K : PySem.W.Frag) (mg : Str → Option Value) : Prop where
  bi_len : mg "len" = none
  bi_set : mg "set" = none
  bi_abs : mg "abs" = none
  bi_sum : mg "sum" = none
  bi_max : mg "max" = none
  bi_min : mg "min" = none
  bi_sorted : mg "sorted" = none
  bi_any : mg "any" = none
  bi_all : mg "all" = none
  bi_list : mg "list" = none
  bi_tuple : mg "tuple" = none
  bi_str : mg "str" = none
  bi_range : mg "range" = none
  bi_zip : mg "zip" = none
  k_MOST_NUMBERS : ∃ u, mg "MOST_NUMBERS" = some u ∧ RelV (V.int 40) u
  k_FARTHEST_running : ∃ u, mg "FARTHEST_running" = some u ∧ RelV (V.int 1000000) u
  k_KEPT : ∃ u, mg "KEPT" = some u ∧ RelV (V.int 0) u
  k_BROKEN : ∃ u, mg "BROKEN" = some u ∧ RelV (V.int 1) u
  k_OFF : ∃ u, mg "OFF" = some u ∧ RelV (V.int 2) u
  k_LETTERS : ∃ u, mg "LETTERS" = some u ∧ RelV (V.str "abcdefghijklmnopqrstuvwxyz") u
  k_SIGNS : ∃ u, mg "SIGNS" = some u ∧ RelV (V.ref (He.ga K "SIGNS")) u
  q_SIGNS : KDi K (He.ga K "SIGNS") [(40, V.str "("), (41, V.str ")"), (59, V.str ";"), (45, V.str "-")]
  k_BLANKS : ∃ u, mg "BLANKS" = some u ∧ RelV (V.ref (He.ga K "BLANKS")) u
  q_BLANKS : ∀ H, SqT K H (He.ga K "BLANKS") [V.int 32, V.int 10]
  y_BLANKS : ∀ H, TyU K (V.ref (He.ga K "BLANKS")) H
  k_LONGEST_WORD : ∃ u, mg "LONGEST_WORD" = some u ∧ RelV (V.int 8) u
  k_MOST_DIGITS : ∃ u, mg "MOST_DIGITS" = some u ∧ RelV (V.int 2) u
  k_WORD : ∃ u, mg "WORD" = some u ∧ RelV (V.int 0) u
  k_NUMBER : ∃ u, mg "NUMBER" = some u ∧ RelV (V.int 1) u
  k_SIGN : ∃ u, mg "SIGN" = some u ∧ RelV (V.int 2) u
  k_END : ∃ u, mg "END" = some u ∧ RelV (V.int 3) u
  k_STEPS : ∃ u, mg "STEPS" = some u ∧ RelV (V.ref (He.ga K "STEPS")) u
  q_STEPS : ∀ H, SqT K H (He.ga K "STEPS") [V.str "add", V.str "times", V.str "rest", V.str "abs", V.str "sort", V.str "reverse", V.str "rotate", V.str "take", V.str "drop", V.str "above", V.str "once", V.str "sum", V.str "greatest", V.str "least", V.str "count", V.str "steps", V.str "sums", V.str "twice"]
  y_STEPS : ∀ H, TyU K (V.ref (He.ga K "STEPS")) H
  k_SIGNED : ∃ u, mg "SIGNED" = some u ∧ RelV (V.ref (He.ga K "SIGNED")) u
  q_SIGNED : ∀ H, SqT K H (He.ga K "SIGNED") [V.str "add", V.str "times", V.str "above"]
  y_SIGNED : ∀ H, TyU K (V.ref (He.ga K "SIGNED")) H
  k_COUNTED : ∃ u, mg "COUNTED" = some u ∧ RelV (V.ref (He.ga K "COUNTED")) u
  q_COUNTED : ∀ H, SqT K H (He.ga K "COUNTED") [V.str "rotate", V.str "take", V.str "drop"]
  y_COUNTED : ∀ H, TyU K (V.ref (He.ga K "COUNTED")) H
  k_CONDITIONS : ∃ u, mg "CONDITIONS" = some u ∧ RelV (V.ref (He.ga K "CONDITIONS")) u
  q_CONDITIONS : ∀ H, SqT K H (He.ga K "CONDITIONS") [V.str "any", V.str "some", V.str "rising", V.str "plus", V.str "unlike", V.str "atleast"]
  y_CONDITIONS : ∀ H, TyU K (V.ref (He.ga K "CONDITIONS")) H
  k_STANDS : ∃ u, mg "STANDS" = some u ∧ RelV (V.ref (He.ga K "STANDS")) u
  q_STANDS : ∀ H, SqT K H (He.ga K "STANDS") [V.str "equal", V.str "bag", V.str "numbers", V.str "most", V.str "least", V.str "begins", V.str "long"]
  y_STANDS : ∀ H, TyU K (V.ref (He.ga K "STANDS")) H
  k_MOST_STEPS : ∃ u, mg "MOST_STEPS" = some u ∧ RelV (V.int 8) u
  k_MOST_RELATIONS : ∃ u, mg "MOST_RELATIONS" = some u ∧ RelV (V.int 12) u
  k_MOST_COUNT : ∃ u, mg "MOST_COUNT" = some u ∧ RelV (V.int 9) u
  k_MOST_BYTES : ∃ u, mg "MOST_BYTES" = some u ∧ RelV (V.int 1500) u
  k_MOST_INPUTS : ∃ u, mg "MOST_INPUTS" = some u ∧ RelV (V.int 1500) u
  k_LONGEST : ∃ u, mg "LONGEST" = some u ∧ RelV (V.int 8) u
  k_FARTHEST_relations : ∃ u, mg "FARTHEST_relations" = some u ∧ RelV (V.int 99) u
  k_SHAPES : ∃ u, mg "SHAPES" = some u ∧ RelV (V.ref (He.ga K "SHAPES")) u
  q_SHAPES : ∃ ps : List Addr, (∀ H, SqT K H (He.ga K "SHAPES") (ps.map V.ref)) ∧ ∀ H, Paired (fun (p : Addr) (q : Int × Int) => SqT K H p [V.int q.1, V.int q.2]) ps [(0, 1), (0, 0), (0, 0), (0, 1), (0, 1), (1, 1), (1, 1), (1, 1), (3, 0), (1, 0), (2, 0)]
  k_DEEDS : ∃ u, mg "DEEDS" = some u ∧ RelV (V.ref (He.ga K "DEEDS")) u
  q_DEEDS : ∀ H, SqT K H (He.ga K "DEEDS") [V.ref (He.ga K "load"), V.ref (He.ga K "shown"), V.ref (He.ga K "told"), V.ref (He.ga K "run"), V.ref (He.ga K "all_rows"), V.ref (He.ga K "turned"), V.ref (He.ga K "sides"), V.ref (He.ga K "verdict"), V.ref (He.ga K "bound"), V.ref (He.ga K "one_input"), V.ref (He.ga K "at_input")]
  cl_Token : Cls K (He.ga K "Token")
  na_Token_kind : NoAttr K (He.ga K "Token") "kind"
  na_Token_word : NoAttr K (He.ga K "Token") "word"
  na_Token_number : NoAttr K (He.ga K "Token") "number"
  na_Token_place : NoAttr K (He.ga K "Token") "place"
  cl_Reader : Cls K (He.ga K "Reader")
  na_Reader_tokens : NoAttr K (He.ga K "Reader") "tokens"
  na_Reader_at : NoAttr K (He.ga K "Reader") "at"
  cl_Keeper : Cls K (He.ga K "Keeper")
  na_Keeper_text : NoAttr K (He.ga K "Keeper") "text"
  na_Keeper_bound : NoAttr K (He.ga K "Keeper") "bound"
  ox_Fault : OexC K (He.ga K "Fault")
  xf_Fault : XfC K (He.ga K "Fault")
  g_Fault : mg "Fault" = some (.ref (He.ga K "Fault"))
  em_Fault : PySem.W.exmOne K (.ref (He.ga K "Fault")) (.ref (He.ga K "Fault")) = some true
  na_Fault_kind : PySem.W.findIn K (.ref (He.ga K "Fault")) "kind" = some none
  na_Fault_place : PySem.W.findIn K (.ref (He.ga K "Fault")) "place" = some none
  ox_Refused : OexC K (He.ga K "Refused")
  xf_Refused : XfC K (He.ga K "Refused")
  g_Refused : mg "Refused" = some (.ref (He.ga K "Refused"))
  em_Refused : PySem.W.exmOne K (.ref (He.ga K "Refused")) (.ref (He.ga K "Refused")) = some true
  na_Refused_code : PySem.W.findIn K (.ref (He.ga K "Refused")) "code" = some none
  xB : PySem.W.excIn K (He.ga K "Beyond") [.type "ValueError", .type "Exception", .type "BaseException", .type "object"] "ValueError.__new__" = true
  gB : mg "Beyond" = some (.ref (He.ga K "Beyond"))
  kB : PySem.W.keepIn K (.ref (He.ga K "Beyond")) = true
  bB : PySem.W.subIn K (.ref (He.ga K "Beyond")) (.type "BaseException") = some true
  tB : PySem.W.typeIn K (.ref (He.ga K "Beyond")) = some (.type "type")
  em_Beyond : PySem.W.exmOne K (.ref (He.ga K "Beyond")) (.ref (He.ga K "Beyond")) = some true
  em_Beyond_Refused : PySem.W.exmOne K (.ref (He.ga K "Beyond")) (.ref (He.ga K "Refused")) = some false
  gd_load : mg "load" = some (.ref (He.ga K "load"))
  gd_shown : mg "shown" = some (.ref (He.ga K "shown"))
  gd_told : mg "told" = some (.ref (He.ga K "told"))
  gd_run : mg "run" = some (.ref (He.ga K "run"))
  gd_all_rows : mg "all_rows" = some (.ref (He.ga K "all_rows"))
  gd_turned : mg "turned" = some (.ref (He.ga K "turned"))
  gd_sides : mg "sides" = some (.ref (He.ga K "sides"))
  gd_verdict : mg "verdict" = some (.ref (He.ga K "verdict"))
  gd_bound : mg "bound" = some (.ref (He.ga K "bound"))
  gd_one_input : mg "one_input" = some (.ref (He.ga K "one_input"))
  gd_at_input : mg "at_input" = some (.ref (He.ga K "at_input"))
  d_turned_on : DefAt K mg "turned_on" s_turned_on ["row", "many"]
  d_once_each : DefAt K mg "once_each" s_once_each ["row"]
  d_differences : DefAt K mg "differences" s_differences ["row"]
  d_running_sums : DefAt K mg "running_sums" s_running_sums ["row"]
  d_by_number : DefAt K mg "by_number" s_by_number ["kind", "number", "row"]
  d_by_itself : DefAt K mg "by_itself" s_by_itself ["kind", "row"]
  d_stepped : DefAt K mg "stepped" s_stepped ["step", "row"]
  d_run_on : DefAt K mg "run_on" s_run_on ["program", "row"]
  d_rows_on : DefAt K mg "rows_on" s_rows_on ["program", "row"]
  d_is_so : DefAt K mg "is_so" s_is_so ["condition", "row"]
  d_stands : DefAt K mg "stands" s_stands ["stand", "one", "other"]
  d_sides_at : DefAt K mg "sides_at" s_sides_at ["program", "relation", "row"]
  d_verdict_of : DefAt K mg "verdict_of" s_verdict_of ["relation", "sides"]
  d_many_inputs : DefAt K mg "many_inputs" s_many_inputs ["bound"]
  d_input_of : DefAt K mg "input_of" s_input_of ["bound", "number"]
  d_Fault___init__ : IniE K mg "Fault" (He.ga K "Fault") "Fault.__init__" s_Fault___init__ ["self", "kind", "place"]
  d_Token___init__ : IniAt K mg "Token" (He.ga K "Token") "Token.__init__" s_Token___init__ ["self", "kind", "word", "number", "place"]
  d_is_letter : DefAt K mg "is_letter" s_is_letter ["code"]
  d_is_digit : DefAt K mg "is_digit" s_is_digit ["code"]
  d_word_at : DefAt K mg "word_at" s_word_at ["data", "at"]
  d_number_at : DefAt K mg "number_at" s_number_at ["data", "at"]
  d_token_at : DefAt K mg "token_at" s_token_at ["data", "at"]
  d_tokens_of : DefAt K mg "tokens_of" s_tokens_of ["data"]
  d_Reader___init__ : IniAt K mg "Reader" (He.ga K "Reader") "Reader.__init__" s_Reader___init__ ["self", "data"]
  d_Reader_token : MetAt K (He.ga K "Reader") "token" "Reader.token" s_Reader_token ["self"]
  d_Reader_step : MetAt K (He.ga K "Reader") "step" "Reader.step" s_Reader_step ["self"]
  d_Reader_refuse : MetAt K (He.ga K "Reader") "refuse" "Reader.refuse" s_Reader_refuse ["self", "kind"]
  d_Reader_is_sign : MetAt K (He.ga K "Reader") "is_sign" "Reader.is_sign" s_Reader_is_sign ["self", "sign"]
  d_Reader_take_sign : MetAt K (He.ga K "Reader") "take_sign" "Reader.take_sign" s_Reader_take_sign ["self", "sign"]
  d_Reader_take_word : MetAt K (He.ga K "Reader") "take_word" "Reader.take_word" s_Reader_take_word ["self", "words"]
  d_Reader_take_number : MetAt K (He.ga K "Reader") "take_number" "Reader.take_number" s_Reader_take_number ["self", "least", "most"]
  d_Reader_take_signed : MetAt K (He.ga K "Reader") "take_signed" "Reader.take_signed" s_Reader_take_signed ["self"]
  d_Reader_take_step : MetAt K (He.ga K "Reader") "take_step" "Reader.take_step" s_Reader_take_step ["self"]
  d_Reader_take_steps : MetAt K (He.ga K "Reader") "take_steps" "Reader.take_steps" s_Reader_take_steps ["self"]
  d_Reader_take_condition : MetAt K (He.ga K "Reader") "take_condition" "Reader.take_condition" s_Reader_take_condition ["self"]
  d_Reader_take_relation : MetAt K (He.ga K "Reader") "take_relation" "Reader.take_relation" s_Reader_take_relation ["self"]
  d_Reader_take_text : MetAt K (He.ga K "Reader") "take_text" "Reader.take_text" s_Reader_take_text ["self"]
  d_read_text : DefAt K mg "read_text" s_read_text ["data"]
  d_worded : DefAt K mg "worded" s_worded ["words", "numbers"]
  d_steps_words : DefAt K mg "steps_words" s_steps_words ["steps"]
  d_text_rows : DefAt K mg "text_rows" s_text_rows ["text"]
  d_code_of : DefAt K mg "code_of" s_code_of ["sign"]
  d_text_bytes : DefAt K mg "text_bytes" s_text_bytes ["text"]
  d_Refused___init__ : IniE K mg "Refused" (He.ga K "Refused") "Refused.__init__" s_Refused___init__ ["self", "code"]
  d_Keeper___init__ : IniAt K mg "Keeper" (He.ga K "Keeper") "Keeper.__init__" s_Keeper___init__ ["self"]
  d_Keeper_hold_text : MetAt K (He.ga K "Keeper") "hold_text" "Keeper.hold_text" s_Keeper_hold_text ["self", "text"]
  d_Keeper_hold_bound : MetAt K (He.ga K "Keeper") "hold_bound" "Keeper.hold_bound" s_Keeper_hold_bound ["self", "bound"]
  d_require : DefAt K mg "require" s_require ["is_right", "code"]
  d_require_text : DefAt K mg "require_text" s_require_text ["keeper"]
  d_relation_of : DefAt K mg "relation_of" s_relation_of ["keeper", "number"]
  d_row_of : DefAt K mg "row_of" s_row_of ["told"]
  d_as_numbers : DefAt K mg "as_numbers" s_as_numbers ["row"]
  d_steps_numbers : DefAt K mg "steps_numbers" s_steps_numbers ["steps"]
  d_outcome : DefAt K mg "outcome" s_outcome ["program", "row"]
  d_sides_numbers : DefAt K mg "sides_numbers" s_sides_numbers ["sides"]
  d_load : DefAt K mg "load" s_load ["keeper", "numbers", "rows"]
  d_shown : DefAt K mg "shown" s_shown ["keeper", "numbers", "rows"]
  d_told : DefAt K mg "told" s_told ["keeper", "numbers", "rows"]
  d_run : DefAt K mg "run" s_run ["keeper", "numbers", "rows"]
  d_all_rows : DefAt K mg "all_rows" s_all_rows ["keeper", "numbers", "rows"]
  d_turned : DefAt K mg "turned" s_turned ["keeper", "numbers", "rows"]
  d_sides : DefAt K mg "sides" s_sides ["keeper", "numbers", "rows"]
  d_verdict : DefAt K mg "verdict" s_verdict ["keeper", "numbers", "rows"]
  d_bound : DefAt K mg "bound" s_bound ["keeper", "numbers", "rows"]
  d_numbered : DefAt K mg "numbered" s_numbered ["keeper", "number"]
  d_one_input : DefAt K mg "one_input" s_one_input ["keeper", "numbers", "rows"]
  d_at_input : DefAt K mg "at_input" s_at_input ["keeper", "numbers", "rows"]
  d_answer_to : DefAt K mg "answer_to" s_answer_to ["keeper", "number", "numbers", "rows"]
  d_answers : DefAt K mg "answers" s_answers ["calls"]
end RR
/-! part P01 -/
/-! Row functions: promises and bodies. -/
namespace RR
open PySem PySem.Spec PyProof.Rows L2
local macro_rules | `(tactic| walk_at "rd1") => `(tactic| (first
  | with_reducible refine x_seq ?_
  | with_reducible refine x_next ?_
  | with_reducible refine x_asg ?_
  | with_reducible refine x_name ?_
  | with_reducible refine x_ret ?_
  | with_reducible refine x_retN ?_
  | with_reducible refine x_drop ?_
  | with_reducible refine x_if ?_
  | ((with_reducible apply x_var); exact rfl)
  | ((with_reducible apply x_aug1); exact rfl)
  | with_reducible refine x_c ?_
  | with_reducible refine x_op ?_
  | with_reducible refine x_I0 ?_
  | with_reducible refine x_un ?_
  | with_reducible refine x_U ?_
  | with_reducible refine x_eqI ?_
  | with_reducible refine x_eqS ?_
  | with_reducible refine x_neI ?_
  | with_reducible refine x_test ?_
  | with_reducible refine x_tB ?_
  | with_reducible refine x_bl ?_
  | with_reducible refine x_and ?_
  | with_reducible refine x_or ?_
  | with_reducible refine x_not ?_
  | with_reducible refine x_andV ?_
  | with_reducible refine x_orV ?_
  | with_reducible refine x_notV ?_
  | with_reducible refine x_tIf ?_
  | with_reducible refine x_chain ?_
  | with_reducible refine x_cons ?_
  | with_reducible refine x_nil ?_
  | with_reducible refine x_tup ?_
  | with_reducible refine x_lst ?_
  | with_reducible refine x_tupF ?_
  | with_reducible refine x_cb ?_
  | with_reducible refine x_call ?_
  | with_reducible refine x_callS ?_
  | with_reducible refine x_meth ?_
  | with_reducible refine x_methS ?_
  | with_reducible refine x_make ?_
  | with_reducible refine x_ost ?_
  | with_reducible refine x_mkO ?_
  | with_reducible refine x_sFld ?_
  | with_reducible refine x_sFldAug ?_
  | with_reducible refine x_m1 ?_
  | with_reducible refine x_fld ?_
  | with_reducible refine x_bm ?_
  | with_reducible refine x_bmU ?_
  | with_reducible refine x_sl ?_
  | with_reducible refine x_part ?_
  | with_reducible refine x_noPart ?_
  | with_reducible refine x_revL ?_
  | with_reducible refine x_sz0 ?_
  | with_reducible refine x_sz1 ?_
  | with_reducible refine x_sz2 ?_
  | with_reducible refine x_sz3 ?_
  | with_reducible refine x_sz4 ?_
  | with_reducible refine x_sz5 ?_))
local macro_rules | `(tactic| walk_at "rd") => `(tactic| repeat walk_at "rd1")
local macro_rules | `(tactic| walk_at "rk") => `(tactic| repeat (first | walk_at "rd1" | with_reducible refine x_iteT (by decide) ?_ | with_reducible refine x_iteF (by decide) ?_))
section
variable {P : Program} {w : World} {K : PySem.W.Frag} {mg : Str → Option Value} {base : Heap}
/-- a row at a -/
abbrev Rw (H : Hp) (a : Addr) (l : List Int) : Prop := H a = some (.lst (l.map V.int))
theorem rotate_eq (l : List Int) (k : Nat) (hl : l ≠ []) : VametBase.done (.rotate k) l = l.drop (k % l.length) ++ l.take (k % l.length) := by
  have : Nat.max 1 l.length = l.length := by
    have := List.length_pos_iff.mpr hl
    exact Nat.max_eq_right this
  simp only [VametBase.done, this]

/-! ### turned_on -/
def sp_turned_on : Sp := Sp2 fun a b H Q _ => ∃ (p : Addr) (l : List Int) (k : Nat), a = .ref p ∧ b = .int k ∧ Rw H p l ∧ l.length ≤ 1000 ∧ RetL H ((VametBase.done (.rotate k) l).map V.int) Q
theorem ok_turned_on (T : Txt K mg) : Cal0 P w K mg base 1 "turned_on" sp_turned_on := by
  refine T.d_turned_on.ok0 (k := 0) sc_turned_on Sp2.len (fun f cdv A outer s H vs Q E hr h => ⟨_, (pss_cons (ps_if (pt_cmpR (op_eqD hr.units) (pv 0) (pe_lst pa_nil) (by first | exact nomark _ | rfl)) (pss_one (ps_ret (pe_lst pa_nil))) pss_nil)
      (pss_cons (ps_set (i := 2) sc_turned_on.nd rfl (Or.inl rfl) (pe_op op_modN (pv 1) (pe_callB call_len_seq (by rfl) T.bi_len boot_len (pa_cons (pv 0) pa_nil))))
      (pss_one (ps_ret (pe_op op_cat (pe_slice sl_list (pv 0) (po_some (pv 2)) po_none) (pe_slice sl_list (pv 0) po_none (po_some (pv 2)))))))), ?_⟩)
  obtain ⟨_, _, rfl, p, l, k, rfl, rfl, hl, hz, hq⟩ := h
  dsimp only [cxOf]
  walk_at "rd"
  intro q hn
  have e := Ex.new (o := .lst []) hn
  refine x_eqL (l := l) (m := []) (sqL (e _ _ hl)) (sqL upd_same) ?_
  walk_at "rd"
  refine x_ite (fun c => ?_) (fun c => ?_)
  · subst c
    walk_at "rd"
    exact fun r hn2 => hq _ r (e.add hn2) (e.back hn2) (by rw [upd_same]; simp [VametBase.done])
  · walk_at "rd"
    refine x_len (Or.inl (sqL (e _ _ hl))) ?_
    have hp := List.length_pos_iff.mpr c
    refine x_I (by rw [List.length_map]; omega) ?_
    walk_at "rd"
    refine x_int ?_
    walk_at "rd"
    refine x_slL (sqL (e _ _ hl)) fun r hr => ?_
    have e2 := e.add (o := .lst (cutV (l.map V.int) (some ((k : Int).fmod (List.length (l.map V.int)))) none)) hr
    walk_at "rd"
    refine x_int ?_
    refine x_slL (sqL (e2 _ _ hl)) fun r2 hr2 => ?_
    have ne : r ≠ r2 := ne_of_none upd_same hr2
    refine x_cat ((upd_ne ne).trans upd_same) upd_same ?_ fun r3 hr3 => ?_
    · refine sz_of ?_
      refine Nat.le_trans (Nat.add_le_add (cutV_len _ _ _) (cutV_len _ _ _)) ?_
      rw [List.length_map]
      omega
    · refine hq _ r3 ((e2.add hr2).add hr3) ((e2.add hr2).back hr3) ?_
      rw [upd_same]
      have ek : (k : Int).fmod ((List.length (l.map V.int) : Nat) : Int) = ((k % l.length : Nat) : Int) := by
        rw [List.length_map, Int.fmod_eq_emod_of_nonneg _ (by omega)]
        rfl
      rw [ek, cutV_from, cutV_to, rotate_eq l k c, List.map_append, List.map_drop, List.map_take]

/-! ### once_each -/
def sp_once_each : Sp := Sp1 fun a H Q _ => ∃ (p : Addr) (l : List Int), a = .ref p ∧ Rw H p l ∧ l.length ≤ 1000 ∧ RetL H ((VametBase.done .once l).map V.int) Q
theorem ok_once_each (T : Txt K mg) : Cal0 P w K mg base 1 "once_each" sp_once_each := by
  refine T.d_once_each.ok0 (k := 0) sc_once_each Sp1.len (fun f cdv A outer s H vs Q E hr h => ⟨_, (pss_cons (ps_set (i := 1) sc_once_each.nd rfl (Or.inl rfl) (pe_lst pa_nil))
      (pss_cons (ps_for PassesOwn.never rfl (pi_list (pv 0)) (pg_name (i := 2) sc_once_each.nd rfl (Or.inl rfl)) (pss_one (ps_if (pt_cmpR op_notIn_seq (pv 2) (pv 1) (by first | exact nomark _ | rfl)) (pss_one (ps_expr (pe_bm PySem.F.plainAttrs_list PySem.F.slot_list_append PySem.F.type_list_append mt_append (pv 1) (pa_cons (pv 2) pa_nil)))) pss_nil)))
      (pss_one (ps_ret (pv 1))))), ?_⟩)
  obtain ⟨_, rfl, p, l, rfl, hl, hz, hq⟩ := h
  dsimp only [cxOf]
  walk_at "rd"
  intro q hn
  have e := Ex.new (o := .lst []) hn
  walk_at "rd"
  refine x_forL (a := p) (xs := l.map V.int) (fun i σ' H' => ∃ v : Option V, σ' = [some (.ref p), some (.ref q), v] ∧ Ex H H' ∧ H' q = some (.lst ((VametBase.onceOnly (l.take i)).map V.int))) (fun q h => by walk_at "rd"; exact h) (sqL (e _ _ hl)) ⟨none, rfl, e, upd_same⟩ (fun i σ' H' _ ⟨_, _, e', _⟩ => sqL (e' _ _ hl)) ?_ ?_
  · rintro i x σ' H' hx ⟨v, rfl, e', hd⟩
    obtain ⟨n, hn2, rfl⟩ := map_get hx
    walk_at "rd"
    refine x_in (Or.inl (sqL hd)) rfl (flat_ints _) ?_
    rw [if_pos rfl, inV_int]
    walk_at "rd"
    have st := Mx.onceOnly_snoc (l.take i) n
    rw [← take_more hn2] at st
    cases c : (VametBase.onceOnly (l.take i)).contains n with
    | true =>
      rw [c, if_pos rfl] at st
      refine x_iteF (by rfl) ?_
      walk_at "rd"
      exact ⟨_, rfl, e', by rw [st]; exact hd⟩
    | false =>
      rw [c, if_neg Bool.false_ne_true] at st
      refine x_iteT (by rfl) ?_
      walk_at "rd"
      refine ⟨x_tyL hd, ?_⟩
      walk_at "rd"
      have hlen := Mx.onceOnly_len (l.take i)
      rw [List.length_take] at hlen
      refine x_append hd (sz_lt (by rw [List.length_map]; omega)) ?_
      refine ⟨_, rfl, e'.mut hn, ?_⟩
      rw [upd_same, st, List.map_append]
      rfl
  · rintro σ' H' ⟨v, rfl, e', hd⟩
    rw [List.length_map, List.take_length] at hd
    walk_at "rd"
    exact hq H' q e' hn hd

/-! ### differences -/
def sp_differences : Sp := Sp1 fun a H Q _ => ∃ (p : Addr) (l : List Int), a = .ref p ∧ Rw H p l ∧ l.length ≤ 1000 ∧ RetL H ((VametBase.done .steps l).map V.int) Q
theorem ok_differences (T : Txt K mg) : Cal0 P w K mg base 1 "differences" sp_differences := by
  refine T.d_differences.ok0 (k := 0) sc_differences Sp1.len (fun f cdv A outer s H vs Q E hr h => ⟨_, (pss_one (ps_ret (pe_lc (own := [("at", 1)]) (g := (gName 1)) (tt := tYes) (te := (tOp (rI0 fun i j => .int (i - j)) (tOp (rIxL K) (tVar 0) (tVar 1)) (tOp (rIxL K) (tVar 0) (tOp (rI0 fun i j => .int (i - j)) (tVar 1) (tC (.int 1)))))) rfl sc_differences.nd (pi_range2 rfl T.bi_range (pa_cons pe_int (pa_cons (pe_callB call_len_seq (by rfl) T.bi_len boot_len (pa_cons (pv 0) pa_nil)) pa_nil))) (blkOk_by (N := N_differences) (sc := defScope s_differences) (by decide +kernel)) (fun _ _ _ _ _ => (pg_name (i := 1) sc_differences.nd rfl (Or.inl rfl))) (fun _ _ _ _ _ => pts_nil) (fun _ _ _ _ _ => (pe_op op_sub (pe_ix ix_list (pv 0) (pv 1) (fun _ _ => rfl)) (pe_ix ix_list (pv 0) (pe_op op_sub (pv 1) pe_int) (fun _ _ => rfl))))))), ?_⟩)
  obtain ⟨_, rfl, p, l, rfl, hl, hz, hq⟩ := h
  dsimp only [cxOf]
  with_reducible refine x_ret ?_
  refine x_lcR (lo := 1) (hi := (l.length : Int)) (fun j => V.int (l.getD j.toNat 0 - l.getD (j.toNat - 1) 0)) (fun q h => ?_) (by omega) (by omega) (fun j hj H1 e q h => ?_) ?_
  · walk_at "rd"
    refine x_len (Or.inl (sqL hl)) ?_
    walk_at "rd"
    rw [List.length_map]
    exact h
  · walk_at "rd"
    have j1 : l[j]? = some (l.getD j 0) := by
      rw [List.getD_eq_getElem?_getD, List.getElem?_eq_getElem (by omega)]; rfl
    have j2 : l[j + 1]? = some (l.getD (j + 1) 0) := by
      rw [List.getD_eq_getElem?_getD, List.getElem?_eq_getElem (by omega)]; rfl
    have ej : (1 : Int) + (j : Nat) = ((j + 1 : Nat) : Int) := by omega
    refine x_ixL (sqL (e _ _ hl)) (v := V.int (l.getD (j + 1) 0)) (atI_of (by omega) (by rw [ej, Int.toNat_natCast, List.getElem?_map, j2]; rfl)) ?_
    walk_at "rd"
    refine x_ixL (sqL (e _ _ hl)) (v := V.int (l.getD j 0)) (atI_of (by omega) (by rw [show (1 : Int) + (j : Nat) - 1 = (j : Int) by omega, Int.toNat_natCast, List.getElem?_map, j1]; rfl)) ?_
    walk_at "rd"
    have : (1 + (j : Int)).toNat = j + 1 := by omega
    simp only [this, Nat.add_sub_cancel] at h
    exact h
  · have : (List.range ((l.length : Int) - 1).toNat).map (fun (j : Nat) => V.int (l.getD (1 + (j : Int)).toNat 0 - l.getD ((1 + (j : Int)).toNat - 1) 0)) = (VametBase.done .steps l).map V.int := by
      apply List.ext_getElem?
      intro i
      rw [List.getElem?_map, List.getElem?_map]
      by_cases hi : i < ((l.length : Int) - 1).toNat
      · have h1 : l[i]? = some (l.getD i 0) := by
          rw [List.getD_eq_getElem?_getD, List.getElem?_eq_getElem (by omega)]; rfl
        have h2 : l[i + 1]? = some (l.getD (i + 1) 0) := by
          rw [List.getD_eq_getElem?_getD, List.getElem?_eq_getElem (by omega)]; rfl
        rw [Mx.steps_get h1 h2, List.getElem?_range hi]
        have : (1 + (i : Int)).toNat = i + 1 := by omega
        simp only [Option.map_some, this, Nat.add_sub_cancel]
      · have : (VametBase.done .steps l)[i]? = none := List.getElem?_eq_none (by rw [Mx.steps_len]; omega)
        rw [this, List.getElem?_eq_none (by rw [List.length_range]; omega)]
        rfl
    rw [this]
    exact hq

/-! ### running_sums -/
def sp_running_sums : Sp := Sp1 fun a H Q _ => ∃ (p : Addr) (l : List Int), a = .ref p ∧ Rw H p l ∧ l.length ≤ 1000 ∧ RetL H ((VametBase.done .sums l).map V.int) Q
theorem ok_running_sums (T : Txt K mg) : Cal0 P w K mg base 1 "running_sums" sp_running_sums := by
  refine T.d_running_sums.ok0 (k := 0) sc_running_sums Sp1.len (fun f cdv A outer s H vs Q E hr h => ⟨_, (pss_cons (ps_set (i := 1) sc_running_sums.nd rfl (Or.inl rfl) (pe_lst pa_nil))
      (pss_cons (ps_set (i := 2) sc_running_sums.nd rfl (Or.inl rfl) pe_int)
      (pss_cons (ps_for PassesOwn.never rfl (pi_list (pv 0)) (pg_name (i := 3) sc_running_sums.nd rfl (Or.inl rfl)) (pss_cons (ps_set (i := 2) sc_running_sums.nd rfl (Or.inl rfl) (pe_op op_add (pv 2) (pv 3)))
      (pss_one (ps_expr (pe_bm PySem.F.plainAttrs_list PySem.F.slot_list_append PySem.F.type_list_append mt_append (pv 1) (pa_cons (pv 2) pa_nil))))))
      (pss_one (ps_ret (pv 1)))))), ?_⟩)
  obtain ⟨_, rfl, p, l, rfl, hl, hz, hq⟩ := h
  dsimp only [cxOf]
  walk_at "rd"
  intro q hn
  have e := Ex.new (o := .lst []) hn
  walk_at "rd"
  refine x_forL (a := p) (xs := l.map V.int) (fun i σ' H' => ∃ v : Option V, σ' = [some (.ref p), some (.ref q), some (.int (l.take i).sum), v] ∧ Ex H H' ∧ H' q = some (.lst ((VametBase.runningFrom 0 (l.take i)).map V.int))) (fun q h => by walk_at "rd"; exact h) (sqL (e _ _ hl)) ⟨none, rfl, e, upd_same⟩ (fun i σ' H' _ ⟨_, _, e', _⟩ => sqL (e' _ _ hl)) ?_ ?_
  · rintro i x σ' H' hx ⟨v, rfl, e', hd⟩
    obtain ⟨n, hn2, rfl⟩ := map_get hx
    walk_at "rd"
    refine ⟨x_tyL hd, ?_⟩
    walk_at "rd"
    have hlen := Mx.running_len (l.take i) 0
    rw [List.length_take] at hlen
    refine x_append hd (sz_lt (by rw [List.length_map, hlen]; omega)) ?_
    refine ⟨some (.int n), ?_, e'.mut hn, ?_⟩
    · rw [take_more hn2, List.sum_append]
      simp
    · rw [upd_same, take_more hn2, Mx.running_snoc, List.map_append]
      simp
  · rintro σ' H' ⟨v, rfl, e', hd⟩
    rw [List.length_map, List.take_length] at hd
    walk_at "rd"
    exact hq H' q e' hn hd
end
end RR
/-! part P02 -/
/-! Steps and runs. -/
namespace RR
open PySem PySem.Spec PyProof.Rows L2
local macro_rules | `(tactic| walk_at "rd1") => `(tactic| (first
  | with_reducible refine x_seq ?_
  | with_reducible refine x_next ?_
  | with_reducible refine x_asg ?_
  | with_reducible refine x_name ?_
  | with_reducible refine x_ret ?_
  | with_reducible refine x_retN ?_
  | with_reducible refine x_drop ?_
  | with_reducible refine x_if ?_
  | ((with_reducible apply x_var); exact rfl)
  | ((with_reducible apply x_aug1); exact rfl)
  | with_reducible refine x_c ?_
  | with_reducible refine x_op ?_
  | with_reducible refine x_I0 ?_
  | with_reducible refine x_un ?_
  | with_reducible refine x_U ?_
  | with_reducible refine x_eqI ?_
  | with_reducible refine x_eqS ?_
  | with_reducible refine x_neI ?_
  | with_reducible refine x_test ?_
  | with_reducible refine x_tB ?_
  | with_reducible refine x_bl ?_
  | with_reducible refine x_and ?_
  | with_reducible refine x_or ?_
  | with_reducible refine x_not ?_
  | with_reducible refine x_andV ?_
  | with_reducible refine x_orV ?_
  | with_reducible refine x_notV ?_
  | with_reducible refine x_tIf ?_
  | with_reducible refine x_chain ?_
  | with_reducible refine x_cons ?_
  | with_reducible refine x_nil ?_
  | with_reducible refine x_tup ?_
  | with_reducible refine x_lst ?_
  | with_reducible refine x_tupF ?_
  | with_reducible refine x_cb ?_
  | with_reducible refine x_call ?_
  | with_reducible refine x_callS ?_
  | with_reducible refine x_meth ?_
  | with_reducible refine x_methS ?_
  | with_reducible refine x_make ?_
  | with_reducible refine x_ost ?_
  | with_reducible refine x_mkO ?_
  | with_reducible refine x_sFld ?_
  | with_reducible refine x_sFldAug ?_
  | with_reducible refine x_m1 ?_
  | with_reducible refine x_fld ?_
  | with_reducible refine x_bm ?_
  | with_reducible refine x_bmU ?_
  | with_reducible refine x_sl ?_
  | with_reducible refine x_part ?_
  | with_reducible refine x_noPart ?_
  | with_reducible refine x_revL ?_
  | with_reducible refine x_sz0 ?_
  | with_reducible refine x_sz1 ?_
  | with_reducible refine x_sz2 ?_
  | with_reducible refine x_sz3 ?_
  | with_reducible refine x_sz4 ?_
  | with_reducible refine x_sz5 ?_))
local macro_rules | `(tactic| walk_at "rd") => `(tactic| repeat walk_at "rd1")
local macro_rules | `(tactic| walk_at "rk") => `(tactic| repeat (first | walk_at "rd1" | with_reducible refine x_iteT (by decide) ?_ | with_reducible refine x_iteF (by decide) ?_))
/-- a step's numbers as they may be told -/
def WfStep : VametBase.Step → Prop
  | .add c => -99 ≤ c ∧ c ≤ 99
  | .times c => -99 ≤ c ∧ c ≤ 99
  | .above c => -99 ≤ c ∧ c ≤ 99
  | .rest m => 1 ≤ m ∧ m ≤ 9
  | .rotate k => k ≤ 9
  | .take k => k ≤ 9
  | .drop k => k ≤ 9
  | _ => True
def StepAt (H : Hp) (v : V) (s : VametBase.Step) : Prop := ∃ p, v = .ref p ∧ H p = some (.tup ((VametBase.flatStep s).map V.int)) ∧ WfStep s
def ProgAt (H : Hp) (v : V) (f : VametBase.Program) : Prop := ∃ p vs, v = .ref p ∧ H p = some (.tup vs) ∧ AllAt (StepAt H) vs f ∧ f.length ≤ 8
theorem StepAt.ex {H H' : Hp} (e : Ex H H') {v : V} {s : VametBase.Step} (h : StepAt H v s) : StepAt H' v s := by
  obtain ⟨p, a, b, c⟩ := h
  exact ⟨p, a, e _ _ b, c⟩
theorem ProgAt.ex {H H' : Hp} (e : Ex H H') {v : V} {f : VametBase.Program} (h : ProgAt H v f) : ProgAt H' v f := by
  obtain ⟨p, vs, a, b, c, d⟩ := h
  exact ⟨p, vs, a, e _ _ b, c.imp fun _ _ => StepAt.ex e, d⟩
section
variable {P : Program} {w : World} {K : PySem.W.Frag} {mg : Str → Option Value} {base : Heap}

/-! ### by_number -/
def sp_by_number : Sp := Sp3 fun a b c H Q _ => ∃ (p : Addr) (l : List Int) (s : VametBase.Step) (k n : Int), a = .int k ∧ b = .int n ∧ c = .ref p ∧ Rw H p l ∧ l.length ≤ 1000 ∧ VametBase.flatStep s = [k, n] ∧ WfStep s ∧ RetL H ((VametBase.done s l).map V.int) Q
theorem ok_by_number (T : Txt K mg) (c_turned_on : Cal0 P w K mg base 1 "turned_on" sp_turned_on) : Cal0 P w K mg base 2 "by_number" sp_by_number := by
  refine T.d_by_number.ok0 (k := 1) sc_by_number Sp3.len (fun f cdv A outer s H vs Q E hr h => ⟨_, (pss_cons (ps_if (pt_cmpR op_eq (pv 0) pe_int (by first | exact nomark _ | rfl)) (pss_one (ps_ret (pe_lc (own := [("one", 3)]) (g := (gName 3)) (tt := tYes) (te := (tOp (rI0 fun i j => .int (i + j)) (tVar 3) (tVar 1))) rfl sc_by_number.nd (pi_list (pv 2)) (blkOk_by (N := N_by_number) (sc := defScope s_by_number) (by decide +kernel)) (fun _ _ _ _ _ => (pg_name (i := 3) sc_by_number.nd rfl (Or.inl rfl))) (fun _ _ _ _ _ => pts_nil) (fun _ _ _ _ _ => (pe_op op_add (pv 3) (pv 1)))))) pss_nil)
      (pss_cons (ps_if (pt_cmpR op_eq (pv 0) pe_int (by first | exact nomark _ | rfl)) (pss_one (ps_ret (pe_lc (own := [("one", 3)]) (g := (gName 3)) (tt := tYes) (te := (tOp (rI CMul fun i j => .int (i * j)) (tVar 3) (tVar 1))) rfl sc_by_number.nd (pi_list (pv 2)) (blkOk_by (N := N_by_number) (sc := defScope s_by_number) (by decide +kernel)) (fun _ _ _ _ _ => (pg_name (i := 3) sc_by_number.nd rfl (Or.inl rfl))) (fun _ _ _ _ _ => pts_nil) (fun _ _ _ _ _ => (pe_op op_mul (pv 3) (pv 1)))))) pss_nil)
      (pss_cons (ps_if (pt_cmpR op_eq (pv 0) pe_int (by first | exact nomark _ | rfl)) (pss_one (ps_ret (pe_lc (own := [("one", 3)]) (g := (gName 3)) (tt := tYes) (te := (tOp (rI (fun _ j => j ≠ 0) fun i j => .int (i.fmod j)) (tVar 3) (tVar 1))) rfl sc_by_number.nd (pi_list (pv 2)) (blkOk_by (N := N_by_number) (sc := defScope s_by_number) (by decide +kernel)) (fun _ _ _ _ _ => (pg_name (i := 3) sc_by_number.nd rfl (Or.inl rfl))) (fun _ _ _ _ _ => pts_nil) (fun _ _ _ _ _ => (pe_op op_modN (pv 3) (pv 1)))))) pss_nil)
      (pss_cons (ps_if (pt_cmpR op_eq (pv 0) pe_int (by first | exact nomark _ | rfl)) (pss_one (ps_ret (pe_c0 c_turned_on hr (by decide) (pa_cons (pv 2) (pa_cons (pv 1) pa_nil))))) pss_nil)
      (pss_cons (ps_if (pt_cmpR op_eq (pv 0) pe_int (by first | exact nomark _ | rfl)) (pss_one (ps_ret (pe_slice sl_list (pv 2) po_none (po_some (pv 1))))) pss_nil)
      (pss_cons (ps_if (pt_cmpR op_eq (pv 0) pe_int (by first | exact nomark _ | rfl)) (pss_one (ps_ret (pe_slice sl_list (pv 2) (po_some (pv 1)) po_none))) pss_nil)
      (pss_one (ps_ret (pe_lc (own := [("one", 3)]) (g := (gName 3)) (tt := (tTest (tOp (rI0 fun i j => .bl (decide (j < i))) (tVar 3) (tVar 1)))) (te := (tVar 3)) rfl sc_by_number.nd (pi_list (pv 2)) (blkOk_by (N := N_by_number) (sc := defScope s_by_number) (by decide +kernel)) (fun _ _ _ _ _ => (pg_name (i := 3) sc_by_number.nd rfl (Or.inl rfl))) (fun _ _ _ _ _ => (pts_one (pt_cmpR op_gt (pv 3) (pv 1) (by first | exact nomark _ | rfl)))) (fun _ _ _ _ _ => (pv 3))))))))))), ?_⟩)
  obtain ⟨_, _, _, rfl, p, l, s, k, n, rfl, rfl, rfl, hl, hz, hs, hw, hq⟩ := h
  dsimp only [cxOf]
  have hl' : SqL K H p (l.map V.int) := sqL hl
  cases s <;> simp only [VametBase.flatStep, List.cons.injEq, reduceCtorEq, and_false, and_true] at hs <;> obtain ⟨rfl, rfl⟩ := hs
  case add c =>
    walk_at "rk"
    refine x_lcGM (fun n => V.int (n + c)) (fun q h => by walk_at "rd"; exact h) hl' (by omega) (fun n hn H1 e q h => by walk_at "rd"; exact h) ?_
    rw [show VametBase.done (.add c) l = l.map (fun x => x + c) from rfl, List.map_map] at hq
    exact hq
  case times c =>
    walk_at "rk"
    refine x_lcGM (fun n => V.int (n * c)) (fun q h => by walk_at "rd"; exact h) hl' (by omega) (fun n hn H1 e q h => by walk_at "rd"; exact x_I (Or.inr (by have := hw.1; have := hw.2; omega)) h) ?_
    rw [show VametBase.done (.times c) l = l.map (fun x => x * c) from rfl, List.map_map] at hq
    exact hq
  case rest m =>
    have hm : 1 ≤ m := hw.1
    walk_at "rk"
    refine x_lcGM (fun n => V.int (VametBase.restOf m n)) (fun q h => by walk_at "rd"; exact h) hl' (by omega) (fun n hn H1 e q h => by
      walk_at "rd"
      refine x_I (by show (m : Int) ≠ 0; omega) ?_
      have : n.fmod (VametBase.int m) = VametBase.restOf m n := by
        show n.fmod (m : Int) = _
        rw [Int.fmod_eq_emod_of_nonneg _ (by omega)]
        unfold VametBase.restOf
        rw [if_neg (by omega)]
      rw [this]
      exact h) ?_
    rw [show VametBase.done (.rest m) l = l.map (VametBase.restOf m) from rfl, List.map_map] at hq
    exact hq
  case rotate k =>
    walk_at "rk"
    exact ⟨_, _, rfl, p, l, k, rfl, rfl, hl, hz, hq⟩
  case take k =>
    walk_at "rk"
    refine x_int ?_
    refine x_slL hl' fun r hr => ?_
    refine hq _ r (Ex.new hr) hr ?_
    rw [upd_same]
    have : cutV (l.map V.int) none (some (VametBase.int k)) = (VametBase.done (.take k) l).map V.int := by
      show cutV (l.map V.int) none (some (k : Int)) = (l.take k).map V.int
      rw [cutV_to, List.map_take]
    rw [this]
  case drop k =>
    walk_at "rk"
    refine x_int ?_
    walk_at "rk"
    refine x_slL hl' fun r hr => ?_
    refine hq _ r (Ex.new hr) hr ?_
    rw [upd_same]
    have : cutV (l.map V.int) (some (VametBase.int k)) none = (VametBase.done (.drop k) l).map V.int := by
      show cutV (l.map V.int) (some (k : Int)) none = (l.drop k).map V.int
      rw [cutV_from, List.map_drop]
    rw [this]
  case above c =>
    walk_at "rk"
    exact x_lcG (fun n => decide (c < n)) (fun n => V.int n) (fun q h => by walk_at "rd"; exact h) hl' (by omega) (fun n hn H1 e q h => by walk_at "rd"; exact h) (fun n hn H1 e q h => by walk_at "rd"; exact h) hq

/-! ### by_itself -/
def sp_by_itself : Sp := Sp2 fun a b H Q _ => ∃ (p : Addr) (l : List Int) (s : VametBase.Step) (k : Int), a = .int k ∧ b = .ref p ∧ Rw H p l ∧ l.length ≤ 1000 ∧ VametBase.flatStep s = [k] ∧ RetL H ((VametBase.done s l).map V.int) Q
theorem ok_by_itself (T : Txt K mg) (c_once_each : Cal0 P w K mg base 1 "once_each" sp_once_each) (c_differences : Cal0 P w K mg base 1 "differences" sp_differences) (c_running_sums : Cal0 P w K mg base 1 "running_sums" sp_running_sums) :
    Cal0 P w K mg base 2 "by_itself" sp_by_itself := by
  refine T.d_by_itself.ok0 (k := 1) sc_by_itself Sp2.len (fun f cdv A outer s H vs Q E hr h => ⟨_, (pss_cons (ps_if (pt_cmpR op_eq (pv 0) pe_int (by first | exact nomark _ | rfl)) (pss_one (ps_ret (pe_lc (own := [("one", 2)]) (g := (gName 2)) (tt := tYes) (te := (tCB (fun xs H Q => ∃ i, xs = [.int i] ∧ Q (.int (if i < 0 then -i else i)) H) (tCons (tVar 2) tNil))) rfl sc_by_itself.nd (pi_list (pv 1)) (blkOk_by (N := N_by_itself) (sc := defScope s_by_itself) (by decide +kernel)) (fun _ _ _ _ _ => (pg_name (i := 2) sc_by_itself.nd rfl (Or.inl rfl))) (fun _ _ _ _ _ => pts_nil) (fun _ _ _ _ _ => (pe_callB call_abs (by rfl) T.bi_abs (by decide +kernel) (pa_cons (pv 2) pa_nil)))))) pss_nil)
      (pss_cons (ps_if (pt_cmpR op_eq (pv 0) pe_int (by first | exact nomark _ | rfl)) (pss_one (ps_ret (pe_callB cr_sortedI (by rfl) T.bi_sorted (by decide +kernel) (pa_cons (pv 1) pa_nil)))) pss_nil)
      (pss_cons (ps_if (pt_cmpR op_eq (pv 0) pe_int (by first | exact nomark _ | rfl)) (pss_one (ps_ret (pe_revL (pv 1)))) pss_nil)
      (pss_cons (ps_if (pt_cmpR op_eq (pv 0) pe_int (by first | exact nomark _ | rfl)) (pss_one (ps_ret (pe_c0 c_once_each hr (by decide) (pa_cons (pv 1) pa_nil)))) pss_nil)
      (pss_cons (ps_if (pt_cmpR op_eq (pv 0) pe_int (by first | exact nomark _ | rfl)) (pss_one (ps_ret (pe_lst (pa_cons (pe_callB (cr_sum rfl) (by rfl) T.bi_sum (by decide +kernel) (pa_cons (pv 1) pa_nil)) pa_nil)))) pss_nil)
      (pss_cons (ps_if (pt_cmpR op_eq (pv 0) pe_int (by first | exact nomark _ | rfl)) (pss_one (ps_ret (pe_ifExp (pt_cmpR (op_neD hr.units) (pv 1) (pe_lst pa_nil) (by first | exact nomark _ | rfl)) (pe_lst (pa_cons (pe_callB (cr_max rfl) (by rfl) T.bi_max (by decide +kernel) (pa_cons (pv 1) pa_nil)) pa_nil)) (pe_lst pa_nil)))) pss_nil)
      (pss_cons (ps_if (pt_cmpR op_eq (pv 0) pe_int (by first | exact nomark _ | rfl)) (pss_one (ps_ret (pe_ifExp (pt_cmpR (op_neD hr.units) (pv 1) (pe_lst pa_nil) (by first | exact nomark _ | rfl)) (pe_lst (pa_cons (pe_callB (cr_min rfl) (by rfl) T.bi_min (by decide +kernel) (pa_cons (pv 1) pa_nil)) pa_nil)) (pe_lst pa_nil)))) pss_nil)
      (pss_cons (ps_if (pt_cmpR op_eq (pv 0) pe_int (by first | exact nomark _ | rfl)) (pss_one (ps_ret (pe_lst (pa_cons (pe_callB call_len_seq (by rfl) T.bi_len boot_len (pa_cons (pv 1) pa_nil)) pa_nil)))) pss_nil)
      (pss_cons (ps_if (pt_cmpR op_eq (pv 0) pe_int (by first | exact nomark _ | rfl)) (pss_one (ps_ret (pe_c0 c_differences hr (by decide) (pa_cons (pv 1) pa_nil)))) pss_nil)
      (pss_one (ps_ret (pe_ifExp (pt_cmpR op_eq (pv 0) pe_int (by first | exact nomark _ | rfl)) (pe_c0 c_running_sums hr (by decide) (pa_cons (pv 1) pa_nil)) (pe_op op_cat (pv 1) (pv 1)))))))))))))), ?_⟩)
  obtain ⟨_, _, rfl, p, l, s, k, rfl, rfl, hl, hz, hs, hq⟩ := h
  dsimp only [cxOf]
  have hl' : SqL K H p (l.map V.int) := sqL hl
  cases s <;> simp only [VametBase.flatStep, List.cons.injEq, reduceCtorEq, and_false, and_true] at hs <;> subst hs
  case abs =>
    walk_at "rk"
    refine x_lcGM (fun n => V.int (if n < 0 then 0 - n else n)) (fun q h => by walk_at "rd"; exact h) hl' (by omega) (fun n hn H1 e q h => by walk_at "rd"; exact ⟨n, rfl, by rw [Int.zero_sub] at h; exact h⟩) ?_
    rw [show VametBase.done .abs l = l.map (fun x => if x < 0 then 0 - x else x) from rfl, List.map_map] at hq
    exact hq
  case sort =>
    walk_at "rk"
    refine ⟨p, l, rfl, hl', fun ns r hp hw hr => hq _ r (Ex.new hr) hr ?_⟩
    rw [upd_same, Mx.sorted_eq hp hw]
    rfl
  case reverse =>
    walk_at "rk"
    refine ⟨p, _, rfl, hl', fun r hr => hq _ r (Ex.new hr) hr ?_⟩
    rw [upd_same, ← List.map_reverse]
    rfl
  case once =>
    walk_at "rk"
    exact ⟨_, rfl, p, l, rfl, hl, hz, hq⟩
  case sum =>
    walk_at "rk"
    refine ⟨p, l, rfl, hl', ?_⟩
    walk_at "rk"
    refine fun r hr => hq _ r (Ex.new hr) hr ?_
    rw [upd_same]
    show _ = some (HO.lst ([VametBase.total l].map V.int))
    rw [Mx.total_eq]
    rfl
  case greatest =>
    walk_at "rk"
    intro r hr
    have e := Ex.new (o := .lst []) hr
    refine x_neL (l := l) (m := []) (sqL (e _ _ hl)) (sqL upd_same) ?_
    walk_at "rk"
    by_cases c : l = []
    · subst c
      walk_at "rk"
      refine fun r2 hr2 => hq _ r2 (e.add hr2) (e.back hr2) ?_
      rw [upd_same]
      rfl
    · refine x_iteT (by rw [decide_eq_false c]; rfl) ?_
      walk_at "rk"
      refine ⟨p, l, rfl, sqL (e _ _ hl), List.length_pos_iff.mpr c, fun m hm hw => ?_⟩
      walk_at "rk"
      refine fun r2 hr2 => hq _ r2 (e.add hr2) (e.back hr2) ?_
      rw [upd_same]
      show _ = some (HO.lst ((VametBase.greatestOf l).toList.map V.int))
      rw [Mx.greatest_eq hm hw]
      rfl
  case least =>
    walk_at "rk"
    intro r hr
    have e := Ex.new (o := .lst []) hr
    refine x_neL (l := l) (m := []) (sqL (e _ _ hl)) (sqL upd_same) ?_
    walk_at "rk"
    by_cases c : l = []
    · subst c
      walk_at "rk"
      refine fun r2 hr2 => hq _ r2 (e.add hr2) (e.back hr2) ?_
      rw [upd_same]
      rfl
    · refine x_iteT (by rw [decide_eq_false c]; rfl) ?_
      walk_at "rk"
      refine ⟨p, l, rfl, sqL (e _ _ hl), List.length_pos_iff.mpr c, fun m hm hw => ?_⟩
      walk_at "rk"
      refine fun r2 hr2 => hq _ r2 (e.add hr2) (e.back hr2) ?_
      rw [upd_same]
      show _ = some (HO.lst ((VametBase.leastOf l).toList.map V.int))
      rw [Mx.least_eq hm hw]
      rfl
  case count =>
    walk_at "rk"
    refine x_len (Or.inl hl') ?_
    walk_at "rk"
    refine fun r hr => hq _ r (Ex.new hr) hr ?_
    rw [upd_same, List.length_map]
    rfl
  case steps =>
    walk_at "rk"
    exact ⟨_, rfl, p, l, rfl, hl, hz, hq⟩
  case sums =>
    walk_at "rk"
    exact ⟨_, rfl, p, l, rfl, hl, hz, hq⟩
  case twice =>
    walk_at "rk"
    refine x_cat hl hl (sz_of (by rw [List.length_map]; omega)) fun r hr => hq _ r (Ex.new hr) hr ?_
    rw [upd_same, ← List.map_append]
    rfl
end
end RR
/-! part P03 -/
/-! Runs. -/
namespace RR
open PySem PySem.Spec PyProof.Rows L2
local macro_rules | `(tactic| walk_at "rd1") => `(tactic| (first
  | with_reducible refine x_seq ?_
  | with_reducible refine x_next ?_
  | with_reducible refine x_asg ?_
  | with_reducible refine x_name ?_
  | with_reducible refine x_ret ?_
  | with_reducible refine x_retN ?_
  | with_reducible refine x_drop ?_
  | with_reducible refine x_if ?_
  | ((with_reducible apply x_var); exact rfl)
  | ((with_reducible apply x_aug1); exact rfl)
  | with_reducible refine x_c ?_
  | with_reducible refine x_op ?_
  | with_reducible refine x_I0 ?_
  | with_reducible refine x_un ?_
  | with_reducible refine x_U ?_
  | with_reducible refine x_eqI ?_
  | with_reducible refine x_eqS ?_
  | with_reducible refine x_neI ?_
  | with_reducible refine x_test ?_
  | with_reducible refine x_tB ?_
  | with_reducible refine x_bl ?_
  | with_reducible refine x_and ?_
  | with_reducible refine x_or ?_
  | with_reducible refine x_not ?_
  | with_reducible refine x_andV ?_
  | with_reducible refine x_orV ?_
  | with_reducible refine x_notV ?_
  | with_reducible refine x_tIf ?_
  | with_reducible refine x_chain ?_
  | with_reducible refine x_cons ?_
  | with_reducible refine x_nil ?_
  | with_reducible refine x_tup ?_
  | with_reducible refine x_lst ?_
  | with_reducible refine x_tupF ?_
  | with_reducible refine x_cb ?_
  | with_reducible refine x_call ?_
  | with_reducible refine x_callS ?_
  | with_reducible refine x_meth ?_
  | with_reducible refine x_methS ?_
  | with_reducible refine x_make ?_
  | with_reducible refine x_ost ?_
  | with_reducible refine x_mkO ?_
  | with_reducible refine x_sFld ?_
  | with_reducible refine x_sFldAug ?_
  | with_reducible refine x_m1 ?_
  | with_reducible refine x_fld ?_
  | with_reducible refine x_bm ?_
  | with_reducible refine x_bmU ?_
  | with_reducible refine x_sl ?_
  | with_reducible refine x_part ?_
  | with_reducible refine x_noPart ?_
  | with_reducible refine x_revL ?_
  | with_reducible refine x_sz0 ?_
  | with_reducible refine x_sz1 ?_
  | with_reducible refine x_sz2 ?_
  | with_reducible refine x_sz3 ?_
  | with_reducible refine x_sz4 ?_
  | with_reducible refine x_sz5 ?_))
local macro_rules | `(tactic| walk_at "rd") => `(tactic| repeat walk_at "rd1")
local macro_rules | `(tactic| walk_at "rk") => `(tactic| repeat (first | walk_at "rd1" | with_reducible refine x_iteT (by decide) ?_ | with_reducible refine x_iteF (by decide) ?_))
section
variable {P : Program} {w : World} {K : PySem.W.Frag} {mg : Str → Option Value} {base : Heap}
/-! ### stepped -/
def BeyondAt (K : PySem.W.Frag) (H : Hp) (E : XK) : Prop := ∀ H', Ex H H' → E (.ref (He.ga K "Beyond")) none H'
def sp_stepped (K : PySem.W.Frag) : Sp := Sp2 fun a b H Q E => ∃ (p : Addr) (l : List Int) (s : VametBase.Step), b = .ref p ∧ StepAt H a s ∧ Rw H p l ∧ l.length ≤ 40 ∧ (VametBase.within (VametBase.done s l) = true → RetL H ((VametBase.done s l).map V.int) Q) ∧ (VametBase.within (VametBase.done s l) = false → BeyondAt K H E)
theorem x_ifCall {σ : L2.St} {H : Hp} {Q : VK} {sp1 sp2 : Sp} {ta tb : TA} {b : Bool} {xs : List V} {E1 E2 : XK} (hk : RetL H xs Q) (h1 : RetL H xs Q → b = true → tCall sp1 [] E1 ta σ H Q) (h2 : RetL H xs Q → b = false → tCall sp2 [] E2 tb σ H Q) :
    if b = true then tCall sp1 [] E1 ta σ H Q else tCall sp2 [] E2 tb σ H Q := x_iteB (h1 hk) (h2 hk)
theorem flat_two (s : VametBase.Step) : (∃ k n, VametBase.flatStep s = [k, n]) ∨ (∃ k, VametBase.flatStep s = [k]) := by
  cases s <;> first | exact Or.inl ⟨_, _, rfl⟩ | exact Or.inr ⟨_, rfl⟩
theorem ok_stepped (T : Txt K mg) (c_by_number : Cal0 P w K mg base 2 "by_number" sp_by_number) (c_by_itself : Cal0 P w K mg base 2 "by_itself" sp_by_itself) : CalX P w K mg base 3 "stepped" (sp_stepped K) := by
  refine T.d_stepped.okX (k := 2) sc_stepped Sp2.len (fun f cdv A outer s H vs Q E hr h => ⟨_, (pss_cons (ps_set (i := 2) sc_stepped.nd rfl (Or.inl rfl) (pe_ifExp (pt_cmpR op_eq (pe_callB call_len_seq (by rfl) T.bi_len boot_len (pa_cons (pv 0) pa_nil)) pe_int (by first | exact nomark _ | rfl)) (pe_c0 c_by_number hr (by decide) (pa_cons (pe_ix ix_tup (pv 0) pe_int (fun _ _ => rfl)) (pa_cons (pe_ix ix_tup (pv 0) pe_int (fun _ _ => rfl)) (pa_cons (pv 1) pa_nil)))) (pe_c0 c_by_itself hr (by decide) (pa_cons (pe_ix ix_tup (pv 0) pe_int (fun _ _ => rfl)) (pa_cons (pv 1) pa_nil)))))
      (pss_cons (ps_if (PW.pt (pw_or (pt_cmpR op_gt (pe_callB call_len_seq (by rfl) T.bi_len boot_len (pa_cons (pv 2) pa_nil)) (C8.pe_gc (by rfl) T.k_MOST_NUMBERS) (by first | exact nomark _ | rfl)) (pw_or1 (pt_val (pe_callB (cr_any rfl) (by rfl) T.bi_any (by decide +kernel) (pa_cons (pe_lc (own := [("one", 3)]) (g := (gName 3)) (tt := tYes) (te := (tNotV (tChain (rI0 fun i j => .bl (decide (i ≤ j))) (rI0 fun i j => .bl (decide (i ≤ j))) (tOp (rI0 fun i j => .int (i - j)) (tC (.int 0)) (tC (.int 1000000))) (tVar 3) (tC (.int 1000000))))) rfl sc_stepped.nd (pi_list (pv 2)) (blkOk_by (N := N_stepped) (sc := defScope s_stepped) (by decide +kernel)) (fun _ _ _ _ _ => (pg_name (i := 3) sc_stepped.nd rfl (Or.inl rfl))) (fun _ _ _ _ _ => pts_nil) (fun _ _ _ _ _ => (pe_not (pe_chain op_le op_le (pe_op op_sub pe_int (C8.pe_gc (by rfl) T.k_FARTHEST_running)) (pv 3) (C8.pe_gc (by rfl) T.k_FARTHEST_running))))) pa_nil)))))) (pss_one (ps_raise rfl takesD (pmk_ownN PySem.F.excBase_ValueError T.xB T.gB T.kB (raises_own T.bB T.tB)))) pss_nil)
      (pss_one (ps_ret (pv 2))))), ?_⟩)
  obtain ⟨_, _, rfl, p, l, s, rfl, ⟨ps, rfl, hs, hw⟩, hl, hz, hq, hE⟩ := h
  dsimp only [cxOf]
  have hs' : SqT K H ps ((VametBase.flatStep s).map V.int) := sqT hs
  have hd := Mx.done_len s l
  walk_at "rk"
  refine x_len (Or.inr hs') ?_
  walk_at "rk"
  refine x_ifCall (xs := (VametBase.done s l).map V.int) (fun H1 r e hn hd1 => ?_) (fun hk c => ?_) (fun hk c => ?_)
  · walk_at "rk"
    refine x_len (Or.inl (sqL hd1)) ?_
    walk_at "rk"
    have hall : ∀ n : Int, (!(decide (0 - 1000000 ≤ n) && decide (n ≤ 1000000))) = true ↔ ¬ (-1000000 ≤ n ∧ n ≤ 1000000) := fun n => by
      by_cases h1 : 0 - 1000000 ≤ n <;> by_cases h2 : n ≤ 1000000 <;> simp [h1, h2] <;> omega
    refine x_ite (fun c => ?_) (fun c => ?_)
    · walk_at "rk"
      refine hE ?_ _ e
      cases hh : VametBase.within (VametBase.done s l) with
      | false => rfl
      | true =>
        have := (Mx.within_iff.mp hh).1
        rw [List.length_map] at c
        omega
    · walk_at "rk"
      refine x_lcGM (fun n => V.bl (!(decide (0 - 1000000 ≤ n) && decide (n ≤ 1000000)))) (fun q h => by walk_at "rd"; exact h) (sqL hd1) (by omega) (fun n hn H1 e q h => ?_) (fun H2 r2 e2 hn2 hd2 => ?_)
      · walk_at "rk"
        by_cases h1 : 0 - 1000000 ≤ n
        · refine x_iteT (decide_eq_true h1) ?_
          walk_at "rd"
          rw [decide_eq_true h1, Bool.true_and] at h
          exact h
        · refine x_iteF (decide_eq_false h1) ?_
          walk_at "rd"
          rw [decide_eq_false h1, Bool.false_and] at h
          exact h
      · walk_at "rk"
        refine ⟨r2, (VametBase.done s l).map fun n => !(decide (0 - 1000000 ≤ n) && decide (n ≤ 1000000)), rfl, sqL (by rw [hd2, List.map_map]; rfl), ?_⟩
        walk_at "rk"
        rw [List.any_map]
        refine x_iteB (fun c2 => ?_) (fun c2 => ?_)
        · walk_at "rk"
          refine hE ?_ _ (e.trans e2)
          cases hh : VametBase.within (VametBase.done s l) with
          | false => rfl
          | true =>
            obtain ⟨n, hn, hb⟩ := List.any_eq_true.mp c2
            exact absurd ((Mx.within_iff.mp hh).2 n hn) ((hall n).mp hb)
        · walk_at "rk"
          refine hq (Mx.within_iff.mpr ⟨?_, fun n hn => ?_⟩) _ r (e.trans e2) hn (e2 _ _ hd1)
          · rw [List.length_map] at c
            omega
          · have := List.any_eq_false.mp c2 n hn
            exact Classical.byContradiction fun z => this ((hall n).mpr z)
  · obtain ⟨k, n, hf⟩ | ⟨k, hf⟩ := flat_two s
    · rw [hf] at hs'
      walk_at "rk"
      refine x_ixT hs' (v := V.int k) rfl ?_
      walk_at "rk"
      refine x_ixT hs' (v := V.int n) rfl ?_
      walk_at "rk"
      exact ⟨_, _, _, rfl, p, l, s, k, n, rfl, rfl, rfl, hl, by omega, hf, hw, hk⟩
    · rw [hf, List.length_map] at c
      cases c
  · obtain ⟨k, n, hf⟩ | ⟨k, hf⟩ := flat_two s
    · rw [hf, List.length_map] at c
      cases c
    · rw [hf] at hs'
      walk_at "rk"
      refine x_ixT hs' (v := V.int k) rfl ?_
      walk_at "rk"
      exact ⟨_, _, rfl, p, l, s, k, rfl, rfl, hl, by omega, hf, hk⟩

/-! ### run_on -/
def sp_run_on (K : PySem.W.Frag) : Sp := Sp2 fun a b H Q E => ∃ (p : Addr) (l : List Int) (f : VametBase.Program), b = .ref p ∧ ProgAt H a f ∧ Rw H p l ∧ VametBase.within l = true ∧ (∀ m, VametBase.run f l = some m → RetL H (m.map V.int) Q) ∧ (VametBase.run f l = none → BeyondAt K H E)
theorem ok_run_on (T : Txt K mg) (c_stepped : CalX P w K mg base 3 "stepped" (sp_stepped K)) : CalX P w K mg base 4 "run_on" (sp_run_on K) := by
  refine T.d_run_on.okX (k := 3) sc_run_on Sp2.len (fun f cdv A outer s H vs Q E hr h => ⟨_, (pss_cons (ps_set (i := 2) sc_run_on.nd rfl (Or.inl rfl) (pe_callTy call_list_of (by rfl) T.bi_list (by decide +kernel) (pa_cons (pv 1) pa_nil)))
      (pss_cons (ps_for ownD rfl (pi_tup (pv 0)) (pg_name (i := 3) sc_run_on.nd rfl (Or.inl rfl)) (pss_one (ps_set (i := 2) sc_run_on.nd rfl (Or.inl rfl) (pe_cX c_stepped hr (by decide) passD (pa_cons (pv 3) (pa_cons (pv 2) pa_nil))))))
      (pss_one (ps_ret (pv 2))))), ?_⟩)
  obtain ⟨_, _, rfl, p, l, f, rfl, ⟨pf, vs, rfl, hf, hfs, hz⟩, hl, hw, hq, hE⟩ := h
  dsimp only [cxOf]
  walk_at "rk"
  refine ⟨p, _, rfl, Or.inl (sqL hl), fun r hr => ?_⟩
  have e := Ex.new (o := .lst (l.map V.int)) hr
  walk_at "rk"
  refine x_forT (a := pf) (xs := vs) (fun i σ' H' => ∃ (v : Option V) (r : Addr) (m : List Int), σ' = [some (.ref pf), some (.ref p), some (.ref r), v] ∧ Ex H H' ∧ H r = none ∧ Rw H' r m ∧ VametBase.run (f.take i) l = some m) (fun q h => by walk_at "rd"; exact h) (sqT (e _ _ hf)) ⟨none, r, l, rfl, e, hr, upd_same, rfl⟩ (fun i σ' H' _ ⟨_, _, _, _, e', _⟩ => sqT (e' _ _ hf)) ?_ ?_
  · rintro i x σ' H' hx ⟨v, r, m, rfl, e', hr', hm, hrun⟩
    obtain ⟨s, hs, hst⟩ := hfs.get hx
    walk_at "rk"
    have hwm := Mx.run_within hw hrun
    have hsn := Mx.run_snoc (f.take i) s l
    rw [← take_more hs, hrun] at hsn
    refine ⟨_, _, rfl, r, m, s, rfl, hst.ex e', hm, (Mx.within_iff.mp hwm).1, fun c => ?_, fun c => ?_⟩
    · intro H2 r2 e2 hn2 hd2
      walk_at "rk"
      refine ⟨_, r2, VametBase.done s m, rfl, e'.trans e2, e'.back hn2, hd2, ?_⟩
      rw [hsn]
      show (if VametBase.within (VametBase.done s m) = true then _ else _) = _
      rw [if_pos c]
    · intro H2 e2
      refine hE ?_ _ (e'.trans e2)
      have : VametBase.run (f.take (i + 1)) l = none := by
        rw [hsn]
        show (if VametBase.within (VametBase.done s m) = true then _ else _) = _
        rw [c, if_neg Bool.false_ne_true]
      exact Mx.run_stop this
  · rintro σ' H' ⟨v, r, m, rfl, e', hr', hm, hrun⟩
    rw [hfs.1, List.take_length] at hrun
    walk_at "rk"
    exact hq m hrun _ r e' hr' hm
end
end RR
/-! part P04 -/
/-! All rows of a run. -/
namespace RR
open PySem PySem.Spec PyProof.Rows L2
local macro_rules | `(tactic| walk_at "rd1") => `(tactic| (first
  | with_reducible refine x_seq ?_
  | with_reducible refine x_next ?_
  | with_reducible refine x_asg ?_
  | with_reducible refine x_name ?_
  | with_reducible refine x_ret ?_
  | with_reducible refine x_retN ?_
  | with_reducible refine x_drop ?_
  | with_reducible refine x_if ?_
  | ((with_reducible apply x_var); exact rfl)
  | ((with_reducible apply x_aug1); exact rfl)
  | with_reducible refine x_c ?_
  | with_reducible refine x_op ?_
  | with_reducible refine x_I0 ?_
  | with_reducible refine x_un ?_
  | with_reducible refine x_U ?_
  | with_reducible refine x_eqI ?_
  | with_reducible refine x_eqS ?_
  | with_reducible refine x_neI ?_
  | with_reducible refine x_test ?_
  | with_reducible refine x_tB ?_
  | with_reducible refine x_bl ?_
  | with_reducible refine x_and ?_
  | with_reducible refine x_or ?_
  | with_reducible refine x_not ?_
  | with_reducible refine x_andV ?_
  | with_reducible refine x_orV ?_
  | with_reducible refine x_notV ?_
  | with_reducible refine x_tIf ?_
  | with_reducible refine x_chain ?_
  | with_reducible refine x_cons ?_
  | with_reducible refine x_nil ?_
  | with_reducible refine x_tup ?_
  | with_reducible refine x_lst ?_
  | with_reducible refine x_tupF ?_
  | with_reducible refine x_cb ?_
  | with_reducible refine x_call ?_
  | with_reducible refine x_callS ?_
  | with_reducible refine x_meth ?_
  | with_reducible refine x_methS ?_
  | with_reducible refine x_make ?_
  | with_reducible refine x_ost ?_
  | with_reducible refine x_mkO ?_
  | with_reducible refine x_sFld ?_
  | with_reducible refine x_sFldAug ?_
  | with_reducible refine x_m1 ?_
  | with_reducible refine x_fld ?_
  | with_reducible refine x_bm ?_
  | with_reducible refine x_bmU ?_
  | with_reducible refine x_sl ?_
  | with_reducible refine x_part ?_
  | with_reducible refine x_noPart ?_
  | with_reducible refine x_revL ?_
  | with_reducible refine x_sz0 ?_
  | with_reducible refine x_sz1 ?_
  | with_reducible refine x_sz2 ?_
  | with_reducible refine x_sz3 ?_
  | with_reducible refine x_sz4 ?_
  | with_reducible refine x_sz5 ?_))
local macro_rules | `(tactic| walk_at "rd") => `(tactic| repeat walk_at "rd1")
local macro_rules | `(tactic| walk_at "rk") => `(tactic| repeat (first | walk_at "rd1" | with_reducible refine x_iteT (by decide) ?_ | with_reducible refine x_iteF (by decide) ?_))
section
variable {P : Program} {w : World} {K : PySem.W.Frag} {mg : Str → Option Value} {base : Heap}
def RowAt (H : Hp) (v : V) (l : List Int) : Prop := ∃ q, v = .ref q ∧ Rw H q l
theorem RowAt.ex {H H' : Hp} (e : Ex H H') {v : V} {l : List Int} (h : RowAt H v l) : RowAt H' v l := by
  obtain ⟨q, a, b⟩ := h
  exact ⟨q, a, e _ _ b⟩
def RowOff (H : Hp) (r : Addr) (v : V) (l : List Int) : Prop := ∃ q, v = .ref q ∧ q ≠ r ∧ Rw H q l
abbrev tb_rows_on (K : PySem.W.Frag) (W : WX) : TS := tDrop (tBM K "list" rAppend (tVar 2) (tCons (tCallS (sp_stepped K) (WE W) (tCons (tVar 3) (tCons (tOp (rIxL K) (tVar 2) (tUn (rU fun i => .int (-i)) (tC (.int 1)))) tNil))) tNil))
/-! ### rows_on -/
def sp_rows_on : Sp := Sp2 fun a b H Q _ => ∃ (p : Addr) (l : List Int) (f : VametBase.Program), b = .ref p ∧ ProgAt H a f ∧ Rw H p l ∧ VametBase.within l = true ∧ (∀ H' r vs, Ex H H' → H r = none → H' r = some (.lst vs) → AllAt (RowAt H') vs (Vameta.rowsOf f l) → Q (.ref r) H')
theorem ok_rows_on (T : Txt K mg) (c_stepped : CalX P w K mg base 3 "stepped" (sp_stepped K)) : Cal0 P w K mg base 4 "rows_on" sp_rows_on := by
  refine T.d_rows_on.ok0 (k := 3) sc_rows_on Sp2.len (fun f cdv A outer s H vs Q E hr h => ⟨_, (pss_cons (ps_set (i := 2) sc_rows_on.nd rfl (Or.inl rfl) (pe_lst (pa_cons (pe_callTy call_list_of (by rfl) T.bi_list (by decide +kernel) (pa_cons (pv 1) pa_nil)) pa_nil)))
      (pss_cons (ps_for PassesOwn.never rfl (pi_tup (pv 0)) (pg_name (i := 3) sc_rows_on.nd rfl (Or.inl rfl)) (pss_one (ps_try_only (c := .ref (He.ga K "Beyond")) (tb := fun W => tb_rows_on K W) (ts := fun _ _ _ => tRet (tVar 2)) (Wout := fun _ _ _ _ => False) rfl rfl ⟨rfl, by decide, .inl T.gB⟩ takes0 (fun W pn xe tk po => (pss_one (ps_expr (pe_bm PySem.F.plainAttrs_list PySem.F.slot_list_append PySem.F.type_list_append mt_append (pv 2) (pa_cons (pe_cX c_stepped hr (by decide) (fun σ => passAt tk σ) (pa_cons (pv 3) (pa_cons (pe_ix ix_list (pv 2) (pe_un un_neg pe_int) (fun _ _ => rfl)) pa_nil))) pa_nil))))) (fun a oe cls d pn hz hf => (pss_one (ps_ret (pv 2)))))))
      (pss_one (ps_ret (pv 2))))), ?_⟩)
  obtain ⟨_, _, rfl, p, l, f, rfl, ⟨pf, vs, rfl, hf, hfs, hz⟩, hl, hw, hq⟩ := h
  dsimp only [cxOf]
  walk_at "rk"
  refine ⟨p, _, rfl, Or.inl (sqL hl), fun r0 hr0 => ?_⟩
  have e0 := Ex.new (o := .lst (l.map V.int)) hr0
  walk_at "rk"
  intro r hr1
  have hne : r0 ≠ r := ne_of_none upd_same hr1
  have hr := e0.back hr1
  have e := e0.add (o := .lst [.ref r0]) hr1
  walk_at "rk"
  refine x_forT (a := pf) (xs := vs) (fun i σ' H' => ∃ (v : Option V) (ws : List V) (m : List Int), σ' = [some (.ref pf), some (.ref p), some (.ref r), v] ∧ Ex H H' ∧ H' r = some (.lst ws) ∧ VametBase.run (f.take i) l = some m ∧ AllAt (RowOff H' r) ws (Vameta.rowsOf (f.take i) l)) (fun q h => by walk_at "rd"; exact h) (sqT (e _ _ hf))
    ⟨none, _, l, rfl, e, upd_same, rfl, AllAt.snoc (l := []) AllAt.nil ⟨r0, rfl, hne, (upd_ne hne).trans upd_same⟩⟩ (fun i σ' H' _ ⟨_, _, _, _, e', _⟩ => sqT (e' _ _ hf)) ?_ ?_
  · rintro i x σ' H' hx ⟨v, ws, m, rfl, e', hr', hrun, hws⟩
    obtain ⟨s, hs, hst⟩ := hfs.get hx
    walk_at "rk"
    have hwm := Mx.run_within hw hrun
    have hsn := Mx.run_snoc (f.take i) s l
    rw [← take_more hs, hrun] at hsn
    have hrs := Mx.rows_snoc (f.take i) s l m hrun
    rw [← take_more hs] at hrs
    have hlen := Mx.rows_len (f.take i) l
    rw [List.length_take] at hlen
    walk_at "rk"
    refine ⟨x_tyL hr', ?_⟩
    walk_at "rk"
    obtain ⟨k, hk⟩ := Mx.rows_last (f.take i) l m hrun
    rw [hk] at hws
    obtain ⟨lv, hlv, q, rfl, hqr, hqm⟩ := hws.at (i := k.length) (by rw [List.getElem?_append_right (Nat.le_refl _), Nat.sub_self]; rfl)
    have hla : atI ws (-1) = some (.ref q) := by
      have hwl : ws.length = k.length + 1 := by rw [hws.1, List.length_append]; rfl
      have : ws = ws.take k.length ++ [.ref q] := by
        rw [← take_more hlv, List.take_of_length_le (by omega)]
      rw [this]
      exact atI_last _ _
    refine x_ixL (sqL hr') hla ?_
    walk_at "rk"
    refine ⟨_, _, rfl, q, m, s, rfl, hst.ex e', hqm, (Mx.within_iff.mp hwm).1, fun c => ?_, fun c => ?_⟩
    · intro H2 r2 e2 hn2 hd2
      walk_at "rk"
      refine x_append (e2 _ _ hr') (sz_lt (by rw [hws.1, ← hk]; omega)) ?_
      have hr2 : r2 ≠ r := fun z => by rw [z, hr'] at hn2; cases hn2
      refine ⟨_, _, VametBase.done s m, rfl, (e'.trans e2).mut hr, upd_same, ?_, ?_⟩
      · rw [hsn]
        show (if VametBase.within (VametBase.done s m) = true then _ else _) = _
        rw [if_pos c]
      · rw [hrs, if_pos c, hk]
        refine AllAt.snoc (hws.imp fun v l ⟨q, a, b, d⟩ => ⟨q, a, b, ?_⟩) ⟨r2, rfl, hr2, ?_⟩
        · show upd H2 r _ q = _
          rw [upd_ne b]
          exact e2 _ _ d
        · show upd H2 r _ r2 = _
          rw [upd_ne hr2]
          exact hd2
    · intro H2 e2
      refine ⟨true, T.em_Beyond, fun _ a ha => ?_, fun z => nomatch z⟩
      walk_at "rk"
      refine hq H2 r ws (e'.trans e2) hr (e2 _ _ hr') ?_
      rw [Mx.rows_stop f i s l m hrun hs c, hk]
      exact hws.imp fun v l ⟨q, a, b, d⟩ => ⟨q, a, e2 _ _ d⟩
  · rintro σ' H' ⟨v, ws, m, rfl, e', hr', hrun, hws⟩
    rw [hfs.1, List.take_length] at hws
    walk_at "rk"
    exact hq H' r ws e' hr hr' (hws.imp fun v l ⟨q, a, b, d⟩ => ⟨q, a, d⟩)
end
end RR
/-! part P05 -/
/-! Conditions, how rows stand. -/
namespace RR
open PySem PySem.Spec PyProof.Rows L2
local macro_rules | `(tactic| walk_at "rd1") => `(tactic| (first
  | with_reducible refine x_seq ?_
  | with_reducible refine x_next ?_
  | with_reducible refine x_asg ?_
  | with_reducible refine x_name ?_
  | with_reducible refine x_ret ?_
  | with_reducible refine x_retN ?_
  | with_reducible refine x_drop ?_
  | with_reducible refine x_if ?_
  | ((with_reducible apply x_var); exact rfl)
  | ((with_reducible apply x_aug1); exact rfl)
  | with_reducible refine x_c ?_
  | with_reducible refine x_op ?_
  | with_reducible refine x_I0 ?_
  | with_reducible refine x_un ?_
  | with_reducible refine x_U ?_
  | with_reducible refine x_eqI ?_
  | with_reducible refine x_eqS ?_
  | with_reducible refine x_neI ?_
  | with_reducible refine x_test ?_
  | with_reducible refine x_tB ?_
  | with_reducible refine x_bl ?_
  | with_reducible refine x_and ?_
  | with_reducible refine x_or ?_
  | with_reducible refine x_not ?_
  | with_reducible refine x_andV ?_
  | with_reducible refine x_orV ?_
  | with_reducible refine x_notV ?_
  | with_reducible refine x_tIf ?_
  | with_reducible refine x_chain ?_
  | with_reducible refine x_cons ?_
  | with_reducible refine x_nil ?_
  | with_reducible refine x_tup ?_
  | with_reducible refine x_lst ?_
  | with_reducible refine x_tupF ?_
  | with_reducible refine x_cb ?_
  | with_reducible refine x_call ?_
  | with_reducible refine x_callS ?_
  | with_reducible refine x_meth ?_
  | with_reducible refine x_methS ?_
  | with_reducible refine x_make ?_
  | with_reducible refine x_ost ?_
  | with_reducible refine x_mkO ?_
  | with_reducible refine x_sFld ?_
  | with_reducible refine x_sFldAug ?_
  | with_reducible refine x_m1 ?_
  | with_reducible refine x_fld ?_
  | with_reducible refine x_bm ?_
  | with_reducible refine x_bmU ?_
  | with_reducible refine x_sl ?_
  | with_reducible refine x_part ?_
  | with_reducible refine x_noPart ?_
  | with_reducible refine x_revL ?_
  | with_reducible refine x_sz0 ?_
  | with_reducible refine x_sz1 ?_
  | with_reducible refine x_sz2 ?_
  | with_reducible refine x_sz3 ?_
  | with_reducible refine x_sz4 ?_
  | with_reducible refine x_sz5 ?_))
local macro_rules | `(tactic| walk_at "rd") => `(tactic| repeat walk_at "rd1")
local macro_rules | `(tactic| walk_at "rk") => `(tactic| repeat (first | walk_at "rd1" | with_reducible refine x_iteT (by decide) ?_ | with_reducible refine x_iteF (by decide) ?_))
section
variable {P : Program} {w : World} {K : PySem.W.Frag} {mg : Str → Option Value} {base : Heap}
theorem bl_eq {a b : Bool} (h : a = b) : V.bl a = V.bl b := by rw [h]
theorem rises_all (l : List Int) : (List.range (l.length - 1)).all (fun j => decide (l.getD j 0 ≤ l.getD (j + 1) 0)) = VametBase.rises l := by
  rw [Bool.eq_iff_iff, List.all_eq_true, Mx.rises_iff]
  constructor
  · intro h i a b ha hb
    have hi : i + 1 < l.length := (List.getElem?_eq_some_iff.mp hb).1
    have := of_decide_eq_true (h i (List.mem_range.mpr (by omega)))
    rw [List.getD_eq_getElem?_getD, List.getD_eq_getElem?_getD, ha, hb] at this
    exact this
  · intro h j hj
    have hj := List.mem_range.mp hj
    have h1 : l[j]? = some (l.getD j 0) := by
      rw [List.getD_eq_getElem?_getD, List.getElem?_eq_getElem (by omega)]; rfl
    have h2 : l[j + 1]? = some (l.getD (j + 1) 0) := by
      rw [List.getD_eq_getElem?_getD, List.getElem?_eq_getElem (by omega)]; rfl
    exact decide_eq_true (h j _ _ h1 h2)
/-! ### is_so -/
def sp_is_so : Sp := Sp2 fun a b H Q _ => ∃ (p pc : Addr) (l : List Int) (c : VametBase.Cond), a = .ref pc ∧ b = .ref p ∧ H pc = some (.tup ((VametBase.flatCond c).map V.int)) ∧ Rw H p l ∧ l.length ≤ 1000 ∧ RetV H (.bl (VametBase.fitsCond c l)) Q
theorem ok_is_so (T : Txt K mg) : Cal0 P w K mg base 1 "is_so" sp_is_so := by
  refine T.d_is_so.ok0 (k := 0) sc_is_so Sp2.len (fun f cdv A outer s H vs Q E hr h => ⟨_, (pss_cons (ps_set (i := 2) sc_is_so.nd rfl (Or.inl rfl) (pe_ix ix_tup (pv 0) pe_int (fun _ _ => rfl)))
      (pss_cons (ps_if (pt_cmpR op_eq (pv 2) pe_int (by first | exact nomark _ | rfl)) (pss_one (ps_ret (pe_cmpR (op_neD hr.units) (pv 1) (pe_lst pa_nil) (by first | exact nomark _ | rfl)))) pss_nil)
      (pss_cons (ps_if (pt_cmpR op_eq (pv 2) pe_int (by first | exact nomark _ | rfl)) (pss_one (ps_ret (pe_callB (cr_all rfl) (by rfl) T.bi_all (by decide +kernel) (pa_cons (pe_lc (own := [("at", 3)]) (g := (gName 3)) (tt := tYes) (te := (tOp (rI0 fun i j => .bl (decide (i ≤ j))) (tOp (rIxL K) (tVar 1) (tOp (rI0 fun i j => .int (i - j)) (tVar 3) (tC (.int 1)))) (tOp (rIxL K) (tVar 1) (tVar 3)))) rfl sc_is_so.nd (pi_range2 rfl T.bi_range (pa_cons pe_int (pa_cons (pe_callB call_len_seq (by rfl) T.bi_len boot_len (pa_cons (pv 1) pa_nil)) pa_nil))) (blkOk_by (N := N_is_so) (sc := defScope s_is_so) (by decide +kernel)) (fun _ _ _ _ _ => (pg_name (i := 3) sc_is_so.nd rfl (Or.inl rfl))) (fun _ _ _ _ _ => pts_nil) (fun _ _ _ _ _ => (pe_cmpR op_le (pe_ix ix_list (pv 1) (pe_op op_sub (pv 3) pe_int) (fun _ _ => rfl)) (pe_ix ix_list (pv 1) (pv 3) (fun _ _ => rfl)) (by first | exact nomark _ | rfl)))) pa_nil)))) pss_nil)
      (pss_cons (ps_if (pt_cmpR op_eq (pv 2) pe_int (by first | exact nomark _ | rfl)) (pss_one (ps_ret (pe_callB (cr_all rfl) (by rfl) T.bi_all (by decide +kernel) (pa_cons (pe_lc (own := [("one", 4)]) (g := (gName 4)) (tt := tYes) (te := (tOp (rI0 fun i j => .bl (decide (j ≤ i))) (tVar 4) (tC (.int 0)))) rfl sc_is_so.nd (pi_list (pv 1)) (blkOk_by (N := N_is_so) (sc := defScope s_is_so) (by decide +kernel)) (fun _ _ _ _ _ => (pg_name (i := 4) sc_is_so.nd rfl (Or.inl rfl))) (fun _ _ _ _ _ => pts_nil) (fun _ _ _ _ _ => (pe_cmpR op_ge (pv 4) pe_int (by first | exact nomark _ | rfl)))) pa_nil)))) pss_nil)
      (pss_cons (ps_if (pt_cmpR op_eq (pv 2) pe_int (by first | exact nomark _ | rfl)) (pss_one (ps_ret (pe_cmpR op_eq (pe_lenSet T.bi_len T.bi_set (pv 1)) (pe_callB call_len_seq (by rfl) T.bi_len boot_len (pa_cons (pv 1) pa_nil)) (by first | exact nomark _ | rfl)))) pss_nil)
      (pss_one (ps_ret (pe_or (pe_cmpR op_eq (pv 2) pe_int (by first | exact nomark _ | rfl)) (pe_one (pe_cmpR op_ge (pe_callB call_len_seq (by rfl) T.bi_len boot_len (pa_cons (pv 1) pa_nil)) (pe_ix ix_tup (pv 0) pe_int (fun _ _ => rfl)) (by first | exact nomark _ | rfl))))))))))), ?_⟩)
  obtain ⟨_, _, rfl, p, pc, l, c, rfl, rfl, hc, hl, hz, hq⟩ := h
  dsimp only [cxOf]
  have hc' : SqT K H pc ((VametBase.flatCond c).map V.int) := sqT hc
  have hl' : SqL K H p (l.map V.int) := sqL hl
  cases c with
  | any =>
    walk_at "rk"
    refine x_ixT hc' (v := V.int 0) rfl ?_
    walk_at "rk"
    exact hq H (Ex.refl H)
  | some =>
    walk_at "rk"
    refine x_ixT hc' (v := V.int 1) rfl ?_
    walk_at "rk"
    intro r hr
    have e := Ex.new (o := .lst []) hr
    refine x_neL (l := l) (m := []) (sqL (e _ _ hl)) (sqL upd_same) ?_
    have : VametBase.fitsCond .some l = (!decide (l = [])) := by cases l <;> rfl
    rw [this] at hq
    exact hq _ e
  | rising =>
    walk_at "rk"
    refine x_ixT hc' (v := V.int 2) rfl ?_
    walk_at "rk"
    refine x_lcR (lo := 1) (hi := (l.length : Int)) (fun j => V.bl (decide (l.getD (j - 1).toNat 0 ≤ l.getD j.toNat 0))) (fun q h => ?_) (by omega) (by omega) (fun j hj H1 e q h => ?_) (fun H1 r e hn hd => ?_)
    · walk_at "rd"
      refine x_len (Or.inl hl') ?_
      walk_at "rd"
      rw [List.length_map]
      exact h
    · walk_at "rd"
      have j1 : l[j]? = some (l.getD j 0) := by
        rw [List.getD_eq_getElem?_getD, List.getElem?_eq_getElem (by omega)]; rfl
      have j2 : l[j + 1]? = some (l.getD (j + 1) 0) := by
        rw [List.getD_eq_getElem?_getD, List.getElem?_eq_getElem (by omega)]; rfl
      refine x_ixL (sqL (e _ _ hl)) (v := V.int (l.getD j 0)) (atI_of (by omega) (by rw [show (1 : Int) + (j : Nat) - 1 = (j : Int) by omega, Int.toNat_natCast, List.getElem?_map, j1]; rfl)) ?_
      walk_at "rd"
      refine x_ixL (sqL (e _ _ hl)) (v := V.int (l.getD (j + 1) 0)) (atI_of (by omega) (by rw [show (1 : Int) + (j : Nat) = ((j + 1 : Nat) : Int) by omega, Int.toNat_natCast, List.getElem?_map, j2]; rfl)) ?_
      walk_at "rd"
      rw [show (1 : Int) + (j : Nat) - 1 = (j : Int) by omega, show (1 : Int) + (j : Nat) = ((j + 1 : Nat) : Int) by omega, Int.toNat_natCast, Int.toNat_natCast] at h
      exact h
    · walk_at "rd"
      refine ⟨r, (List.range (l.length - 1)).map fun j => decide (l.getD j 0 ≤ l.getD (j + 1) 0), rfl, sqL ?_, ?_⟩
      · rw [hd, List.map_map, show ((l.length : Int) - 1).toNat = l.length - 1 by omega]
        congr 2
        apply List.map_congr_left
        intro j _
        show V.bl (decide (l.getD (1 + (j : Int) - 1).toNat 0 ≤ l.getD (1 + (j : Int)).toNat 0)) = _
        rw [show (1 : Int) + (j : Nat) - 1 = (j : Int) by omega, show (1 : Int) + (j : Nat) = ((j + 1 : Nat) : Int) by omega, Int.toNat_natCast, Int.toNat_natCast]
        rfl
      · rw [List.all_map]
        have : ((List.range (l.length - 1)).all (id ∘ fun j => decide (l.getD j 0 ≤ l.getD (j + 1) 0))) = VametBase.fitsCond .rising l := rises_all l
        rw [this]
        exact hq _ e
  | plus =>
    walk_at "rk"
    refine x_ixT hc' (v := V.int 3) rfl ?_
    walk_at "rk"
    refine x_lcGM (fun n => V.bl (decide (0 ≤ n))) (fun q h => by walk_at "rd"; exact h) hl' (by omega) (fun n hn H1 e q h => by walk_at "rd"; exact h) (fun H1 r e hn hd => ?_)
    walk_at "rk"
    refine ⟨r, l.map fun n => decide (0 ≤ n), rfl, sqL (by rw [hd, List.map_map]; rfl), ?_⟩
    rw [List.all_map]
    exact hq _ e
  | unlike =>
    walk_at "rk"
    refine x_ixT hc' (v := V.int 4) rfl ?_
    walk_at "rk"
    show tLenSet K (tVar 1) _ _ _
    refine (show (tVar 1) _ _ _ from ?_)
    walk_at "rk"
    refine ⟨p, l, rfl, hl', by omega, ?_⟩
    walk_at "rk"
    refine x_len (Or.inl hl') ?_
    walk_at "rk"
    rw [List.length_map, show dedup l = VametBase.onceOnly l from Mx.dedup_once l]
    have : VametBase.fitsCond .unlike l = decide ((((VametBase.onceOnly l).length : Nat) : Int) = (l.length : Int)) := by
      show ((VametBase.onceOnly l).length == l.length) = _
      rw [Bool.eq_iff_iff, beq_iff_eq, decide_eq_true_iff]
      omega
    rw [this] at hq
    exact hq H (Ex.refl H)
  | atLeast k =>
    walk_at "rk"
    refine x_ixT hc' (v := V.int 5) rfl ?_
    walk_at "rk"
    refine x_len (Or.inl hl') ?_
    walk_at "rk"
    refine x_ixT hc' (v := V.int k) rfl ?_
    walk_at "rk"
    rw [List.length_map]
    have : VametBase.fitsCond (.atLeast k) l = decide ((k : Int) ≤ (l.length : Int)) := by
      show decide (k ≤ l.length) = _
      rw [Bool.eq_iff_iff, decide_eq_true_iff, decide_eq_true_iff]
      omega
    rw [this] at hq
    exact hq H (Ex.refl H)
/-! ### stands -/
theorem sorted_beq (l m : List Int) : (VametBase.sorted l == VametBase.sorted m) = decide (VametBase.sorted l = VametBase.sorted m) := by
  rw [Bool.eq_iff_iff, beq_iff_eq, decide_eq_true_iff]
theorem all_in (l m : List Int) : ((l.map fun n => m.contains n).all id) = l.all m.contains := by
  rw [List.all_map]
  rfl
theorem pre_eq (l m : List Int) : l.isPrefixOf m = decide (m.take l.length = l) := by
  rw [Bool.eq_iff_iff, decide_eq_true_iff, List.isPrefixOf_iff_prefix]
  constructor
  · rintro ⟨r, rfl⟩
    rw [List.take_left]
  · intro h
    exact ⟨m.drop l.length, by
      have := List.take_append_drop l.length m
      rw [h] at this
      exact this⟩
def sp_stands : Sp := Sp3 fun a b c H Q _ => ∃ (p q : Addr) (l m : List Int) (r : VametBase.Rel), a = .int (VametBase.relNumber r) ∧ b = .ref p ∧ c = .ref q ∧ Rw H p l ∧ Rw H q m ∧ l.length ≤ 1000 ∧ m.length ≤ 1000 ∧ RetV H (.bl (VametBase.stands r l m)) Q
theorem ok_stands (T : Txt K mg) : Cal0 P w K mg base 1 "stands" sp_stands := by
  refine T.d_stands.ok0 (k := 0) sc_stands Sp3.len (fun f cdv A outer s H vs Q E hr h => ⟨_, (pss_cons (ps_if (pt_cmpR op_eq (pv 0) pe_int (by first | exact nomark _ | rfl)) (pss_one (ps_ret (pe_cmpR (op_eqD hr.units) (pv 1) (pv 2) (by first | exact nomark _ | rfl)))) pss_nil)
      (pss_cons (ps_if (pt_cmpR op_eq (pv 0) pe_int (by first | exact nomark _ | rfl)) (pss_one (ps_ret (pe_cmpR (op_eqD hr.units) (pe_callB cr_sortedI (by rfl) T.bi_sorted (by decide +kernel) (pa_cons (pv 1) pa_nil)) (pe_callB cr_sortedI (by rfl) T.bi_sorted (by decide +kernel) (pa_cons (pv 2) pa_nil)) (by first | exact nomark _ | rfl)))) pss_nil)
      (pss_cons (ps_if (pt_cmpR op_eq (pv 0) pe_int (by first | exact nomark _ | rfl)) (pss_one (ps_ret (pe_and (pe_callB (cr_all rfl) (by rfl) T.bi_all (by decide +kernel) (pa_cons (pe_lc (own := [("number", 5)]) (g := (gName 5)) (tt := tYes) (te := (tOp (rIn K false) (tVar 5) (tVar 2))) rfl sc_stands.nd (pi_list (pv 1)) (blkOk_by (N := N_stands) (sc := defScope s_stands) (by decide +kernel)) (fun _ _ _ _ _ => (pg_name (i := 5) sc_stands.nd rfl (Or.inl rfl))) (fun _ _ _ _ _ => pts_nil) (fun _ _ _ _ _ => (pe_cmpR op_in_seq (pv 5) (pv 2) (by first | exact nomark _ | rfl)))) pa_nil)) (pe_one (pe_callB (cr_all rfl) (by rfl) T.bi_all (by decide +kernel) (pa_cons (pe_lc (own := [("number", 5)]) (g := (gName 5)) (tt := tYes) (te := (tOp (rIn K false) (tVar 5) (tVar 1))) rfl sc_stands.nd (pi_list (pv 2)) (blkOk_by (N := N_stands) (sc := defScope s_stands) (by decide +kernel)) (fun _ _ _ _ _ => (pg_name (i := 5) sc_stands.nd rfl (Or.inl rfl))) (fun _ _ _ _ _ => pts_nil) (fun _ _ _ _ _ => (pe_cmpR op_in_seq (pv 5) (pv 1) (by first | exact nomark _ | rfl)))) pa_nil)))))) pss_nil)
      (pss_cons (ps_if (pt_cmpR op_eq (pv 0) pe_int (by first | exact nomark _ | rfl)) (pss_one (ps_ret (pe_cmpR (op_eqD hr.units) (pe_slice sl_list (pv 2) po_none (po_some (pe_callB call_len_seq (by rfl) T.bi_len boot_len (pa_cons (pv 1) pa_nil)))) (pv 1) (by first | exact nomark _ | rfl)))) pss_nil)
      (pss_cons (ps_if (pt_cmpR op_ne (pe_callB call_len_seq (by rfl) T.bi_len boot_len (pa_cons (pv 1) pa_nil)) (pe_callB call_len_seq (by rfl) T.bi_len boot_len (pa_cons (pv 2) pa_nil)) (by first | exact nomark _ | rfl)) (pss_one (ps_ret pe_bl)) pss_nil)
      (pss_cons (ps_if (pt_cmpR op_eq (pv 0) pe_int (by first | exact nomark _ | rfl)) (pss_one (ps_ret (pe_callB (cr_all rfl) (by rfl) T.bi_all (by decide +kernel) (pa_cons (pe_lc (own := [("left", 3), ("right", 4)]) (g := (gTup K 2 (gCons (gName 3) (gCons (gName 4) gNil)))) (tt := tYes) (te := (tOp (rI0 fun i j => .bl (decide (i ≤ j))) (tVar 3) (tVar 4))) rfl sc_stands.nd (pi_zip (by rfl) T.bi_zip (pa_cons (pv 1) (pa_cons (pv 2) pa_nil))) (blkOk_by (N := N_stands) (sc := defScope s_stands) (by decide +kernel)) (fun _ _ _ _ _ => (pg_tup rfl (pgs_cons (pg_name (i := 3) sc_stands.nd rfl (Or.inl rfl)) (pgs_cons (pg_name (i := 4) sc_stands.nd rfl (Or.inl rfl)) pgs_nil)))) (fun _ _ _ _ _ => pts_nil) (fun _ _ _ _ _ => (pe_cmpR op_le (pv 3) (pv 4) (by first | exact nomark _ | rfl)))) pa_nil)))) pss_nil)
      (pss_one (ps_ret (pe_or (pe_cmpR op_eq (pv 0) pe_int (by first | exact nomark _ | rfl)) (pe_one (pe_callB (cr_all rfl) (by rfl) T.bi_all (by decide +kernel) (pa_cons (pe_lc (own := [("left", 3), ("right", 4)]) (g := (gTup K 2 (gCons (gName 3) (gCons (gName 4) gNil)))) (tt := tYes) (te := (tOp (rI0 fun i j => .bl (decide (j ≤ i))) (tVar 3) (tVar 4))) rfl sc_stands.nd (pi_zip (by rfl) T.bi_zip (pa_cons (pv 1) (pa_cons (pv 2) pa_nil))) (blkOk_by (N := N_stands) (sc := defScope s_stands) (by decide +kernel)) (fun _ _ _ _ _ => (pg_tup rfl (pgs_cons (pg_name (i := 3) sc_stands.nd rfl (Or.inl rfl)) (pgs_cons (pg_name (i := 4) sc_stands.nd rfl (Or.inl rfl)) pgs_nil)))) (fun _ _ _ _ _ => pts_nil) (fun _ _ _ _ _ => (pe_cmpR op_ge (pv 3) (pv 4) (by first | exact nomark _ | rfl)))) pa_nil)))))))))))), ?_⟩)
  obtain ⟨_, _, _, rfl, p, q, l, m, r, rfl, rfl, rfl, hl, hm, hz, hz2, hq⟩ := h
  dsimp only [cxOf]
  have hl' : SqL K H p (l.map V.int) := sqL hl
  have hm' : SqL K H q (m.map V.int) := sqL hm
  have lens : ∀ {c : Prop}, (decide ((((l.map V.int).length : Nat) : Int) = (((m.map V.int).length : Nat) : Int)) = decide (l.length = m.length)) := by
    intro _
    rw [List.length_map, List.length_map, Bool.eq_iff_iff, decide_eq_true_iff, decide_eq_true_iff]
    omega
  cases r with
  | equal =>
    dsimp only [VametBase.relNumber]
    walk_at "rk"
    refine x_eqL hl' hm' ?_
    have : VametBase.stands .equal l m = decide (l = m) := by
      show (l == m) = _
      rw [Bool.eq_iff_iff, beq_iff_eq, decide_eq_true_iff]
    rw [this] at hq
    exact hq H (Ex.refl H)
  | bag =>
    dsimp only [VametBase.relNumber]
    walk_at "rk"
    refine ⟨p, l, rfl, hl', fun ns r hp hw hr => ?_⟩
    have e := Ex.new (o := .lst (ns.map V.int)) hr
    walk_at "rk"
    refine ⟨q, m, rfl, sqL (e _ _ hm), fun ns2 r2 hp2 hw2 hr2 => ?_⟩
    have ne : r ≠ r2 := ne_of_none upd_same hr2
    refine x_eqL (sqL ((upd_ne ne).trans upd_same)) (sqL upd_same) ?_
    rw [Mx.sorted_eq hp hw, Mx.sorted_eq hp2 hw2] at *
    have : VametBase.stands .bag l m = decide (VametBase.sorted l = VametBase.sorted m) := sorted_beq l m
    rw [this] at hq
    exact hq _ (e.add hr2)
  | numbers =>
    dsimp only [VametBase.relNumber]
    walk_at "rk"
    refine x_lcGM (fun n => V.bl (m.contains n)) (fun q h => by walk_at "rd"; exact h) hl' (by omega) (fun n hn H1 e q h => ?_) (fun H1 r e hn hd => ?_)
    · walk_at "rd"
      refine x_in (Or.inl (sqL (e _ _ hm))) rfl (flat_ints _) ?_
      rw [if_neg Bool.false_ne_true, inV_int]
      exact h
    · walk_at "rk"
      refine ⟨r, l.map fun n => m.contains n, rfl, sqL (by rw [hd, List.map_map]; rfl), ?_⟩
      refine ⟨_, rfl, ?_⟩
      rw [all_in]
      have : VametBase.stands .numbers l m = (l.all m.contains && m.all l.contains) := rfl
      rw [this] at hq
      refine x_iteB (fun c => ?_) (fun c => ?_)
      · rw [c, Bool.true_and] at hq
        walk_at "rk"
        refine x_lcGM (fun n => V.bl (l.contains n)) (fun q h => by walk_at "rd"; exact h) (sqL (e _ _ hm)) (by omega) (fun n hn H2 e2 q h => ?_) (fun H2 r2 e2 hn2 hd2 => ?_)
        · walk_at "rd"
          refine x_in (Or.inl (sqL (e2 _ _ (e _ _ hl)))) rfl (flat_ints _) ?_
          rw [if_neg Bool.false_ne_true, inV_int]
          exact h
        · walk_at "rk"
          refine ⟨r2, m.map fun n => l.contains n, rfl, sqL (by rw [hd2, List.map_map]; rfl), ?_⟩
          rw [all_in]
          exact hq _ (e.trans e2)
      · rw [c, Bool.false_and] at hq
        exact hq _ e
  | begins =>
    dsimp only [VametBase.relNumber]
    walk_at "rk"
    refine x_len (Or.inl hl') ?_
    walk_at "rk"
    refine x_int ?_
    refine x_slL hm' fun r hr => ?_
    have e := Ex.new (o := .lst (cutV (m.map V.int) none (some ((l.map V.int).length : Int)))) hr
    walk_at "rk"
    refine x_eqL (l := m.take l.length) (sqL ?_) (sqL (e _ _ hl)) ?_
    · rw [upd_same, cutV_to, List.length_map, List.map_take]
    · have : VametBase.stands .begins l m = decide (m.take l.length = l) := pre_eq l m
      rw [this] at hq
      exact hq _ e
  | most =>
    dsimp only [VametBase.relNumber]
    walk_at "rk"
    refine x_len (Or.inl hl') ?_
    walk_at "rk"
    refine x_len (Or.inl hm') ?_
    walk_at "rk"
    rw [lens (c := True)]
    by_cases c : l.length = m.length
    · refine x_iteF (by rw [decide_eq_true c]; rfl) ?_
      walk_at "rk"
      refine x_lcZ (l := l) (m := m) (by decide) (fun x y => V.bl (decide (x ≤ y))) (fun q h => by walk_at "rd"; exact h) hl' hm' c (by omega) (fun x y H1 e q h => by walk_at "rd"; exact h) (fun H1 r e hn hd => ?_)
      walk_at "rk"
      refine ⟨r, (l.zip m).map fun z => decide (z.1 ≤ z.2), rfl, sqL (by rw [hd, List.map_map]; rfl), ?_⟩
      rw [List.all_map]
      have : VametBase.stands .most l m = (l.zip m).all (id ∘ fun z => decide (z.1 ≤ z.2)) := by
        show (l.length == m.length && _) = _
        rw [beq_iff_eq.mpr c, Bool.true_and]
        rfl
      rw [this] at hq
      exact hq _ e
    · refine x_iteT (by rw [decide_eq_false c]; rfl) ?_
      walk_at "rk"
      have : VametBase.stands .most l m = false := by
        show (l.length == m.length && _) = _
        rw [beq_eq_false_iff_ne.mpr c, Bool.false_and]
      rw [this] at hq
      exact hq H (Ex.refl H)
  | least =>
    dsimp only [VametBase.relNumber]
    walk_at "rk"
    refine x_len (Or.inl hl') ?_
    walk_at "rk"
    refine x_len (Or.inl hm') ?_
    walk_at "rk"
    rw [lens (c := True)]
    by_cases c : l.length = m.length
    · refine x_iteF (by rw [decide_eq_true c]; rfl) ?_
      walk_at "rk"
      refine x_lcZ (l := l) (m := m) (by decide) (fun x y => V.bl (decide (y ≤ x))) (fun q h => by walk_at "rd"; exact h) hl' hm' c (by omega) (fun x y H1 e q h => by walk_at "rd"; exact h) (fun H1 r e hn hd => ?_)
      walk_at "rk"
      refine ⟨r, (l.zip m).map fun z => decide (z.2 ≤ z.1), rfl, sqL (by rw [hd, List.map_map]; rfl), ?_⟩
      rw [List.all_map]
      have : VametBase.stands .least l m = (l.zip m).all (id ∘ fun z => decide (z.2 ≤ z.1)) := by
        show (l.length == m.length && _) = _
        rw [beq_iff_eq.mpr c, Bool.true_and]
        rfl
      rw [this] at hq
      exact hq _ e
    · refine x_iteT (by rw [decide_eq_false c]; rfl) ?_
      walk_at "rk"
      have : VametBase.stands .least l m = false := by
        show (l.length == m.length && _) = _
        rw [beq_eq_false_iff_ne.mpr c, Bool.false_and]
      rw [this] at hq
      exact hq H (Ex.refl H)
  | long =>
    dsimp only [VametBase.relNumber]
    walk_at "rk"
    refine x_len (Or.inl hl') ?_
    walk_at "rk"
    refine x_len (Or.inl hm') ?_
    walk_at "rk"
    rw [lens (c := True)]
    have hb : VametBase.stands .long l m = decide (l.length = m.length) := by
      show (l.length == m.length) = _
      rw [Bool.eq_iff_iff, beq_iff_eq, decide_eq_true_iff]
    rw [hb] at hq
    by_cases c : l.length = m.length
    · refine x_iteF (by rw [decide_eq_true c]; rfl) ?_
      walk_at "rk"
      rw [decide_eq_true c] at hq
      exact hq H (Ex.refl H)
    · refine x_iteT (by rw [decide_eq_false c]; rfl) ?_
      walk_at "rk"
      rw [decide_eq_false c] at hq
      exact hq H (Ex.refl H)
end
end RR
/-! part P06 -/
/-! Sides, verdicts. -/
namespace RR
open PySem PySem.Spec PyProof.Rows L2
local macro_rules | `(tactic| walk_at "rd1") => `(tactic| (first
  | with_reducible refine x_seq ?_
  | with_reducible refine x_next ?_
  | with_reducible refine x_asg ?_
  | with_reducible refine x_name ?_
  | with_reducible refine x_ret ?_
  | with_reducible refine x_retN ?_
  | with_reducible refine x_drop ?_
  | with_reducible refine x_if ?_
  | ((with_reducible apply x_var); exact rfl)
  | ((with_reducible apply x_aug1); exact rfl)
  | with_reducible refine x_c ?_
  | with_reducible refine x_op ?_
  | with_reducible refine x_I0 ?_
  | with_reducible refine x_un ?_
  | with_reducible refine x_U ?_
  | with_reducible refine x_eqI ?_
  | with_reducible refine x_eqS ?_
  | with_reducible refine x_neI ?_
  | with_reducible refine x_test ?_
  | with_reducible refine x_tB ?_
  | with_reducible refine x_bl ?_
  | with_reducible refine x_and ?_
  | with_reducible refine x_or ?_
  | with_reducible refine x_not ?_
  | with_reducible refine x_andV ?_
  | with_reducible refine x_orV ?_
  | with_reducible refine x_notV ?_
  | with_reducible refine x_tIf ?_
  | with_reducible refine x_chain ?_
  | with_reducible refine x_cons ?_
  | with_reducible refine x_nil ?_
  | with_reducible refine x_tup ?_
  | with_reducible refine x_lst ?_
  | with_reducible refine x_tupF ?_
  | with_reducible refine x_cb ?_
  | with_reducible refine x_call ?_
  | with_reducible refine x_callS ?_
  | with_reducible refine x_meth ?_
  | with_reducible refine x_methS ?_
  | with_reducible refine x_make ?_
  | with_reducible refine x_ost ?_
  | with_reducible refine x_mkO ?_
  | with_reducible refine x_sFld ?_
  | with_reducible refine x_sFldAug ?_
  | with_reducible refine x_m1 ?_
  | with_reducible refine x_fld ?_
  | with_reducible refine x_bm ?_
  | with_reducible refine x_bmU ?_
  | with_reducible refine x_sl ?_
  | with_reducible refine x_part ?_
  | with_reducible refine x_noPart ?_
  | with_reducible refine x_revL ?_
  | with_reducible refine x_sz0 ?_
  | with_reducible refine x_sz1 ?_
  | with_reducible refine x_sz2 ?_
  | with_reducible refine x_sz3 ?_
  | with_reducible refine x_sz4 ?_
  | with_reducible refine x_sz5 ?_))
local macro_rules | `(tactic| walk_at "rd") => `(tactic| repeat walk_at "rd1")
local macro_rules | `(tactic| walk_at "rk") => `(tactic| repeat (first | walk_at "rd1" | with_reducible refine x_iteT (by decide) ?_ | with_reducible refine x_iteF (by decide) ?_))
def WfCond : VametBase.Cond → Prop
  | .atLeast k => k ≤ 9
  | _ => True
def CondAt (H : Hp) (v : V) (c : VametBase.Cond) : Prop := ∃ p, v = .ref p ∧ H p = some (.tup ((VametBase.flatCond c).map V.int)) ∧ WfCond c
def RelAt (H : Hp) (v : V) (r : VametBase.Relation) : Prop := ∃ p cv iv ov, v = .ref p ∧ H p = some (.tup [cv, iv, .int (VametBase.relNumber r.rel), ov]) ∧ CondAt H cv r.cond ∧ ProgAt H iv r.input ∧ ProgAt H ov r.output
theorem CondAt.ex {H H' : Hp} (e : Ex H H') {v : V} {c : VametBase.Cond} (h : CondAt H v c) : CondAt H' v c := by
  obtain ⟨p, a, b, d⟩ := h
  exact ⟨p, a, e _ _ b, d⟩
theorem RelAt.ex {H H' : Hp} (e : Ex H H') {v : V} {r : VametBase.Relation} (h : RelAt H v r) : RelAt H' v r := by
  obtain ⟨p, c, i, o, a, b, d, f, g⟩ := h
  exact ⟨p, c, i, o, a, e _ _ b, d.ex e, f.ex e, g.ex e⟩
def SidesAt (H : Hp) (v : V) : Option VametBase.Sides → Prop
  | none => v = .non
  | some s => ∃ p a b, v = .ref p ∧ H p = some (.tup [.ref a, .ref b]) ∧ Rw H a s.left ∧ Rw H b s.right ∧ VametBase.within s.left = true ∧ VametBase.within s.right = true
section
variable {P : Program} {w : World} {K : PySem.W.Frag} {mg : Str → Option Value} {base : Heap}
/-! ### sides_at -/
abbrev tb_sides_at (K : PySem.W.Frag) (W : WX) : TS := tSeq (tAsg (tCallS (sp_run_on K) (WE W) (tCons (tVar 6) (tCons (tCallS (sp_run_on K) (WE W) (tCons (tVar 0) (tCons (tVar 2) tNil))) tNil))) (gName 7))
  (tRet (tTup (tCons (tCallS (sp_run_on K) (WE W) (tCons (tVar 0) (tCons (tCallS (sp_run_on K) (WE W) (tCons (tVar 4) (tCons (tVar 2) tNil))) tNil))) (tCons (tVar 7) tNil))))
def sp_sides_at : Sp := Sp3 fun a b c H Q _ => ∃ (p : Addr) (l : List Int) (f : VametBase.Program) (r : VametBase.Relation), c = .ref p ∧ ProgAt H a f ∧ RelAt H b r ∧ Rw H p l ∧ VametBase.within l = true ∧ (∀ H' v, Ex H H' → SidesAt H' v (VametBase.sides f r l) → Q v H')
theorem ok_sides_at (T : Txt K mg) (c_is_so : Cal0 P w K mg base 1 "is_so" sp_is_so) (c_run_on : CalX P w K mg base 4 "run_on" (sp_run_on K)) : Cal0 P w K mg base 5 "sides_at" sp_sides_at := by
  refine T.d_sides_at.ok0 (k := 4) sc_sides_at Sp3.len (fun f cdv A outer s H vs Q E hr h => ⟨_, (pss_cons (ps_asg (pv 1) (pg_tup rfl (pgs_cons (pg_name (i := 3) sc_sides_at.nd rfl (Or.inl rfl)) (pgs_cons (pg_name (i := 4) sc_sides_at.nd rfl (Or.inl rfl)) (pgs_cons (pg_name (i := 5) sc_sides_at.nd rfl (Or.inl rfl)) (pgs_cons (pg_name (i := 6) sc_sides_at.nd rfl (Or.inl rfl)) pgs_nil))))))
      (pss_cons (ps_if (pt_not (pt_val (pe_c0 c_is_so hr (by decide) (pa_cons (pv 3) (pa_cons (pv 2) pa_nil))))) (pss_one (ps_ret pe_non)) pss_nil)
      (pss_one (ps_try_only (c := .ref (He.ga K "Beyond")) (tb := fun W => tb_sides_at K W) (ts := fun _ _ _ => tRet (tC .non)) (Wout := fun _ _ _ _ => False) rfl rfl ⟨rfl, by decide, .inl T.gB⟩ takes0 (fun W pn xe tk po => (pss_cons (ps_set (i := 7) sc_sides_at.nd rfl (Or.inl rfl) (pe_cX c_run_on hr (by decide) (fun σ => passAt tk σ) (pa_cons (pv 6) (pa_cons (pe_cX c_run_on hr (by decide) (fun σ => passAt tk σ) (pa_cons (pv 0) (pa_cons (pv 2) pa_nil))) pa_nil))))
      (pss_one (ps_ret (pe_tup (pa_cons (pe_cX c_run_on hr (by decide) (fun σ => passAt tk σ) (pa_cons (pv 0) (pa_cons (pe_cX c_run_on hr (by decide) (fun σ => passAt tk σ) (pa_cons (pv 4) (pa_cons (pv 2) pa_nil))) pa_nil))) (pa_cons (pv 7) pa_nil))))))) (fun a oe cls d pn hz hf => (pss_one (ps_ret pe_non))))))), ?_⟩)
  obtain ⟨_, _, _, rfl, p, l, f, r, rfl, hf, ⟨pr, cv, iv, ov, rfl, hpr, ⟨pc, rfl, hc, hcw⟩, hi, ho⟩, hl, hw, hq⟩ := h
  have hz := (Mx.within_iff.mp hw).1
  obtain ⟨pf, fvs, rfl, hf2⟩ := id hf
  dsimp only [cxOf]
  walk_at "rk"
  refine ⟨pr, _, rfl, sqT hpr, rfl, _, _, rfl, x_name ⟨_, _, rfl, x_name ⟨_, _, rfl, x_name ⟨_, _, rfl, x_name ⟨rfl, ?_⟩⟩⟩⟩⟩
  walk_at "rk"
  refine ⟨_, _, rfl, p, pc, l, r.cond, rfl, rfl, hc, hl, by omega, fun H1 e1 => ?_⟩
  walk_at "rk"
  unfold VametBase.sides at hq
  cases hfc : VametBase.fitsCond r.cond l with
  | false =>
    rw [hfc, Bool.not_false, if_pos rfl] at hq
    walk_at "rk"
    exact hq _ _ e1 rfl
  | true =>
    rw [hfc, Bool.not_true, if_neg Bool.false_ne_true] at hq
    walk_at "rk"
    refine ⟨_, _, rfl, p, l, f, rfl, hf.ex e1, e1 _ _ hl, hw, fun y hy => ?_, fun hn => ?_⟩
    · rw [hy] at hq
      have hwy := Mx.run_within hw hy
      rintro H2 py e2 hn2 hd2
      walk_at "rk"
      refine ⟨_, _, rfl, py, y, r.output, rfl, ho.ex (e1.trans e2), hd2, hwy, fun z hz2 => ?_, fun hn => ?_⟩
      · have hwz := Mx.run_within hwy hz2
        rintro H3 pz e3 hn3 hd3
        walk_at "rk"
        have e13 := e1.trans (e2.trans e3)
        refine ⟨_, _, rfl, p, l, r.input, rfl, hi.ex e13, e13 _ _ hl, hw, fun u hu => ?_, fun hn => ?_⟩
        · have hwu := Mx.run_within hw hu
          rintro H4 pu e4 hn4 hd4
          walk_at "rk"
          refine ⟨_, _, rfl, pu, u, f, rfl, hf.ex (e13.trans e4), hd4, hwu, fun v hv => ?_, fun hn => ?_⟩
          · have hwv := Mx.run_within hwu hv
            rintro H5 pv e5 hn5 hd5
            walk_at "rk"
            intro pt hpt
            have e6 := Ex.new (o := .tup [.ref pv, .ref pz]) hpt
            refine hq _ _ (((e13.trans e4).trans e5).trans e6) ?_
            simp only [Option.bind_some, hu, hv, hz2, Option.map_some]
            exact ⟨pt, pv, pz, rfl, upd_same, e6 _ _ hd5, e6 _ _ (e5 _ _ (e4 _ _ hd3)), hwv, hwz⟩
          · intro H5 e5
            refine ⟨true, T.em_Beyond, fun _ a ha => ?_, fun z => nomatch z⟩
            walk_at "rk"
            refine hq _ _ ((e13.trans e4).trans e5) ?_
            simp only [Option.bind_some, hu, hn, Option.bind_none]
            rfl
        · intro H5 e5
          refine ⟨true, T.em_Beyond, fun _ a ha => ?_, fun z => nomatch z⟩
          walk_at "rk"
          refine hq _ _ (e13.trans e5) ?_
          simp only [Option.bind_some, hn, Option.bind_none]
          rfl
      · intro H5 e5
        refine ⟨true, T.em_Beyond, fun _ a ha => ?_, fun z => nomatch z⟩
        walk_at "rk"
        refine hq _ _ ((e1.trans e2).trans e5) ?_
        have : ∀ o : Option VametBase.Row, (o.bind fun u => (VametBase.run f u).bind fun v => (VametBase.run r.output y).map fun z => (⟨v, z⟩ : VametBase.Sides)) = none := by
          intro o
          cases o with
          | none => rfl
          | some u =>
            show ((VametBase.run f u).bind fun v => (VametBase.run r.output y).map fun z => (⟨v, z⟩ : VametBase.Sides)) = none
            rw [hn]
            cases VametBase.run f u <;> rfl
        rw [Option.bind_some, this]
        rfl
    · intro H5 e5
      refine ⟨true, T.em_Beyond, fun _ a ha => ?_, fun z => nomatch z⟩
      walk_at "rk"
      refine hq _ _ (e1.trans e5) ?_
      rw [hn]
      rfl

/-! ### verdict_of -/
def verdictBy (r : VametBase.Relation) : Option VametBase.Sides → VametBase.Verdict
  | none => .off
  | some s => if VametBase.stands r.rel s.left s.right then .kept else .broken
theorem verdict_eq (f : VametBase.Program) (r : VametBase.Relation) (x : VametBase.Row) : VametBase.verdict f r x = verdictBy r (VametBase.sides f r x) := by
  unfold VametBase.verdict
  cases VametBase.sides f r x <;> rfl
def sp_verdict_of : Sp := Sp2 fun a b H Q _ => ∃ (r : VametBase.Relation) (o : Option VametBase.Sides), RelAt H a r ∧ SidesAt H b o ∧ RetV H (.int (VametBase.verdictNumber (verdictBy r o))) Q
theorem ok_verdict_of (T : Txt K mg) (c_stands : Cal0 P w K mg base 1 "stands" sp_stands) : Cal0 P w K mg base 2 "verdict_of" sp_verdict_of := by
  refine T.d_verdict_of.ok0 (k := 1) sc_verdict_of Sp2.len (fun f cdv A outer s H vs Q E hr h => ⟨_, (pss_cons (ps_if (pt_cmpR op_isN (pv 1) pe_non (by first | exact nomark _ | rfl)) (pss_one (ps_ret (C8.pe_gc (by rfl) T.k_OFF))) pss_nil)
      (pss_one (ps_ret (pe_ifExp (pt_val (pe_c0 c_stands hr (by decide) (pa_cons (pe_ix ix_tup (pv 0) pe_int (fun _ _ => rfl)) (pa_cons (pe_ix ix_tup (pv 1) pe_int (fun _ _ => rfl)) (pa_cons (pe_ix ix_tup (pv 1) pe_int (fun _ _ => rfl)) pa_nil))))) (C8.pe_gc (by rfl) T.k_KEPT) (C8.pe_gc (by rfl) T.k_BROKEN))))), ?_⟩)
  obtain ⟨_, _, rfl, r, o, ⟨pr, cv, iv, ov, rfl, hpr, hrest⟩, hs, hq⟩ := h
  dsimp only [cxOf]
  cases o with
  | none =>
    obtain rfl := hs
    walk_at "rk"
    refine ⟨rfl, ?_⟩
    walk_at "rk"
    exact hq H (Ex.refl H)
  | some sd =>
    obtain ⟨ps, a, b, rfl, hps, ha, hb, hwa, hwb⟩ := hs
    walk_at "rk"
    refine ⟨rfl, ?_⟩
    walk_at "rk"
    refine x_iteF (decide_eq_false (fun z => by cases z)) ?_
    walk_at "rk"
    refine x_ixT (sqT hpr) (v := V.int (VametBase.relNumber r.rel)) rfl ?_
    walk_at "rk"
    refine x_ixT (sqT hps) (v := V.ref a) rfl ?_
    walk_at "rk"
    refine x_ixT (sqT hps) (v := V.ref b) rfl ?_
    walk_at "rk"
    have h1 := (Mx.within_iff.mp hwa).1
    have h2 := (Mx.within_iff.mp hwb).1
    refine ⟨_, _, _, rfl, a, b, sd.left, sd.right, r.rel, rfl, rfl, rfl, ha, hb, by omega, by omega, fun H1 e1 => ?_⟩
    walk_at "rk"
    have : verdictBy r (some sd) = if VametBase.stands r.rel sd.left sd.right then .kept else .broken := rfl
    rw [this] at hq
    refine x_iteB (fun c => ?_) (fun c => ?_)
    · rw [c, if_pos rfl] at hq
      walk_at "rk"
      exact hq _ e1
    · rw [c, if_neg Bool.false_ne_true] at hq
      walk_at "rk"
      exact hq _ e1
end
end RR
/-! part P07 -/
/-! Bounds, inputs. -/
namespace RR
open PySem PySem.Spec PyProof.Rows L2
local macro_rules | `(tactic| walk_at "rd1") => `(tactic| (first
  | with_reducible refine x_seq ?_
  | with_reducible refine x_next ?_
  | with_reducible refine x_asg ?_
  | with_reducible refine x_name ?_
  | with_reducible refine x_ret ?_
  | with_reducible refine x_retN ?_
  | with_reducible refine x_drop ?_
  | with_reducible refine x_if ?_
  | ((with_reducible apply x_var); exact rfl)
  | ((with_reducible apply x_aug1); exact rfl)
  | with_reducible refine x_c ?_
  | with_reducible refine x_op ?_
  | with_reducible refine x_I0 ?_
  | with_reducible refine x_un ?_
  | with_reducible refine x_U ?_
  | with_reducible refine x_eqI ?_
  | with_reducible refine x_eqS ?_
  | with_reducible refine x_neI ?_
  | with_reducible refine x_test ?_
  | with_reducible refine x_tB ?_
  | with_reducible refine x_bl ?_
  | with_reducible refine x_and ?_
  | with_reducible refine x_or ?_
  | with_reducible refine x_not ?_
  | with_reducible refine x_andV ?_
  | with_reducible refine x_orV ?_
  | with_reducible refine x_notV ?_
  | with_reducible refine x_tIf ?_
  | with_reducible refine x_chain ?_
  | with_reducible refine x_cons ?_
  | with_reducible refine x_nil ?_
  | with_reducible refine x_tup ?_
  | with_reducible refine x_lst ?_
  | with_reducible refine x_tupF ?_
  | with_reducible refine x_cb ?_
  | with_reducible refine x_call ?_
  | with_reducible refine x_callS ?_
  | with_reducible refine x_meth ?_
  | with_reducible refine x_methS ?_
  | with_reducible refine x_make ?_
  | with_reducible refine x_ost ?_
  | with_reducible refine x_mkO ?_
  | with_reducible refine x_sFld ?_
  | with_reducible refine x_sFldAug ?_
  | with_reducible refine x_m1 ?_
  | with_reducible refine x_fld ?_
  | with_reducible refine x_bm ?_
  | with_reducible refine x_bmU ?_
  | with_reducible refine x_sl ?_
  | with_reducible refine x_part ?_
  | with_reducible refine x_noPart ?_
  | with_reducible refine x_revL ?_
  | with_reducible refine x_sz0 ?_
  | with_reducible refine x_sz1 ?_
  | with_reducible refine x_sz2 ?_
  | with_reducible refine x_sz3 ?_
  | with_reducible refine x_sz4 ?_
  | with_reducible refine x_sz5 ?_))
local macro_rules | `(tactic| walk_at "rd") => `(tactic| repeat walk_at "rd1")
local macro_rules | `(tactic| walk_at "rk") => `(tactic| repeat (first | walk_at "rd1" | with_reducible refine x_iteT (by decide) ?_ | with_reducible refine x_iteF (by decide) ?_))
section
variable {P : Program} {w : World} {K : PySem.W.Frag} {mg : Str → Option Value} {base : Heap}
theorem g_or {g g' : TG} {v : V} {σ : L2.St} {H : Hp} {Q : L2.St → Hp → Prop} (h : g v σ H Q ∨ g' v σ H Q) : (fun v σ H Q => g v σ H Q ∨ g' v σ H Q) v σ H Q := h
/-! ### many_inputs -/
def BoundAt (K : PySem.W.Frag) (H : Hp) (v : V) (b : VametBase.Bound) : Prop := ∃ p, v = .ref p ∧ (SqL K H p [.int b.long, .int b.lo, .int b.hi] ∨ SqT K H p [.int b.long, .int b.lo, .int b.hi]) ∧ b.long ≤ 8 ∧ -99 ≤ b.lo ∧ b.lo ≤ b.hi ∧ b.hi ≤ 99
def sp_many_inputs (K : PySem.W.Frag) : Sp := Sp1 fun a H Q _ => ∃ (b : VametBase.Bound), BoundAt K H a b ∧ RetV H (.int (Mi.cnt (VametBase.width b) b.long)) Q
theorem ok_many_inputs (T : Txt K mg) : Cal0 P w K mg base 1 "many_inputs" (sp_many_inputs K) := by
  refine T.d_many_inputs.ok0 (k := 0) sc_many_inputs Sp1.len (fun f cdv A outer s H vs Q E hr h => ⟨_, (pss_cons (ps_asg (pv 0) (pg_or (pg_tup rfl (pgs_cons (pg_name (i := 1) sc_many_inputs.nd rfl (Or.inl rfl)) (pgs_cons (pg_name (i := 2) sc_many_inputs.nd rfl (Or.inl rfl)) (pgs_cons (pg_name (i := 3) sc_many_inputs.nd rfl (Or.inl rfl)) pgs_nil)))) (pg_lst rfl (pgs_cons (pg_name (i := 1) sc_many_inputs.nd rfl (Or.inl rfl)) (pgs_cons (pg_name (i := 2) sc_many_inputs.nd rfl (Or.inl rfl)) (pgs_cons (pg_name (i := 3) sc_many_inputs.nd rfl (Or.inl rfl)) pgs_nil))))))
      (pss_cons (ps_set (i := 4) sc_many_inputs.nd rfl (Or.inl rfl) pe_int)
      (pss_cons (ps_set (i := 5) sc_many_inputs.nd rfl (Or.inl rfl) pe_int)
      (pss_cons (ps_for PassesOwn.never rfl (pi_range1 rfl T.bi_range (pa_cons (pv 1) pa_nil)) (pg_name (i := 6) sc_many_inputs.nd rfl (Or.inl rfl)) (pss_cons (ps_set (i := 5) sc_many_inputs.nd rfl (Or.inl rfl) (pe_op op_mul (pv 5) (pe_op op_add (pe_op op_sub (pv 3) (pv 2)) pe_int)))
      (pss_one (ps_set (i := 4) sc_many_inputs.nd rfl (Or.inl rfl) (pe_op op_add (pv 4) (pv 5))))))
      (pss_one (ps_ret (pv 4))))))), ?_⟩)
  obtain ⟨_, rfl, b, ⟨p, rfl, hb, h8, h1, h2, h3⟩, hq⟩ := h
  dsimp only [cxOf]
  have hw := Mi.width_eq h2
  walk_at "rk"
  refine hb.symm.imp (fun hb => ⟨p, _, rfl, hb, rfl, _, _, rfl, x_name ⟨_, _, rfl, x_name ⟨_, _, rfl, x_name ⟨rfl, ?_⟩⟩⟩⟩) (fun hb => ⟨p, _, rfl, hb, rfl, _, _, rfl, x_name ⟨_, _, rfl, x_name ⟨_, _, rfl, x_name ⟨rfl, ?_⟩⟩⟩⟩)
  all_goals
    walk_at "rk"
    refine x_forR1 (n := b.long) (fun i σ' H' => ∃ v : Option V, σ' = [some (.ref p), some (.int b.long), some (.int b.lo), some (.int b.hi), some (.int (Mi.cnt (VametBase.width b) i)), some (.int ((VametBase.width b ^ i : Nat) : Int)), v] ∧ H' = H) (fun q h => by walk_at "rd"; exact h) (by omega) ⟨none, rfl, rfl⟩ ?_ ?_
    · rintro i σ' H' hi ⟨v, rfl, rfl⟩
      walk_at "rk"
      refine x_I (Or.inr (by omega)) ?_
      walk_at "rk"
      refine ⟨some (.int (0 + (i : Nat))), ?_, rfl⟩
      have e : ((VametBase.width b ^ i : Nat) : Int) * (b.hi - b.lo + 1) = ((VametBase.width b ^ (i + 1) : Nat) : Int) := by
        rw [← hw, Nat.pow_succ]
        exact (Int.natCast_mul _ _).symm
      rw [e]
      rfl
    · rintro σ' H' ⟨v, rfl, rfl⟩
      walk_at "rk"
      exact hq _ (Ex.refl _)

/-! ### input_of -/
def sp_input_of (K : PySem.W.Frag) : Sp := Sp2 fun a n H Q _ => ∃ (b : VametBase.Bound) (p : Addr) (k : Nat), a = .ref p ∧ SqT K H p [.int b.long, .int b.lo, .int b.hi] ∧ n = .int k ∧ VametBase.okBound b = true ∧ k < VametBase.inputCount b ∧ RetL H ((VametBase.inputAt b k).map V.int) Q
theorem okBound_iff {b : VametBase.Bound} (h : VametBase.okBound b = true) : b.long ≤ 8 ∧ -99 ≤ b.lo ∧ b.lo ≤ b.hi ∧ b.hi ≤ 99 ∧ VametBase.inputCount b ≤ 1500 := by
  unfold VametBase.okBound at h
  simp only [Bool.and_eq_true, decide_eq_true_eq] at h
  obtain ⟨a, b1, c, d, e⟩ := h
  unfold VametBase.TOLD at b1 d
  unfold VametBase.INPUTS at e
  exact ⟨a, by omega, c, d, e⟩
theorem ok_input_of (T : Txt K mg) : Cal0 P w K mg base 1 "input_of" (sp_input_of K) := by
  refine T.d_input_of.ok0 (k := 0) sc_input_of Sp2.len (fun f cdv A outer s H vs Q E hr h => ⟨_, (pss_cons (ps_asg (pv 0) (pg_tup rfl (pgs_cons (pg_name (i := 2) sc_input_of.nd rfl (Or.inl rfl)) (pgs_cons (pg_name (i := 3) sc_input_of.nd rfl (Or.inl rfl)) (pgs_cons (pg_name (i := 4) sc_input_of.nd rfl (Or.inl rfl)) pgs_nil)))))
      (pss_cons (ps_set (i := 5) sc_input_of.nd rfl (Or.inl rfl) (pe_op op_add (pe_op op_sub (pv 4) (pv 3)) pe_int))
      (pss_cons (ps_set (i := 6) sc_input_of.nd rfl (Or.inl rfl) pe_int)
      (pss_cons (ps_set (i := 7) sc_input_of.nd rfl (Or.inl rfl) pe_int)
      (pss_cons (ps_set (i := 8) sc_input_of.nd rfl (Or.inl rfl) (pv 1))
      (pss_cons (ps_while PassesOwn.never (pt_cmpR op_ge (pv 8) (pv 7) (by first | exact nomark _ | rfl)) (pss_cons (ps_set (i := 8) sc_input_of.nd rfl (Or.inl rfl) (pe_op op_sub (pv 8) (pv 7)))
      (pss_cons (ps_set (i := 7) sc_input_of.nd rfl (Or.inl rfl) (pe_op op_mul (pv 7) (pv 5)))
      (pss_one (ps_aug (i := 6) sc_input_of.nd rfl (Or.inl rfl) pe_int ip_add)))))
      (pss_cons (ps_set (i := 9) sc_input_of.nd rfl (Or.inl rfl) (pe_lst pa_nil))
      (pss_cons (ps_for PassesOwn.never rfl (pi_range1 rfl T.bi_range (pa_cons (pv 6) pa_nil)) (pg_name (i := 10) sc_input_of.nd rfl (Or.inl rfl)) (pss_cons (ps_expr (pe_bm PySem.F.plainAttrs_list PySem.F.slot_list_append PySem.F.type_list_append mt_append (pv 9) (pa_cons (pe_op op_add (pv 3) (pe_op op_modN (pv 8) (pv 5))) pa_nil)))
      (pss_one (ps_set (i := 8) sc_input_of.nd rfl (Or.inl rfl) (pe_op op_fdivN (pv 8) (pv 5))))))
      (pss_one (ps_ret (pe_revL (pv 9)))))))))))), ?_⟩)
  obtain ⟨_, _, rfl, b, p, k, rfl, hb, rfl, hok, hk, hq⟩ := h
  obtain ⟨h8, h1, h2, h3, hc⟩ := okBound_iff hok
  dsimp only [cxOf]
  have hw := Mi.width_eq h2
  have hw1 : 1 ≤ VametBase.width b := by omega
  have hcnt : VametBase.inputCount b = Mi.cnt (VametBase.width b) b.long := by
    have := Mi.countTo_eq hw1 b.long
    unfold VametBase.inputCount at hc ⊢
    omega
  have hpo : ∀ i, i ≤ b.long → VametBase.powerOf (VametBase.width b) i = VametBase.width b ^ i := fun i hi => by
    have := Mi.pow_cnt (VametBase.width b) b.long i hi
    rw [Mi.powerOf_eq hw1]
    omega
  rw [hcnt, Mi.cnt_tail] at hk
  walk_at "rk"
  refine ⟨p, _, rfl, hb, rfl, _, _, rfl, x_name ⟨_, _, rfl, x_name ⟨_, _, rfl, x_name ⟨rfl, ?_⟩⟩⟩⟩
  walk_at "rk"
  refine x_while (fun f σ' H' => H' = H ∧ ∃ (i left : Nat), σ' = [some (.ref p), some (.int k), some (.int b.long), some (.int b.lo), some (.int b.hi), some (.int (b.hi - b.lo + 1)), some (.int i), some (.int ((VametBase.width b ^ i : Nat) : Int)), some (.int left), none, none] ∧
    i + f = b.long + 1 ∧ left < Mi.tail (VametBase.width b) i f ∧ VametBase.placeFrom (VametBase.width b) f i left = VametBase.placeFrom (VametBase.width b) (b.long + 1) 0 k) ⟨b.long + 1, rfl, 0, k, rfl, Nat.zero_add _, hk, rfl⟩ ?_
  rintro f σ' H' ⟨rfl, i, left, rfl, hi, hlt, hpl⟩
  cases f with
  | zero => exact absurd hlt (Nat.not_lt_zero _)
  | succ f =>
    have hp1 := hpo i (by omega)
    have hpl2 : VametBase.placeFrom (VametBase.width b) (f + 1) i left = if left < VametBase.width b ^ i then (i, left) else VametBase.placeFrom (VametBase.width b) f (i + 1) (left - VametBase.width b ^ i) := by
      show (if left < VametBase.powerOf _ i then _ else VametBase.placeFrom _ f (i + 1) (left - VametBase.powerOf _ i)) = _
      rw [hp1]
    walk_at "rk"
    by_cases c : left < VametBase.width b ^ i
    · refine x_iteF (decide_eq_false (by omega)) ?_
      rw [if_pos c, hpl] at hpl2
      have hin : VametBase.inputAt b k = (VametBase.digits (VametBase.width b) i left).map fun (d : Nat) => b.lo + VametBase.int d := by
        unfold VametBase.inputAt
        rw [hpl2]
      rw [hin, Mi.digits_rev] at hq
      walk_at "rk"
      intro r hr
      have e := Ex.new (o := .lst []) hr
      walk_at "rk"
      refine x_forR1 (n := i) (fun j σ' H2 => ∃ v : Option V, σ' = [some (.ref p), some (.int k), some (.int b.long), some (.int b.lo), some (.int b.hi), some (.int (b.hi - b.lo + 1)), some (.int i), some (.int ((VametBase.width b ^ i : Nat) : Int)), some (.int ((left / VametBase.width b ^ j : Nat) : Int)), some (.ref r), v] ∧ Ex H' H2 ∧
        H2 r = some (.lst ((Mi.rdig (VametBase.width b) j left).map fun (d : Nat) => V.int (b.lo + (d : Int))))) (fun q h => by walk_at "rd"; exact h) (by omega) ⟨none, by rw [Nat.pow_zero, Nat.div_one]; rfl, e, upd_same⟩ ?_ ?_
      · rintro j σ' H2 hj ⟨v, rfl, e2, hd⟩
        walk_at "rk"
        refine ⟨x_tyL hd, ?_⟩
        walk_at "rk"
        refine x_I (by show (b.hi - b.lo + 1) ≠ 0; omega) ?_
        walk_at "rk"
        refine x_append hd (sz_lt (by rw [List.length_map, Mi.rdig_len]; omega)) ?_
        walk_at "rk"
        refine x_I ⟨by omega, by omega⟩ ?_
        walk_at "rk"
        refine ⟨some (.int (0 + (j : Nat))), ?_, e2.mut hr, ?_⟩
        · rw [← hw, Int.fdiv_eq_ediv_of_nonneg _ (by omega), ← Int.natCast_ediv, Nat.div_div_eq_div_mul, ← Nat.pow_succ]
          rfl
        · rw [upd_same, Mi.rdig_snoc, List.map_append, ← hw, Int.fmod_eq_emod_of_nonneg _ (by omega), ← Int.natCast_emod]
          rfl
      · rintro σ' H2 ⟨v, rfl, e2, hd⟩
        walk_at "rk"
        refine ⟨r, _, rfl, sqL hd, fun r2 hr2 => ?_⟩
        refine hq _ r2 (e2.add hr2) (e2.back hr2) ?_
        rw [upd_same, List.map_reverse, List.map_reverse, List.map_map]
        rfl
    · refine x_iteT (decide_eq_true (by omega)) ?_
      refine x_turn ?_
      rw [if_neg c, hpl] at hpl2
      walk_at "rk"
      refine x_I (Or.inr (by omega)) ?_
      walk_at "rk"
      refine ⟨f, Nat.lt_succ_self f, rfl, i + 1, left - VametBase.width b ^ i, ?_, by omega, ?_, hpl2.symm⟩
      · have e1 : (left : Int) - ((VametBase.width b ^ i : Nat) : Int) = ((left - VametBase.width b ^ i : Nat) : Int) := by omega
        have e2 : ((VametBase.width b ^ i : Nat) : Int) * (b.hi - b.lo + 1) = ((VametBase.width b ^ (i + 1) : Nat) : Int) := by
          rw [← hw, Nat.pow_succ]
          exact (Int.natCast_mul _ _).symm
        rw [e1, e2]
        rfl
      · have : Mi.tail (VametBase.width b) i (f + 1) = VametBase.width b ^ i + Mi.tail (VametBase.width b) (i + 1) f := rfl
        omega
end
end RR
/-! part P08 -/
/-! Tokens. -/
namespace RR
open PySem PySem.Spec PyProof.Rows L2
local macro_rules | `(tactic| walk_at "rd1") => `(tactic| (first
  | with_reducible refine x_seq ?_
  | with_reducible refine x_next ?_
  | with_reducible refine x_asg ?_
  | with_reducible refine x_name ?_
  | with_reducible refine x_ret ?_
  | with_reducible refine x_retN ?_
  | with_reducible refine x_drop ?_
  | with_reducible refine x_if ?_
  | ((with_reducible apply x_var); exact rfl)
  | ((with_reducible apply x_aug1); exact rfl)
  | with_reducible refine x_c ?_
  | with_reducible refine x_op ?_
  | with_reducible refine x_I0 ?_
  | with_reducible refine x_un ?_
  | with_reducible refine x_U ?_
  | with_reducible refine x_eqI ?_
  | with_reducible refine x_eqS ?_
  | with_reducible refine x_neI ?_
  | with_reducible refine x_test ?_
  | with_reducible refine x_tB ?_
  | with_reducible refine x_bl ?_
  | with_reducible refine x_and ?_
  | with_reducible refine x_or ?_
  | with_reducible refine x_not ?_
  | with_reducible refine x_andV ?_
  | with_reducible refine x_orV ?_
  | with_reducible refine x_notV ?_
  | with_reducible refine x_tIf ?_
  | with_reducible refine x_chain ?_
  | with_reducible refine x_cons ?_
  | with_reducible refine x_nil ?_
  | with_reducible refine x_tup ?_
  | with_reducible refine x_lst ?_
  | with_reducible refine x_tupF ?_
  | with_reducible refine x_cb ?_
  | with_reducible refine x_call ?_
  | with_reducible refine x_callS ?_
  | with_reducible refine x_meth ?_
  | with_reducible refine x_methS ?_
  | with_reducible refine x_make ?_
  | with_reducible refine x_ost ?_
  | with_reducible refine x_mkO ?_
  | with_reducible refine x_sFld ?_
  | with_reducible refine x_sFldAug ?_
  | with_reducible refine x_m1 ?_
  | with_reducible refine x_fld ?_
  | with_reducible refine x_bm ?_
  | with_reducible refine x_bmU ?_
  | with_reducible refine x_sl ?_
  | with_reducible refine x_part ?_
  | with_reducible refine x_noPart ?_
  | with_reducible refine x_revL ?_
  | with_reducible refine x_sz0 ?_
  | with_reducible refine x_sz1 ?_
  | with_reducible refine x_sz2 ?_
  | with_reducible refine x_sz3 ?_
  | with_reducible refine x_sz4 ?_
  | with_reducible refine x_sz5 ?_))
local macro_rules | `(tactic| walk_at "rd") => `(tactic| repeat walk_at "rd1")
local macro_rules | `(tactic| walk_at "rk") => `(tactic| repeat (first | walk_at "rd1" | with_reducible refine x_iteT (by decide) ?_ | with_reducible refine x_iteF (by decide) ?_))
/-- a text's bytes as a row -/
abbrev tx (t : List Nat) : List V := t.map fun (n : Nat) => V.int (n : Int)
theorem tx_len (t : List Nat) : (tx t).length = t.length := by rw [tx, List.length_map]
theorem tx_at {t : List Nat} {i b : Nat} (h : t[i]? = some b) : atI (tx t) (i : Int) = some (V.int b) := atI_nat (by rw [List.getElem?_map, h]; rfl)
def TokIs : Vameta.Tok → Int → Str → Int → Prop
  | .word w, k, s, n => k = 0 ∧ s = SX.S w ∧ n = 0
  | .num m, k, s, n => k = 1 ∧ s = SX.S [] ∧ n = m
  | .sign b, k, s, n => k = 2 ∧ s = SX.S [b] ∧ n = 0
  | .ending, k, s, n => k = 3 ∧ s = SX.S [] ∧ n = 0
def TokObj (K : PySem.W.Frag) (H : Hp) (a : Addr) (t : Vameta.Token) : Prop := ∃ dx k s n, H a = some (.ins (He.ga K "Token") dx [("kind", .int k), ("word", .str s), ("number", .int n), ("place", .int t.place)]) ∧ TokIs t.tok k s n
/-- a token object that was not there in H0 -/
def TokNew (K : PySem.W.Frag) (H0 H : Hp) (v : V) (t : Vameta.Token) : Prop := ∃ a, v = .ref a ∧ H0 a = none ∧ TokObj K H a t
theorem TokObj.ex {K : PySem.W.Frag} {H H' : Hp} (e : Ex H H') {a : Addr} {t : Vameta.Token} (h : TokObj K H a t) : TokObj K H' a t := by
  obtain ⟨dx, k, s, n, x, y⟩ := h
  exact ⟨dx, k, s, n, e _ _ x, y⟩
theorem TokObj.exb {K : PySem.W.Frag} {H H' : Hp} {b : Addr} (e : ExB b H H') {a : Addr} (ne : a ≠ b) {t : Vameta.Token} (h : TokObj K H a t) : TokObj K H' a t := by
  obtain ⟨dx, k, s, n, x, y⟩ := h
  exact ⟨dx, k, s, n, e _ _ x ne, y⟩
def FaultE (K : PySem.W.Frag) (H : Hp) (E : XK) (kind place : Int) : Prop := ∀ H' d, Ex H H' → H' d = some (.xd [("place", .int place), ("kind", .int kind)]) → E (.ref (He.ga K "Fault")) (some d) H'
theorem putF_len (f : Str) (v : V) : ∀ fs : List (Str × V), (putF f v fs).length ≤ fs.length + 1
  | [] => Nat.le_refl _
  | (g, x) :: r => by
    unfold putF
    split
    · exact Nat.le_succ _
    · exact Nat.succ_le_succ (putF_len f v r)
section
variable {P : Program} {w : World} {K : PySem.W.Frag} {mg : Str → Option Value} {base : Heap}
/-! ### Fault.__init__ -/
def sp_Fault___init__ (K : PySem.W.Frag) : Sp := Sp3 fun a k p H Q _ => ∃ (x : Addr), a = .ref x ∧ H x = some (exo x (He.ga K "Fault") none) ∧ ∀ H' d, H d = none → ExB x H H' → H' x = some (exo x (He.ga K "Fault") (some d)) → H' d = some (exd d [("place", p), ("kind", k)]) → Q .non H'
theorem ok_Fault___init__ (T : Txt K mg) : MakE P w K mg base 1 "Fault" (He.ga K "Fault") (sp_Fault___init__ K) := by
  refine T.d_Fault___init__.ok0 (k := 0) sc_Fault___init__ Sp3.len (fun f cdv A outer s H vs Q E hr h => ⟨_, (pss_cons (ps_ost (pv 0) (pv 1))
      (pss_one (ps_ost (pv 0) (pv 2)))), ?_⟩)
  obtain ⟨_, k, p, rfl, x, rfl, hx, hq⟩ := h
  dsimp only [cxOf]
  walk_at "rk"
  refine ⟨x, _, rfl, T.ox_Fault, T.na_Fault_kind, Or.inl ⟨hx, fun d hd hdx => ?_⟩⟩
  walk_at "rk"
  refine ⟨x, _, rfl, T.ox_Fault, T.na_Fault_place, Or.inr ⟨d, _, upd_same, (upd_ne hdx).trans upd_same, by show (1 : Nat) ≤ 900; decide, ?_⟩⟩
  refine hq _ d hd (fun b o hb hn => ?_) ((upd_ne (Ne.symm hdx)).trans upd_same) upd_same
  have h1 : b ≠ d := ne_of_none hb hd
  rw [upd_ne h1, upd_ne hn, upd_ne h1]
  exact hb
/-- raising Fault(kind, place) -/
theorem mk_Fault {H : Hp} {QX : XK} {k p : Int} (hE : FaultE K H QX k p) : ([V.int k, V.int p] : List V).length ≤ 1000 ∧ ∀ a, H a = none → sp_Fault___init__ K (.ref a :: ([V.int k, V.int p] ++ [])) (upd H a (exo a (He.ga K "Fault") none))
    (fun v H2 => v = .non ∧ ∃ (d : Addr) (fs : List (Str × V)), H2 a = some (exo a (He.ga K "Fault") (some d)) ∧ H2 d = some (exd d fs) ∧ H d = none ∧ QX (.ref (He.ga K "Fault")) (some d) (upd (del H2 a) d (.xd fs))) (fun _ _ _ => False) := by
  refine ⟨by show 2 ≤ 1000; decide, fun a ha => ⟨_, _, _, rfl, a, rfl, upd_same, fun H' d hd hx h1 h2 => ⟨rfl, d, _, h1, h2, ?_, ?_⟩⟩⟩
  · by_cases e : d = a
    · rw [e]; exact ha
    · rw [upd_ne e] at hd; exact hd
  · have hda : d ≠ a := fun e => by rw [e, upd_same] at hd; cases hd
    rw [upd_ne hda] at hd
    refine hE _ d (fun b o hb => ?_) upd_same
    have b1 : b ≠ a := ne_of_none hb ha
    have b2 : b ≠ d := ne_of_none hb hd
    rw [upd_ne b2, del_ne b1]
    exact hx b o (by rw [upd_ne b1]; exact hb) b1

/-! ### Token.__init__ -/
def sp_Token___init__ (K : PySem.W.Frag) : Sp := Sp5 fun a k s n p H Q _ => ∃ (x dx : Addr), a = .ref x ∧ H x = some (.ins (He.ga K "Token") dx []) ∧ ∀ H', ExB x H H' → H' x = some (.ins (He.ga K "Token") dx [("kind", k), ("word", s), ("number", n), ("place", p)]) → Q .non H'
theorem ok_Token___init__ (T : Txt K mg) : Mak0 P w K mg base 1 "Token" (He.ga K "Token") (sp_Token___init__ K) := by
  refine T.d_Token___init__.ok0 (k := 0) sc_Token___init__ Sp5.len (fun f cdv A outer s H vs Q E hr h => ⟨_, (pss_cons (ps_fld (pv 0) (pv 1) rfl)
      (pss_cons (ps_fld (pv 0) (pv 2) rfl)
      (pss_cons (ps_fld (pv 0) (pv 3) rfl)
      (pss_one (ps_fld (pv 0) (pv 4) rfl))))), ?_⟩)
  obtain ⟨_, k, s, n, p, rfl, x, dx, rfl, hx, hq⟩ := h
  dsimp only [cxOf]
  walk_at "rk"
  refine ⟨x, _, dx, _, rfl, hx, T.cl_Token, T.na_Token_kind, by decide, ?_⟩
  walk_at "rk"
  refine ⟨x, _, dx, _, rfl, upd_same, T.cl_Token, T.na_Token_word, Nat.lt_of_le_of_lt (putF_len _ _ _) (by decide), ?_⟩
  walk_at "rk"
  refine ⟨x, _, dx, _, rfl, upd_same, T.cl_Token, T.na_Token_number, Nat.lt_of_le_of_lt (Nat.le_trans (putF_len _ _ _) (Nat.add_le_add_right (putF_len _ _ _) 1)) (by decide), ?_⟩
  walk_at "rk"
  refine ⟨x, _, dx, _, rfl, upd_same, T.cl_Token, T.na_Token_place, Nat.lt_of_le_of_lt (Nat.le_trans (putF_len _ _ _) (Nat.add_le_add_right (Nat.le_trans (putF_len _ _ _) (Nat.add_le_add_right (putF_len _ _ _) 1)) 1)) (by decide), ?_⟩
  refine hq _ (fun b o hb hn => ?_) upd_same
  rw [upd_ne hn, upd_ne hn, upd_ne hn, upd_ne hn]
  exact hb
/-- Token(k, s, n, p) -/
theorem mk_Token {H : Hp} {Q : Addr → Hp → Prop} {E : XK} {k n p : Int} {s : Str} (hq : ∀ H' x dx, Ex H H' → H x = none → H' x = some (.ins (He.ga K "Token") dx [("kind", .int k), ("word", .str s), ("number", .int n), ("place", .int p)]) → Q x H') :
    ∀ x dx, H x = none → H dx = none → dx ≠ x → sp_Token___init__ K (.ref x :: ([.int k, .str s, .int n, .int p] ++ [])) (upd (upd H dx (.own x)) x (.ins (He.ga K "Token") dx [])) (fun v H2 => v = .non ∧ Q x H2) E := by
  intro x dx hx hdx hne
  refine ⟨_, _, _, _, _, rfl, x, dx, rfl, upd_same, fun H' e h => ⟨rfl, hq H' x dx (fun b o hb => ?_) hx h⟩⟩
  have b1 : b ≠ x := ne_of_none hb hx
  have b2 : b ≠ dx := ne_of_none hb hdx
  exact e b o (by rw [upd_ne b1, upd_ne b2]; exact hb) b1

/-! ### is_letter, is_digit -/
def sp_is_letter : Sp := Sp1 fun a H Q _ => ∃ n : Nat, a = .int n ∧ RetV H (.bl (Vameta.isLetter n)) Q
theorem ok_is_letter (T : Txt K mg) : Cal0 P w K mg base 1 "is_letter" sp_is_letter := by
  refine T.d_is_letter.ok0 (k := 0) sc_is_letter Sp1.len (fun f cdv A outer s H vs Q E hr h => ⟨_, (pss_one (ps_ret (pe_chain op_le op_le pe_int (pv 0) pe_int))), ?_⟩)
  obtain ⟨_, rfl, n, rfl, hq⟩ := h
  have e : Vameta.isLetter n = (decide ((97 : Int) ≤ n) && decide ((n : Int) ≤ 122)) := by
    unfold Vameta.isLetter
    rw [Bool.eq_iff_iff]
    simp only [Bool.and_eq_true, decide_eq_true_eq]
    omega
  rw [e] at hq
  walk_at "rk"
  refine x_ite (fun c => ?_) (fun c => ?_)
  · rw [decide_eq_true c, Bool.true_and] at hq
    walk_at "rk"
    exact hq _ (Ex.refl _)
  · rw [decide_eq_false c, Bool.false_and] at hq
    exact hq _ (Ex.refl _)
def sp_is_digit : Sp := Sp1 fun a H Q _ => ∃ n : Nat, a = .int n ∧ RetV H (.bl (Vameta.isDigit n)) Q
theorem ok_is_digit (T : Txt K mg) : Cal0 P w K mg base 1 "is_digit" sp_is_digit := by
  refine T.d_is_digit.ok0 (k := 0) sc_is_digit Sp1.len (fun f cdv A outer s H vs Q E hr h => ⟨_, (pss_one (ps_ret (pe_chain op_le op_le pe_int (pv 0) pe_int))), ?_⟩)
  obtain ⟨_, rfl, n, rfl, hq⟩ := h
  have e : Vameta.isDigit n = (decide ((48 : Int) ≤ n) && decide ((n : Int) ≤ 57)) := by
    unfold Vameta.isDigit
    rw [Bool.eq_iff_iff]
    simp only [Bool.and_eq_true, decide_eq_true_eq]
    omega
  rw [e] at hq
  walk_at "rk"
  refine x_ite (fun c => ?_) (fun c => ?_)
  · rw [decide_eq_true c, Bool.true_and] at hq
    walk_at "rk"
    exact hq _ (Ex.refl _)
  · rw [decide_eq_false c, Bool.false_and] at hq
    exact hq _ (Ex.refl _)

/-! ### word_at -/
def TokRet (K : PySem.W.Frag) (H : Hp) (t : Vameta.Token) (e : Nat) (Q : VK) : Prop := ∀ H' q v, Ex H H' → H' q = some (.tup [v, .int e]) → TokNew K H H' v t → Q (.ref q) H'
def GotTok (K : PySem.W.Frag) (H : Hp) (g : Vameta.Got (Vameta.Token × Nat)) (i : Nat) (Q : VK) (E : XK) : Prop := match g with
  | .error f => FaultE K H E f.kind f.place
  | .ok x => TokRet K H x.1 (i + x.2) Q
theorem letters_at : ∀ b : Nat, 97 ≤ b → b ≤ 122 → atI (Str.cps "abcdefghijklmnopqrstuvwxyz").toList ((b : Int) - 97) = some b := by
  intro b h1 h2
  have : ∀ k : Nat, k < 26 → atI (Str.cps "abcdefghijklmnopqrstuvwxyz").toList (((k + 97 : Nat) : Int) - 97) = some (k + 97) := by decide +kernel
  have h := this (b - 97) (by omega)
  rw [show b - 97 + 97 = b by omega] at h
  exact h
theorem joinL_one : ∀ l : List Nat, TL.joinL [] (l.map fun b => [b]) = l
  | [] => rfl
  | [a] => rfl
  | a :: b :: l => by
    show [a] ++ ([] ++ TL.joinL [] ((b :: l).map fun b => [b])) = _
    rw [joinL_one (b :: l)]
    rfl
theorem join_one (l : List Nat) : Txt.join (Str.ofString "") (l.map fun b => (⟨#[b]⟩ : Str)) = SX.S l := by
  have e : (l.map fun b => (⟨#[b]⟩ : Str)) = (l.map fun b => [b]).map SX.S := by
    rw [List.map_map]
    rfl
  have z := joinL_one l
  have e0 : Str.ofString "" = SX.S [] := by rfl
  rw [e, e0, SX.join_S, z]
theorem sum_ones (l : List Nat) : ((l.map fun b => (⟨#[b]⟩ : Str)).map (·.length)).sum = l.length := by
  induction l with
  | nil => rfl
  | cons a l ih =>
    rw [List.map_cons, List.map_cons, List.sum_cons, ih, List.length_cons]
    show 1 + l.length = _
    omega
def sp_word_at (K : PySem.W.Frag) : Sp := Sp2 fun a b H Q E => ∃ (p : Addr) (t : List Nat) (i x : Nat), a = .ref p ∧ b = .int i ∧ H p = some (.lst (tx t)) ∧ t.length ≤ 1500 ∧ t[i]? = some x ∧ Vameta.isLetter x = true ∧ GotTok K H (Mt.one i (t.drop i)) i Q E
theorem ok_word_at (T : Txt K mg) (c_Fault___init__ : MakE P w K mg base 1 "Fault" (He.ga K "Fault") (sp_Fault___init__ K)) (c_Token___init__ : Mak0 P w K mg base 1 "Token" (He.ga K "Token") (sp_Token___init__ K)) (c_is_letter : Cal0 P w K mg base 1 "is_letter" sp_is_letter) :
    CalX P w K mg base 3 "word_at" (sp_word_at K) := by
  refine T.d_word_at.okX (k := 2) sc_word_at Sp2.len (fun f cdv A outer s H vs Q E hr h => ⟨_, (pss_cons (ps_set (i := 2) sc_word_at.nd rfl (Or.inl rfl) (pv 1))
      (pss_cons (ps_while ownD (PW.pt (pw_and (pt_cmpR op_lt (pv 2) (pe_callB call_len_seq (by rfl) T.bi_len boot_len (pa_cons (pv 0) pa_nil)) (by first | exact nomark _ | rfl)) (pw_and1 (pt_val (pe_c0 c_is_letter hr (by decide) (pa_cons (pe_ix ix_list (pv 0) (pv 2) (fun _ _ => rfl)) pa_nil)))))) (pss_one (ps_aug (i := 2) sc_word_at.nd rfl (Or.inl rfl) pe_int ip_add)))
      (pss_cons (ps_if (pt_cmpR op_gt (pe_op op_sub (pv 2) (pv 1)) (C8.pe_gc (by rfl) T.k_LONGEST_WORD) (by first | exact nomark _ | rfl)) (pss_one (ps_raise rfl takesD (pmk_e c_Fault___init__ hr (by decide) (pa_cons pe_int (pa_cons (pv 1) pa_nil))))) pss_nil)
      (pss_cons (ps_set (i := 3) sc_word_at.nd rfl (Or.inl rfl) (pe_join pe_str (pe_lc (own := [("place", 4)]) (g := (gName 4)) (tt := tYes) (te := (tOp rIxS (tC (.str "abcdefghijklmnopqrstuvwxyz")) (tOp (rI0 fun i j => .int (i - j)) (tOp (rIxL K) (tVar 0) (tVar 4)) (tC (.int 97))))) rfl sc_word_at.nd (pi_range2 rfl T.bi_range (pa_cons (pv 1) (pa_cons (pv 2) pa_nil))) (blkOk_by (N := N_word_at) (sc := defScope s_word_at) (by decide +kernel)) (fun _ _ _ _ _ => (pg_name (i := 4) sc_word_at.nd rfl (Or.inl rfl))) (fun _ _ _ _ _ => pts_nil) (fun _ _ _ _ _ => (pe_ix ix_str (C8.pe_gc (by rfl) T.k_LETTERS) (pe_op op_sub (pe_ix ix_list (pv 0) (pv 4) (fun _ _ => rfl)) pe_int) (fun _ _ => rfl))))))
      (pss_one (ps_ret (pe_tup (pa_cons (pe_k0 c_Token___init__ hr (by decide) (pa_cons (C8.pe_gc (by rfl) T.k_WORD) (pa_cons (pv 3) (pa_cons pe_int (pa_cons (pv 1) pa_nil))))) (pa_cons (pv 2) pa_nil))))))))), ?_⟩)
  obtain ⟨_, _, rfl, p, t, i, x, rfl, rfl, hp, hz, hx, hlet, hq⟩ := h
  dsimp only [cxOf]
  have hp' : SqL K H p (tx t) := sqL hp
  have hi : i < t.length := (List.getElem?_eq_some_iff.mp hx).1
  have hd : t.drop i = x :: t.drop (i + 1) := by
    rw [List.drop_eq_getElem_cons hi]
    congr 1
    exact Option.some.inj ((List.getElem?_eq_getElem hi).symm.trans hx)
  walk_at "rk"
  refine x_whileJ (fun j : Nat => [some (.ref p), some (.int i), some (.int ((i + j : Nat) : Int)), none, none]) (fun j H' => Ex H H' ∧ i + j ≤ t.length ∧ ∀ n b, n < j → (t.drop i)[n]? = some b → Vameta.isLetter b = true) (fun j => t.length - (i + j))
    (fun j => decide (i + j < t.length) && Vameta.isLetter (t.getD (i + j) 0)) 0 ⟨rfl, Ex.refl H, by omega, fun n b hn => absurd hn (Nat.not_lt_zero _)⟩ (fun j H1 H2 h e => ⟨h.1.trans e, h.2⟩) ?_ ?_ ?_
  · rintro j H' ⟨e, hij, hall⟩ q hb
    walk_at "rk"
    refine x_len (Or.inl (e.l hp')) ?_
    rw [tx_len]
    walk_at "rk"
    by_cases c : i + j < t.length
    · refine x_iteT (decide_eq_true (by omega)) ?_
      have hg : t[i + j]? = some (t.getD (i + j) 0) := by
        rw [List.getD_eq_getElem?_getD, List.getElem?_eq_getElem c]; rfl
      walk_at "rk"
      refine x_ixL (e.l hp') (tx_at hg) ?_
      walk_at "rk"
      refine ⟨_, rfl, _, rfl, fun H1 e1 => ?_⟩
      walk_at "rk"
      have := hb H1 e1
      rw [decide_eq_true c, Bool.true_and] at this
      exact this
    · refine x_iteF (decide_eq_false (by omega)) ?_
      have := hb H' (Ex.refl _)
      rw [decide_eq_false c, Bool.false_and] at this
      exact this
  · rintro j H' ⟨e, hij, hall⟩ hB
    rw [Bool.and_eq_true, decide_eq_true_eq] at hB
    walk_at "rk"
    refine ⟨j + 1, by omega, rfl, e, by omega, fun n b hn hb => ?_⟩
    by_cases c : n = j
    · subst c
      rw [List.getElem?_drop] at hb
      have := hB.2
      rw [List.getD_eq_getElem?_getD, hb] at this
      exact this
    · exact hall n b (by omega) hb
  · rintro j H' ⟨e, hij, hall⟩ hB
    have htw : (t.drop i).takeWhile Vameta.isLetter = (t.drop i).take j := by
      refine Mt.takeWhile_take _ j hall (fun b hb => ?_) (by rw [List.length_drop]; omega)
      rw [List.getElem?_drop] at hb
      have hlt := (List.getElem?_eq_some_iff.mp hb).1
      rw [decide_eq_true hlt, Bool.true_and, List.getD_eq_getElem?_getD, hb] at hB
      exact hB
    have hlen : ((t.drop i).take j).length = j := by
      rw [List.length_take, List.length_drop]; omega
    have h1 : Mt.one i (t.drop i) = if 8 < j then .error ⟨1, i⟩ else .ok (⟨i, .word ((t.drop i).take j)⟩, j) := by
      rw [hd, Mt.one_cons, if_pos hlet, ← hd, htw, hlen]
    rw [h1] at hq
    walk_at "rk"
    refine x_ite (fun c => ?_) (fun c => ?_)
    · rw [if_pos (by omega)] at hq
      walk_at "rk"
      refine mk_Fault fun H2 d e2 h2 => hq H2 d (e.trans e2) h2
    · rw [if_neg (by omega)] at hq
      walk_at "rk"
      refine ⟨⟨_, rfl⟩, ?_⟩
      walk_at "rk"
      refine x_lcR (lo := (i : Int)) (hi := ((i + j : Nat) : Int)) (fun n => V.str ⟨#[t.getD n.toNat 0]⟩) (fun q h => by walk_at "rd"; exact h) (by omega) (by omega) (fun n hn H2 e2 q h => ?_) (fun H2 r e2 hn2 hd2 => ?_)
      · walk_at "rd"
        have hg : t[i + n]? = some (t.getD (i + n) 0) := by
          rw [List.getD_eq_getElem?_getD, List.getElem?_eq_getElem (by omega)]; rfl
        have hlt : Vameta.isLetter (t.getD (i + n) 0) = true := hall n _ (by omega) (by rw [List.getElem?_drop]; exact hg)
        rw [show ((i : Int) + (n : Nat)) = ((i + n : Nat) : Int) by omega] at h ⊢
        refine x_ixL ((e.trans e2).l hp') (tx_at hg) ?_
        walk_at "rd"
        unfold Vameta.isLetter at hlt
        simp only [Bool.and_eq_true, decide_eq_true_eq] at hlt
        refine ⟨_, _, _, rfl, rfl, by decide, letters_at _ hlt.1 hlt.2, ?_⟩
        rw [Int.toNat_natCast] at h
        exact h
      · walk_at "rk"
        have hr : H2 r = some (.lst ((((t.drop i).take j).map fun b => (⟨#[b]⟩ : Str)).map V.str)) := by
          rw [hd2, List.map_map]
          congr 2
          rw [show (((i + j : Nat) : Int) - (i : Int)).toNat = j by omega]
          apply List.ext_getElem?
          intro n
          rw [List.getElem?_map, List.getElem?_map]
          by_cases hn : n < j
          · rw [List.getElem?_range hn, List.getElem?_take, if_pos hn, List.getElem?_drop, List.getElem?_eq_getElem (show i + n < t.length by omega)]
            show some (V.str ⟨#[t.getD ((i : Int) + (n : Nat)).toNat 0]⟩) = _
            rw [show ((i : Int) + (n : Nat)).toNat = i + n by omega, List.getD_eq_getElem?_getD, List.getElem?_eq_getElem (show i + n < t.length by omega)]
            rfl
          · rw [List.getElem?_eq_none (by rw [List.length_range]; omega), List.getElem?_eq_none (by rw [hlen]; omega)]
            rfl
        refine ⟨_, r, _, rfl, rfl, Or.inl (sqL hr), ?_, ?_⟩
        · rw [sum_ones, List.length_map, hlen]
          show j + j * 0 ≤ 16777216
          omega
        · rw [join_one]
          walk_at "rk"
          refine mk_Token fun H3 y dx e3 hn3 h3 => ?_
          walk_at "rk"
          intro z hz3
          have e4 := Ex.new (o := .tup [V.ref y, V.int ((i + j : Nat) : Int)]) hz3
          refine hq _ z (.ref y) (((e.trans e2).trans e3).trans e4) upd_same ⟨y, rfl, (e.trans e2).back hn3, ?_⟩
          exact TokObj.ex e4 ⟨dx, _, _, _, h3, rfl, rfl, rfl⟩

/-! ### number_at -/
def sp_number_at (K : PySem.W.Frag) : Sp := Sp2 fun a b H Q E => ∃ (p : Addr) (t : List Nat) (i x : Nat), a = .ref p ∧ b = .int i ∧ H p = some (.lst (tx t)) ∧ t.length ≤ 1500 ∧ t[i]? = some x ∧ Vameta.isLetter x = false ∧ Vameta.isDigit x = true ∧ GotTok K H (Mt.one i (t.drop i)) i Q E
theorem ok_number_at (T : Txt K mg) (c_Fault___init__ : MakE P w K mg base 1 "Fault" (He.ga K "Fault") (sp_Fault___init__ K)) (c_Token___init__ : Mak0 P w K mg base 1 "Token" (He.ga K "Token") (sp_Token___init__ K)) (c_is_digit : Cal0 P w K mg base 1 "is_digit" sp_is_digit) :
    CalX P w K mg base 3 "number_at" (sp_number_at K) := by
  refine T.d_number_at.okX (k := 2) sc_number_at Sp2.len (fun f cdv A outer s H vs Q E hr h => ⟨_, (pss_cons (ps_set (i := 2) sc_number_at.nd rfl (Or.inl rfl) (pv 1))
      (pss_cons (ps_while ownD (PW.pt (pw_and (pt_cmpR op_lt (pv 2) (pe_callB call_len_seq (by rfl) T.bi_len boot_len (pa_cons (pv 0) pa_nil)) (by first | exact nomark _ | rfl)) (pw_and1 (pt_val (pe_c0 c_is_digit hr (by decide) (pa_cons (pe_ix ix_list (pv 0) (pv 2) (fun _ _ => rfl)) pa_nil)))))) (pss_one (ps_aug (i := 2) sc_number_at.nd rfl (Or.inl rfl) pe_int ip_add)))
      (pss_cons (ps_if (PW.pt (pw_or (pt_cmpR op_gt (pe_op op_sub (pv 2) (pv 1)) (C8.pe_gc (by rfl) T.k_MOST_DIGITS) (by first | exact nomark _ | rfl)) (pw_or1 (PW.pt (pw_and (pt_cmpR op_eq (pe_ix ix_list (pv 0) (pv 1) (fun _ _ => rfl)) pe_int (by first | exact nomark _ | rfl)) (pw_and1 (pt_cmpR op_gt (pe_op op_sub (pv 2) (pv 1)) pe_int (by first | exact nomark _ | rfl)))))))) (pss_one (ps_raise rfl takesD (pmk_e c_Fault___init__ hr (by decide) (pa_cons pe_int (pa_cons (pv 1) pa_nil))))) pss_nil)
      (pss_cons (ps_set (i := 3) sc_number_at.nd rfl (Or.inl rfl) pe_int)
      (pss_cons (ps_for ownD rfl (pi_range2 rfl T.bi_range (pa_cons (pv 1) (pa_cons (pv 2) pa_nil))) (pg_name (i := 4) sc_number_at.nd rfl (Or.inl rfl)) (pss_one (ps_set (i := 3) sc_number_at.nd rfl (Or.inl rfl) (pe_op op_sub (pe_op op_add (pe_op op_mul (pv 3) pe_int) (pe_ix ix_list (pv 0) (pv 4) (fun _ _ => rfl))) pe_int))))
      (pss_one (ps_ret (pe_tup (pa_cons (pe_k0 c_Token___init__ hr (by decide) (pa_cons (C8.pe_gc (by rfl) T.k_NUMBER) (pa_cons pe_str (pa_cons (pv 3) (pa_cons (pv 1) pa_nil))))) (pa_cons (pv 2) pa_nil)))))))))), ?_⟩)
  obtain ⟨_, _, rfl, p, t, i, x, rfl, rfl, hp, hz, hx, hlet, hdig, hq⟩ := h
  dsimp only [cxOf]
  have hp' : SqL K H p (tx t) := sqL hp
  have hi : i < t.length := (List.getElem?_eq_some_iff.mp hx).1
  have hd : t.drop i = x :: t.drop (i + 1) := by
    rw [List.drop_eq_getElem_cons hi]
    congr 1
    exact Option.some.inj ((List.getElem?_eq_getElem hi).symm.trans hx)
  walk_at "rk"
  refine x_whileJ (fun j : Nat => [some (.ref p), some (.int i), some (.int ((i + j : Nat) : Int)), none, none]) (fun j H' => Ex H H' ∧ i + j ≤ t.length ∧ ∀ n b, n < j → (t.drop i)[n]? = some b → Vameta.isDigit b = true) (fun j => t.length - (i + j))
    (fun j => decide (i + j < t.length) && Vameta.isDigit (t.getD (i + j) 0)) 0 ⟨rfl, Ex.refl H, by omega, fun n b hn => absurd hn (Nat.not_lt_zero _)⟩ (fun j H1 H2 h e => ⟨h.1.trans e, h.2⟩) ?_ ?_ ?_
  · rintro j H' ⟨e, hij, hall⟩ q hb
    walk_at "rk"
    refine x_len (Or.inl (e.l hp')) ?_
    rw [tx_len]
    walk_at "rk"
    by_cases c : i + j < t.length
    · refine x_iteT (decide_eq_true (by omega)) ?_
      have hg : t[i + j]? = some (t.getD (i + j) 0) := by
        rw [List.getD_eq_getElem?_getD, List.getElem?_eq_getElem c]; rfl
      walk_at "rk"
      refine x_ixL (e.l hp') (tx_at hg) ?_
      walk_at "rk"
      refine ⟨_, rfl, _, rfl, fun H1 e1 => ?_⟩
      walk_at "rk"
      have := hb H1 e1
      rw [decide_eq_true c, Bool.true_and] at this
      exact this
    · refine x_iteF (decide_eq_false (by omega)) ?_
      have := hb H' (Ex.refl _)
      rw [decide_eq_false c, Bool.false_and] at this
      exact this
  · rintro j H' ⟨e, hij, hall⟩ hB
    rw [Bool.and_eq_true, decide_eq_true_eq] at hB
    walk_at "rk"
    refine ⟨j + 1, by omega, rfl, e, by omega, fun n b hn hb => ?_⟩
    by_cases c : n = j
    · subst c
      rw [List.getElem?_drop] at hb
      have := hB.2
      rw [List.getD_eq_getElem?_getD, hb] at this
      exact this
    · exact hall n b (by omega) hb
  · rintro j H' ⟨e, hij, hall⟩ hB
    have htw : (t.drop i).takeWhile Vameta.isDigit = (t.drop i).take j := by
      refine Mt.takeWhile_take _ j hall (fun b hb => ?_) (by rw [List.length_drop]; omega)
      rw [List.getElem?_drop] at hb
      have hlt := (List.getElem?_eq_some_iff.mp hb).1
      rw [decide_eq_true hlt, Bool.true_and, List.getD_eq_getElem?_getD, hb] at hB
      exact hB
    have hlen : ((t.drop i).take j).length = j := by
      rw [List.length_take, List.length_drop]; omega
    have h1 : Mt.one i (t.drop i) = if 2 < j ∨ (x = 48 ∧ 1 < j) then .error ⟨1, i⟩ else .ok (⟨i, .num (Vameta.numberOf ((t.drop i).take j))⟩, j) := by
      rw [hd, Mt.one_cons, if_neg (by rw [hlet]; exact Bool.false_ne_true), if_pos hdig, ← hd, htw, hlen]
    rw [h1] at hq
    walk_at "rk"
    by_cases bad : 2 < j ∨ (x = 48 ∧ 1 < j)
    · rw [if_pos bad] at hq
      refine x_ite (fun c => ?_) (fun c => ?_)
      · walk_at "rk"
        exact mk_Fault fun H2 d e2 h2 => hq H2 d (e.trans e2) h2
      · rcases bad with bad | ⟨bad, bad2⟩
        · exact absurd bad (by omega)
        · walk_at "rk"
          refine x_ixL (e.l hp') (tx_at hx) ?_
          walk_at "rk"
          refine x_iteT (decide_eq_true (by omega)) ?_
          walk_at "rk"
          refine x_iteT (decide_eq_true (by omega)) ?_
          walk_at "rk"
          exact mk_Fault fun H2 d e2 h2 => hq H2 d (e.trans e2) h2
    · rw [if_neg bad] at hq
      refine x_iteF (decide_eq_false (by omega)) ?_
      walk_at "rk"
      refine x_ixL (e.l hp') (tx_at hx) ?_
      walk_at "rk"
      by_cases c48 : x = 48
      case' pos =>
        refine x_iteT (decide_eq_true (by omega)) ?_
        walk_at "rk"
        refine x_iteF (decide_eq_false (by omega)) ?_
      case' neg =>
        refine x_iteF (decide_eq_false (by omega)) ?_
      all_goals
        walk_at "rk"
        refine x_forR2 (lo := (i : Int)) (hi := ((i + j : Nat) : Int)) (fun n σ' H2 => ∃ v : Option V, σ' = [some (.ref p), some (.int i), some (.int ((i + j : Nat) : Int)), some (.int (Vameta.numberOf ((t.drop i).take n) : Nat)), v] ∧ Ex H H2) (fun q h => by walk_at "rd"; exact h) (by omega) (by omega) ⟨none, rfl, e⟩ ?_ ?_
        · rintro n σ' H2 hn ⟨v, rfl, e2⟩
          walk_at "rk"
          refine x_I (Or.inr (by decide)) ?_
          walk_at "rk"
          have hg : t[i + n]? = some (t.getD (i + n) 0) := by
            rw [List.getD_eq_getElem?_getD, List.getElem?_eq_getElem (by omega)]; rfl
          have hlt : Vameta.isDigit (t.getD (i + n) 0) = true := hall n _ (by omega) (by rw [List.getElem?_drop]; exact hg)
          rw [show ((i : Int) + (n : Nat)) = ((i + n : Nat) : Int) by omega]
          refine x_ixL (e2.l hp') (tx_at hg) ?_
          walk_at "rk"
          unfold Vameta.isDigit at hlt
          simp only [Bool.and_eq_true, decide_eq_true_eq] at hlt
          refine ⟨some (.int ((i + n : Nat) : Int)), ?_, e2⟩
          have hs : (t.drop i).take (n + 1) = (t.drop i).take n ++ [t.getD (i + n) 0] := take_more (by rw [List.getElem?_drop]; exact hg)
          rw [hs, Mt.number_snoc]
          have he : ((10 * Vameta.numberOf ((t.drop i).take n) + (t.getD (i + n) 0 - 48) : Nat) : Int) = (Vameta.numberOf ((t.drop i).take n) : Int) * 10 + (t.getD (i + n) 0 : Int) - 48 := by omega
          rw [he]
          rfl
        · rintro σ' H2 ⟨v, rfl, e2⟩
          rw [show (((i + j : Nat) : Int) - (i : Int)).toNat = j by omega]
          walk_at "rk"
          refine mk_Token fun H3 y dx e3 hn3 h3 => ?_
          walk_at "rk"
          intro z hz3
          have e4 := Ex.new (o := .tup [V.ref y, V.int ((i + j : Nat) : Int)]) hz3
          refine hq _ z (.ref y) ((e2.trans e3).trans e4) upd_same ⟨y, rfl, e2.back hn3, ?_⟩
          exact TokObj.ex e4 ⟨dx, _, _, _, h3, rfl, rfl, rfl⟩

/-! ### token_at -/
def signsKD : List (Int × V) := [(40, V.str "("), (41, V.str ")"), (59, V.str ";"), (45, V.str "-")]
theorem signs_any (b : Nat) : (signsKD.any fun q => decide (q.1 = (b : Int))) = Vameta.SIGNS.contains b := by
  show (signsKD.any fun q => decide (q.1 = (b : Int))) = [40, 41, 59, 45].contains b
  rw [Bool.eq_iff_iff]
  simp only [signsKD, List.any_cons, List.any_nil, Bool.or_false, Bool.or_eq_true, decide_eq_true_eq, List.contains_eq_mem, List.mem_cons, List.not_mem_nil, or_false]
  omega
theorem signs_find {b : Nat} (h : Vameta.SIGNS.contains b = true) : (signsKD.find? fun q => decide (q.1 = (b : Int))).map (·.2) = some (V.str (SX.S [b])) := by
  have h : [40, 41, 59, 45].contains b = true := h
  simp only [List.contains_eq_mem, List.mem_cons, List.not_mem_nil, or_false, decide_eq_true_eq] at h
  rcases h with rfl | rfl | rfl | rfl <;> rfl
theorem FaultE.ex {H H1 : Hp} {E : XK} {k n : Int} (e : Ex H H1) (h : FaultE K H E k n) : FaultE K H1 E k n := fun H' d e2 hd => h H' d (e.trans e2) hd
theorem GotTok.ex {H H1 : Hp} {g : Vameta.Got (Vameta.Token × Nat)} {i : Nat} {Q : VK} {E : XK} (h : GotTok K H g i Q E) (e : Ex H H1) : GotTok K H1 g i Q E := by
  cases g with
  | error f => exact FaultE.ex e h
  | ok x => exact fun H' q v e2 hq ⟨a, h1, h2, h3⟩ => h H' q v (e.trans e2) hq ⟨a, h1, e.back h2, h3⟩
def sp_token_at (K : PySem.W.Frag) : Sp := Sp2 fun a b H Q E => ∃ (p : Addr) (t : List Nat) (i x : Nat), a = .ref p ∧ b = .int i ∧ H p = some (.lst (tx t)) ∧ t.length ≤ 1500 ∧ t[i]? = some x ∧ GotTok K H (Mt.one i (t.drop i)) i Q E
theorem ok_token_at (T : Txt K mg) (c_Fault___init__ : MakE P w K mg base 1 "Fault" (He.ga K "Fault") (sp_Fault___init__ K)) (c_Token___init__ : Mak0 P w K mg base 1 "Token" (He.ga K "Token") (sp_Token___init__ K)) (c_is_letter : Cal0 P w K mg base 1 "is_letter" sp_is_letter) (c_is_digit : Cal0 P w K mg base 1 "is_digit" sp_is_digit)
    (c_word_at : CalX P w K mg base 3 "word_at" (sp_word_at K)) (c_number_at : CalX P w K mg base 3 "number_at" (sp_number_at K)) : CalX P w K mg base 4 "token_at" (sp_token_at K) := by
  refine T.d_token_at.okX (k := 3) sc_token_at Sp2.len (fun f cdv A outer s H vs Q E hr h => ⟨_, (pss_cons (ps_if (pt_val (pe_c0 c_is_letter hr (by decide) (pa_cons (pe_ix ix_list (pv 0) (pv 1) (fun _ _ => rfl)) pa_nil))) (pss_one (ps_ret (pe_cX c_word_at hr (by decide) passD (pa_cons (pv 0) (pa_cons (pv 1) pa_nil))))) pss_nil)
      (pss_cons (ps_if (pt_val (pe_c0 c_is_digit hr (by decide) (pa_cons (pe_ix ix_list (pv 0) (pv 1) (fun _ _ => rfl)) pa_nil))) (pss_one (ps_ret (pe_cX c_number_at hr (by decide) passD (pa_cons (pv 0) (pa_cons (pv 1) pa_nil))))) pss_nil)
      (pss_cons (ps_if (pt_cmpR op_niKD (pe_ix ix_list (pv 0) (pv 1) (fun _ _ => rfl)) (C8.pe_gc (by rfl) T.k_SIGNS) (by first | exact nomark _ | rfl)) (pss_one (ps_raise rfl takesD (pmk_e c_Fault___init__ hr (by decide) (pa_cons pe_int (pa_cons (pv 1) pa_nil))))) pss_nil)
      (pss_one (ps_ret (pe_tup (pa_cons (pe_k0 c_Token___init__ hr (by decide) (pa_cons (C8.pe_gc (by rfl) T.k_SIGN) (pa_cons (pe_ix ix_KD (C8.pe_gc (by rfl) T.k_SIGNS) (pe_ix ix_list (pv 0) (pv 1) (fun _ _ => rfl)) (fun _ _ => rfl)) (pa_cons pe_int (pa_cons (pv 1) pa_nil))))) (pa_cons (pe_op op_add (pv 1) pe_int) pa_nil)))))))), ?_⟩)
  obtain ⟨_, _, rfl, p, t, i, x, rfl, rfl, hp, hz, hx, hq⟩ := h
  dsimp only [cxOf]
  have hp' : SqL K H p (tx t) := sqL hp
  have hi : i < t.length := (List.getElem?_eq_some_iff.mp hx).1
  have hd : t.drop i = x :: t.drop (i + 1) := by
    rw [List.drop_eq_getElem_cons hi]
    congr 1
    exact Option.some.inj ((List.getElem?_eq_getElem hi).symm.trans hx)
  walk_at "rk"
  refine x_ixL hp' (tx_at hx) ?_
  walk_at "rk"
  refine ⟨_, rfl, x, rfl, fun H1 e1 => ?_⟩
  walk_at "rk"
  refine x_iteB (fun c => ?_) (fun c => ?_)
  · walk_at "rk"
    exact ⟨_, _, rfl, p, t, i, x, rfl, rfl, e1 _ _ hp, hz, hx, c, hq.ex e1⟩
  · walk_at "rk"
    refine x_ixL (e1.l hp') (tx_at hx) ?_
    walk_at "rk"
    refine ⟨_, rfl, x, rfl, fun H2 e2 => ?_⟩
    walk_at "rk"
    have e12 := e1.trans e2
    refine x_iteB (fun c2 => ?_) (fun c2 => ?_)
    · walk_at "rk"
      exact ⟨_, _, rfl, p, t, i, x, rfl, rfl, e12 _ _ hp, hz, hx, c, c2, hq.ex e12⟩
    · have h1 : Mt.one i (t.drop i) = if Vameta.SIGNS.contains x then .ok (⟨i, .sign x⟩, 1) else .error ⟨1, i⟩ := by
        rw [hd, Mt.one_cons, if_neg (by rw [c]; exact Bool.false_ne_true), if_neg (by rw [c2]; exact Bool.false_ne_true)]
      rw [h1] at hq
      walk_at "rk"
      refine x_ixL (e12.l hp') (tx_at hx) ?_
      walk_at "rk"
      refine ⟨_, _, signsKD, rfl, rfl, T.q_SIGNS, ?_⟩
      rw [signs_any]
      cases c3 : Vameta.SIGNS.contains x with
      | false =>
        rw [c3, if_neg Bool.false_ne_true] at hq
        walk_at "rk"
        exact mk_Fault fun H3 d e3 h3 => hq H3 d (e12.trans e3) h3
      | true =>
        rw [c3, if_pos rfl] at hq
        walk_at "rk"
        refine x_ixL (e12.l hp') (tx_at hx) ?_
        refine ⟨_, _, signsKD, _, rfl, rfl, T.q_SIGNS, signs_find c3, ?_⟩
        walk_at "rk"
        refine mk_Token fun H3 y dx e3 hn3 h3 => ?_
        walk_at "rk"
        intro z hz3
        have e4 := Ex.new (o := .tup [V.ref y, V.int ((i : Int) + 1)]) hz3
        refine hq _ z (.ref y) ((e12.trans e3).trans e4) upd_same ⟨y, rfl, e12.back hn3, ?_⟩
        exact TokObj.ex e4 ⟨dx, _, _, _, h3, rfl, rfl, rfl⟩

/-! ### tokens_of -/
def TokOff (K : PySem.W.Frag) (H0 H : Hp) (r : Addr) (v : V) (t : Vameta.Token) : Prop := ∃ a, v = .ref a ∧ H0 a = none ∧ a ≠ r ∧ TokObj K H a t
def GotToks (K : PySem.W.Frag) (H : Hp) (g : Vameta.Got Vameta.Toks) (Q : VK) (E : XK) : Prop := match g with
  | .error f => FaultE K H E f.kind f.place
  | .ok l => ∀ H' q vs, Ex H H' → H q = none → H' q = some (.lst vs) → AllAt (TokNew K H H') vs l → Q (.ref q) H'
def sp_tokens_of (K : PySem.W.Frag) : Sp := Sp1 fun a H Q E => ∃ (p : Addr) (t : List Nat), a = .ref p ∧ H p = some (.lst (tx t)) ∧ t.length ≤ 1500 ∧ GotToks K H (Vameta.tokens t) Q E
theorem blank_in (b : Nat) : inV (V.int (b : Int)) [V.int 32, V.int 10] = Vameta.isBlank b := by
  show inV (V.int (b : Int)) ([(32 : Int), 10].map V.int) = _
  rw [inV_int]
  unfold Vameta.isBlank
  rw [Bool.eq_iff_iff]
  simp only [List.contains_eq_mem, List.mem_cons, List.not_mem_nil, or_false, decide_eq_true_eq, Bool.or_eq_true, beq_iff_eq]
  omega
theorem ok_tokens_of (T : Txt K mg) (c_Token___init__ : Mak0 P w K mg base 1 "Token" (He.ga K "Token") (sp_Token___init__ K)) (c_token_at : CalX P w K mg base 4 "token_at" (sp_token_at K)) : CalX P w K mg base 5 "tokens_of" (sp_tokens_of K) := by
  refine T.d_tokens_of.okX (k := 4) sc_tokens_of Sp1.len (fun f cdv A outer s H vs Q E hr h => ⟨_, (pss_cons (ps_set (i := 1) sc_tokens_of.nd rfl (Or.inl rfl) (pe_lst pa_nil))
      (pss_cons (ps_set (i := 2) sc_tokens_of.nd rfl (Or.inl rfl) pe_int)
      (pss_cons (ps_while ownD (pt_cmpR op_lt (pv 2) (pe_callB call_len_seq (by rfl) T.bi_len boot_len (pa_cons (pv 0) pa_nil)) (by first | exact nomark _ | rfl)) (pss_one (ps_if (pt_cmpR op_in_seq (pe_ix ix_list (pv 0) (pv 2) (fun _ _ => rfl)) (C8.pe_gc (by rfl) T.k_BLANKS) (by first | exact nomark _ | rfl)) (pss_one (ps_aug (i := 2) sc_tokens_of.nd rfl (Or.inl rfl) pe_int ip_add)) (pss_cons (ps_asg (pe_cX c_token_at hr (by decide) passD (pa_cons (pv 0) (pa_cons (pv 2) pa_nil))) (pg_tup rfl (pgs_cons (pg_name (i := 3) sc_tokens_of.nd rfl (Or.inl rfl)) (pgs_cons (pg_name (i := 2) sc_tokens_of.nd rfl (Or.inl rfl)) pgs_nil))))
      (pss_one (ps_expr (pe_bm PySem.F.plainAttrs_list PySem.F.slot_list_append PySem.F.type_list_append mt_append (pv 1) (pa_cons (pv 3) pa_nil))))))))
      (pss_cons (ps_expr (pe_bm PySem.F.plainAttrs_list PySem.F.slot_list_append PySem.F.type_list_append mt_append (pv 1) (pa_cons (pe_k0 c_Token___init__ hr (by decide) (pa_cons (C8.pe_gc (by rfl) T.k_END) (pa_cons pe_str (pa_cons pe_int (pa_cons (pe_callB call_len_seq (by rfl) T.bi_len boot_len (pa_cons (pv 0) pa_nil)) pa_nil))))) pa_nil)))
      (pss_one (ps_ret (pv 1))))))), ?_⟩)
  obtain ⟨_, rfl, p, t, rfl, hp, hz, hq⟩ := h
  dsimp only [cxOf]
  have hp' : SqL K H p (tx t) := sqL hp
  walk_at "rk"
  intro r hr
  have e0 := Ex.new (o := .lst []) hr
  walk_at "rk"
  refine x_while (fun m σ' H' => ∃ (at_ f : Nat) (l0 : Vameta.Toks) (ws : List V) (v : Option V), σ' = [some (.ref p), some (.ref r), some (.int at_), v] ∧ Ex H H' ∧ H' r = some (.lst ws) ∧ AllAt (TokOff K H H' r) ws l0 ∧ at_ ≤ t.length ∧ m = t.length - at_ ∧ t.length < at_ + f ∧ l0.length ≤ at_ ∧
    Vameta.tokens t = (Vameta.tokensFrom f at_ (t.drop at_)).map fun l => l0 ++ l) ⟨t.length, 0, t.length + 1, [], [], none, rfl, e0, upd_same, AllAt.nil, Nat.zero_le _, rfl, by omega, Nat.le_refl _, ?_⟩ ?_
  · show Vameta.tokensFrom (t.length + 1) 0 t = (Vameta.tokensFrom (t.length + 1) 0 t).map fun l => [] ++ l
    cases Vameta.tokensFrom (t.length + 1) 0 t <;> rfl
  rintro m σ' H' ⟨at_, f, l0, ws, v, rfl, e, hr', hws, hat, rfl, hf, hl0, htk⟩
  obtain ⟨f, rfl⟩ : ∃ g, f = g + 1 := ⟨f - 1, by omega⟩
  walk_at "rk"
  refine x_len (Or.inl (e.l hp')) ?_
  rw [tx_len]
  walk_at "rk"
  refine x_ite (fun c => ?_) (fun c => ?_)
  · refine x_turn ?_
    have c : at_ < t.length := by omega
    have hx : t[at_]? = some t[at_] := List.getElem?_eq_getElem c
    have hd : t.drop at_ = t[at_] :: t.drop (at_ + 1) := List.drop_eq_getElem_cons c
    walk_at "rk"
    refine x_ixL (e.l hp') (tx_at hx) ?_
    walk_at "rk"
    refine x_in (Or.inr (T.q_BLANKS _)) rfl rfl ?_
    rw [if_neg Bool.false_ne_true, blank_in]
    cases cb : Vameta.isBlank t[at_] with
    | true =>
      walk_at "rk"
      refine ⟨_, by omega, at_ + 1, f, l0, ws, v, rfl, e, hr', hws, by omega, rfl, by omega, by omega, ?_⟩
      rw [htk, hd, Mt.from_blank cb]
    | false =>
      rw [hd, Mt.from_one cb, ← hd] at htk
      walk_at "rk"
      refine ⟨_, _, rfl, p, t, at_, _, rfl, rfl, e _ _ hp, hz, hx, ?_⟩
      cases e1 : Mt.one at_ (t.drop at_) with
      | error x =>
        rw [e1] at htk
        rw [htk] at hq
        exact FaultE.ex e hq
      | ok x =>
        rw [e1] at htk
        have htk : Vameta.tokens t = ((Vameta.tokensFrom f (at_ + x.2) ((t.drop at_).drop x.2)).map fun l => x.1 :: l).map fun l => l0 ++ l := htk
        have hx2 := Mt.one_pos e1
        rw [List.length_drop] at hx2
        intro H2 q v2 e2 hq2 ⟨a, ha, hna, hao⟩
        subst ha
        refine ⟨q, _, rfl, sqT hq2, rfl, _, _, rfl, x_name ⟨_, _, rfl, x_name ⟨rfl, ?_⟩⟩⟩
        walk_at "rk"
        refine ⟨x_tyL (e2 _ _ hr'), ?_⟩
        walk_at "rk"
        refine x_append (e2 _ _ hr') (sz_lt (by rw [hws.1]; omega)) ?_
        have har : a ≠ r := fun z => by rw [z, hr'] at hna; cases hna
        refine ⟨_, ?_, at_ + x.2, f, l0 ++ [x.1], _, _, rfl, (e.trans e2).mut hr, upd_same, ?_, by omega, rfl, by omega, ?_, ?_⟩
        · omega
        · refine AllAt.snoc (hws.imp fun v l ⟨b, h1, h2, h3, h4⟩ => ⟨b, h1, h2, h3, ?_⟩) ⟨a, rfl, e.back hna, har, ?_⟩
          · exact TokObj.exb ExB.upd h3 (h4.ex e2)
          · exact TokObj.exb ExB.upd har hao
        · rw [List.length_append]
          show l0.length + 1 ≤ _
          omega
        · rw [htk, List.drop_drop]
          cases Vameta.tokensFrom f (at_ + x.2) (t.drop (at_ + x.2)) with
          | error y => rfl
          | ok l =>
            show Except.ok (l0 ++ (x.1 :: l)) = Except.ok (l0 ++ [x.1] ++ l)
            rw [List.append_assoc]
            rfl
  · have c : at_ = t.length := by omega
    subst c
    rw [List.drop_length, Mt.from_nil] at htk
    have htk : Vameta.tokens t = .ok (l0 ++ [⟨t.length, .ending⟩]) := htk
    rw [htk] at hq
    walk_at "rk"
    refine ⟨x_tyL hr', ?_⟩
    walk_at "rk"
    refine x_len (Or.inl (e.l hp')) ?_
    rw [tx_len]
    walk_at "rk"
    refine mk_Token fun H3 y dx e3 hn3 h3 => ?_
    walk_at "rk"
    refine x_append (e3 _ _ hr') (sz_lt (by rw [hws.1]; omega)) ?_
    have hyr : y ≠ r := fun z => by rw [z, hr'] at hn3; cases hn3
    walk_at "rk"
    refine hq _ r _ ((e.trans e3).mut hr) hr upd_same ?_
    refine AllAt.snoc (hws.imp fun v l ⟨b, h1, h2, h3, h4⟩ => ⟨b, h1, h2, ?_⟩) ⟨y, rfl, e.back hn3, ?_⟩
    · exact TokObj.exb ExB.upd h3 (h4.ex e3)
    · exact TokObj.exb ExB.upd hyr ⟨dx, _, _, _, h3, rfl, rfl, rfl⟩
end
end RR
/-! part P09 -/
/-! The reader: its own small methods. -/
namespace RR
open PySem PySem.Spec PyProof.Rows L2
local macro_rules | `(tactic| walk_at "rd1") => `(tactic| (first
  | with_reducible refine x_seq ?_
  | with_reducible refine x_next ?_
  | with_reducible refine x_asg ?_
  | with_reducible refine x_name ?_
  | with_reducible refine x_ret ?_
  | with_reducible refine x_retN ?_
  | with_reducible refine x_drop ?_
  | with_reducible refine x_if ?_
  | ((with_reducible apply x_var); exact rfl)
  | ((with_reducible apply x_aug1); exact rfl)
  | with_reducible refine x_c ?_
  | with_reducible refine x_op ?_
  | with_reducible refine x_I0 ?_
  | with_reducible refine x_un ?_
  | with_reducible refine x_U ?_
  | with_reducible refine x_eqI ?_
  | with_reducible refine x_eqS ?_
  | with_reducible refine x_neI ?_
  | with_reducible refine x_test ?_
  | with_reducible refine x_tB ?_
  | with_reducible refine x_bl ?_
  | with_reducible refine x_and ?_
  | with_reducible refine x_or ?_
  | with_reducible refine x_not ?_
  | with_reducible refine x_andV ?_
  | with_reducible refine x_orV ?_
  | with_reducible refine x_notV ?_
  | with_reducible refine x_tIf ?_
  | with_reducible refine x_chain ?_
  | with_reducible refine x_cons ?_
  | with_reducible refine x_nil ?_
  | with_reducible refine x_tup ?_
  | with_reducible refine x_lst ?_
  | with_reducible refine x_tupF ?_
  | with_reducible refine x_cb ?_
  | with_reducible refine x_call ?_
  | with_reducible refine x_callS ?_
  | with_reducible refine x_meth ?_
  | with_reducible refine x_methS ?_
  | with_reducible refine x_make ?_
  | with_reducible refine x_ost ?_
  | with_reducible refine x_mkO ?_
  | with_reducible refine x_sFld ?_
  | with_reducible refine x_sFldAug ?_
  | with_reducible refine x_m1 ?_
  | with_reducible refine x_fld ?_
  | with_reducible refine x_bm ?_
  | with_reducible refine x_bmU ?_
  | with_reducible refine x_sl ?_
  | with_reducible refine x_part ?_
  | with_reducible refine x_noPart ?_
  | with_reducible refine x_revL ?_
  | with_reducible refine x_sz0 ?_
  | with_reducible refine x_sz1 ?_
  | with_reducible refine x_sz2 ?_
  | with_reducible refine x_sz3 ?_
  | with_reducible refine x_sz4 ?_
  | with_reducible refine x_sz5 ?_))
local macro_rules | `(tactic| walk_at "rd") => `(tactic| repeat walk_at "rd1")
local macro_rules | `(tactic| walk_at "rk") => `(tactic| repeat (first | walk_at "rd1" | with_reducible refine x_iteT (by decide) ?_ | with_reducible refine x_iteF (by decide) ?_))
/-- a reader: itself, its dict, its list of tokens -/
structure RI where
  a : Addr
  dx : Addr
  r : Addr
  vs : List V
  l : Vameta.Toks
def TokAt (K : PySem.W.Frag) (H : Hp) (v : V) (t : Vameta.Token) : Prop := ∃ b, v = .ref b ∧ TokObj K H b t
def rdo (K : PySem.W.Frag) (z : RI) (i : Nat) : HO := .ins (He.ga K "Reader") z.dx [("tokens", .ref z.r), ("at", .int i)]
structure Rdr (K : PySem.W.Frag) (H : Hp) (z : RI) (i : Nat) : Prop where
  me : H z.a = some (rdo K z i)
  ls : H z.r = some (.lst z.vs)
  tk : AllAt (TokAt K H) z.vs z.l
  gd : Mt.Good z.l
  lt : i < z.l.length
  sz : z.l.length ≤ 1501
section
variable {K : PySem.W.Frag} {H H' : Hp} {z : RI} {i : Nat}
theorem Rdr.ex (h : Rdr K H z i) (e : Ex H H') : Rdr K H' z i :=
  ⟨e _ _ h.me, e _ _ h.ls, h.tk.imp fun v t ⟨b, h1, h2⟩ => ⟨b, h1, h2.ex e⟩, h.gd, h.lt, h.sz⟩
theorem Rdr.ne (h : Rdr K H z i) {p : Addr} {o : HO} (hp : H p = some o) (hn : ∀ dx fs, o ≠ .ins (He.ga K "Reader") dx (("tokens", .ref z.r) :: fs)) : p ≠ z.a := fun e => by
  rw [e, h.me] at hp
  exact hn _ _ (Option.some.inj hp).symm
theorem tok_ne {H : Hp} (h : Rdr K H z i) {b : Addr} {t : Vameta.Token} (hb : TokObj K H b t) : b ≠ z.a := by
  obtain ⟨dx, k, s, n, x, y⟩ := hb
  refine h.ne x fun dx' fs e => ?_
  have e := (HO.ins.inj e).2.2
  have e1 : ("kind" : Str) = "tokens" := congrArg Prod.fst (List.cons.inj e).1
  exact absurd e1 (by decide)
theorem Rdr.exb (h : Rdr K H z i) (e : ExB z.a H H') {j : Nat} (hm : H' z.a = some (rdo K z j)) (hj : j < z.l.length) : Rdr K H' z j :=
  ⟨hm, e _ _ h.ls (h.ne h.ls (fun _ _ z => nomatch z)), h.tk.imp fun v t ⟨b, h1, h2⟩ => ⟨b, h1, h2.exb e (tok_ne h h2)⟩, h.gd, hj, h.sz⟩
theorem Rdr.set (h : Rdr K H z i) {j : Nat} (hj : j < z.l.length) : Rdr K (upd H z.a (rdo K z j)) z j := h.exb ExB.upd upd_same hj
theorem Rdr.upd {H0 : Hp} {i0 : Nat} (h0 : Rdr K H0 z i0) {p : Addr} (hp : H0 p = none) (h : Rdr K H' z i) (o : HO) : Rdr K (upd H' p o) z i := by
  refine ⟨(upd_ne (ne_of_none h0.me hp)).trans h.me, (upd_ne (ne_of_none h0.ls hp)).trans h.ls, ⟨h.tk.1, fun n v t hv ht => ?_⟩, h.gd, h.lt, h.sz⟩
  obtain ⟨b, e, hb⟩ := h.tk.2 n v t hv ht
  obtain ⟨b0, e0, hb0⟩ := h0.tk.2 n v t hv ht
  rw [e] at e0
  cases e0
  obtain ⟨_, _, _, _, x0, _⟩ := hb0
  obtain ⟨dx, k, s, m, x, y⟩ := hb
  exact ⟨b, e, dx, k, s, m, (upd_ne (ne_of_none x0 hp)).trans x, y⟩
/-- the token at the reader's place -/
theorem Rdr.here (h : Rdr K H z i) : ∃ t b, z.l[i]? = some t ∧ z.vs[i]? = some (.ref b) ∧ TokObj K H b t := by
  obtain ⟨v, hv, b, rfl, hb⟩ := h.tk.at (List.getElem?_eq_getElem h.lt)
  exact ⟨_, b, List.getElem?_eq_getElem h.lt, hv, hb⟩
theorem Rdr.here2 (h : Rdr K H z i) {j : Nat} {t : Vameta.Token} (ht : z.l[j]? = some t) : ∃ b, z.vs[j]? = some (.ref b) ∧ TokObj K H b t := by
  obtain ⟨v, hv, b, rfl, hb⟩ := h.tk.at ht
  exact ⟨b, hv, hb⟩
theorem drop_at {l : Vameta.Toks} {i : Nat} {t : Vameta.Token} (ht : l[i]? = some t) : l.drop i = t :: l.drop (i + 1) := by
  have hi := (List.getElem?_eq_some_iff.mp ht).1
  rw [List.drop_eq_getElem_cons hi]
  congr 1
  exact Option.some.inj ((List.getElem?_eq_getElem hi).symm.trans ht)
end
/-! ### what a parser answers -/
def FaultB (K : PySem.W.Frag) (a : Addr) (H : Hp) (E : XK) (kind place : Int) : Prop := ∀ H' d, ExB a H H' → H' d = some (.xd [("place", .int place), ("kind", .int kind)]) → E (.ref (He.ga K "Fault")) (some d) H'
theorem FaultB.e {K : PySem.W.Frag} {a : Addr} {H : Hp} {E : XK} {k p : Int} (h : FaultB K a H E k p) : FaultE K H E k p := fun H' d e => h H' d e.b
theorem FaultB.exb {K : PySem.W.Frag} {a : Addr} {H H1 : Hp} {E : XK} {k p : Int} (e : ExB a H H1) (h : FaultB K a H E k p) : FaultB K a H1 E k p := fun H' d e2 => h H' d (e.trans e2)
def Out (K : PySem.W.Frag) (a : Addr) (H : Hp) (E : XK) {α : Type} (g : Vameta.Got α) (k : α → Prop) : Prop := match g with
  | .error f => FaultB K a H E f.kind f.place
  | .ok x => k x
section
variable {K : PySem.W.Frag} {a : Addr} {H H1 : Hp} {E : XK} {α β : Type}
theorem Out.bind {g : Vameta.Got α} {h : α → Vameta.Got β} {k : β → Prop} (o : Out K a H E (g.bind h) k) : Out K a H E g fun x => Out K a H E (h x) k := by
  cases g <;> exact o
theorem Out.map {g : Vameta.Got α} {f : α → β} {k : β → Prop} (o : Out K a H E (g.map f) k) : Out K a H E g fun x => k (f x) := by
  cases g <;> exact o
theorem Out.mono {g : Vameta.Got α} {k k' : α → Prop} (o : Out K a H E g k) (e : ExB a H H1) (h : ∀ x, g = .ok x → k x → k' x) : Out K a H1 E g k' := by
  cases g with
  | error f => exact FaultB.exb e o
  | ok x => exact h x rfl o
theorem Out.exb {g : Vameta.Got α} {k : α → Prop} (o : Out K a H E g k) (e : ExB a H H1) : Out K a H1 E g k := o.mono e fun _ _ h => h
end
/-- behind a parser: the value, and what's left -/
def Ret (K : PySem.W.Frag) (z : RI) (H : Hp) (i : Nat) {α : Type} (R : Hp → V → α → Prop) (Q : VK) (x : α × Vameta.Toks) : Prop :=
  ∀ H' u i', ExB z.a H H' → Rdr K H' z i' → i < i' → z.l.drop i' = x.2 → R H' u x.1 → Q u H'
section
variable {P : Program} {w : World} {K : PySem.W.Frag} {mg : Str → Option Value} {base : Heap}
/-! ### Reader.__init__ -/
def GotRd (K : PySem.W.Frag) (H : Hp) (x dx : Addr) (g : Vameta.Got Vameta.Toks) (Q : VK) (E : XK) : Prop := match g with
  | .error f => FaultE K H E f.kind f.place
  | .ok l => ∀ H' r vs, ExB x H H' → H' x = some (rdo K ⟨x, dx, r, vs, l⟩ 0) → H r = none → H' r = some (.lst vs) → AllAt (TokAt K H') vs l → Q .non H'
def sp_Reader___init__ (K : PySem.W.Frag) : Sp := Sp2 fun a b H Q E => ∃ (x dx p : Addr) (t : List Nat), a = .ref x ∧ H x = some (.ins (He.ga K "Reader") dx []) ∧ b = .ref p ∧ H p = some (.lst (tx t)) ∧ t.length ≤ 1500 ∧ GotRd K H x dx (Vameta.tokens t) Q E
theorem ok_Reader___init__ (T : Txt K mg) (c_tokens_of : CalX P w K mg base 5 "tokens_of" (sp_tokens_of K)) : MakX P w K mg base 6 "Reader" (He.ga K "Reader") (sp_Reader___init__ K) := by
  refine T.d_Reader___init__.okX (k := 5) sc_Reader___init__ Sp2.len (fun f cdv A outer s H vs Q E hr h => ⟨_, (pss_cons (ps_fld (pv 0) (pe_cX c_tokens_of hr (by decide) passD (pa_cons (pv 1) pa_nil)) rfl)
      (pss_one (ps_fld (pv 0) pe_int rfl))), ?_⟩)
  obtain ⟨_, _, rfl, x, dx, p, t, rfl, hx, rfl, hp, hz, hq⟩ := h
  try dsimp only [cxOf]
  walk_at "rk"
  refine ⟨_, rfl, p, t, rfl, hp, hz, ?_⟩
  cases e1 : Vameta.tokens t with
  | error f =>
    rw [e1] at hq
    exact hq
  | ok l =>
    rw [e1] at hq
    intro H1 r vs e hn hr1 hvs
    walk_at "rk"
    refine ⟨x, _, dx, _, rfl, e _ _ hx, T.cl_Reader, T.na_Reader_tokens, by decide, ?_⟩
    walk_at "rk"
    refine ⟨x, _, dx, _, rfl, upd_same, T.cl_Reader, T.na_Reader_at, Nat.lt_of_le_of_lt (putF_len _ _ _) (by decide), ?_⟩
    have hrx : r ≠ x := fun z => by rw [z, hx] at hn; cases hn
    refine hq _ r vs (fun b o hb hne => ?_) upd_same hn ?_ (hvs.imp fun v t ⟨b, h1, h2, h3⟩ => ⟨b, h1, ?_⟩)
    · rw [upd_ne hne, upd_ne hne]
      exact e b o hb
    · rw [upd_ne hrx, upd_ne hrx]
      exact hr1
    · have hbx : b ≠ x := fun z => by rw [z, hx] at h2; cases h2
      exact TokObj.exb ExB.upd hbx (TokObj.exb ExB.upd hbx h3)
/-- Reader(data) -/
theorem mk_Reader {H : Hp} {Q : Addr → Hp → Prop} {E : XK} {p : Addr} {t : List Nat} (hp : H p = some (.lst (tx t))) (hz : t.length ≤ 1500)
    (hE : ∀ f, Vameta.tokens t = .error f → FaultE K H E f.kind f.place) (hq : ∀ l, Vameta.tokens t = .ok l → ∀ H' z, Ex H H' → H z.a = none → z.l = l → Rdr K H' z 0 → Q z.a H') :
    ∀ x dx, H x = none → H dx = none → dx ≠ x → sp_Reader___init__ K (.ref x :: ([.ref p] ++ [])) (upd (upd H dx (.own x)) x (.ins (He.ga K "Reader") dx [])) (fun v H2 => v = .non ∧ Q x H2) E := by
  intro x dx hx hdx hne
  have e0 : Ex H (upd (upd H dx (.own x)) x (.ins (He.ga K "Reader") dx [])) := fun b o hb => by
    rw [upd_ne (ne_of_none hb hx), upd_ne (ne_of_none hb hdx)]
    exact hb
  refine ⟨_, _, rfl, x, dx, p, t, rfl, upd_same, rfl, e0 _ _ hp, hz, ?_⟩
  cases e1 : Vameta.tokens t with
  | error f => exact FaultE.ex e0 (hE f e1)
  | ok l =>
    intro H' r vs e hm hn hl hvs
    have g := Mt.tokens_good e1
    refine ⟨rfl, hq l e1 H' ⟨x, dx, r, vs, l⟩ (fun b o hb => e _ _ (e0 _ _ hb) (ne_of_none hb hx)) hx rfl ⟨hm, hl, hvs, g.1, ?_, by have := g.2; show l.length ≤ 1501; omega⟩⟩
    obtain ⟨⟨k, q, hk, _⟩, _⟩ := g
    show 0 < l.length
    rw [hk, List.length_append]
    exact Nat.lt_of_lt_of_le Nat.zero_lt_one (Nat.le_add_left _ _)

/-! ### token, step, refuse -/
def sp_Reader_token (K : PySem.W.Frag) : Sp := Sp1 fun a H Q _ => ∃ (z : RI) (i : Nat) (t : Vameta.Token), a = .ref z.a ∧ Rdr K H z i ∧ z.l[i]? = some t ∧ ∀ b, TokObj K H b t → Q (.ref b) H
theorem ok_Reader_token (T : Txt K mg) : Met0 P w K mg base 1 (He.ga K "Reader") "token" (sp_Reader_token K) := by
  refine T.d_Reader_token.ok0 (k := 0) sc_Reader_token Sp1.len (fun f cdv A outer s H vs Q E hr h => ⟨_, (pss_one (ps_ret (pe_ix ix_list (pe_fld (pv 0) rfl) (pe_fld (pv 0) rfl) (fun _ _ => rfl)))), ?_⟩)
  obtain ⟨_, rfl, z, i, t, rfl, hz, ht, hq⟩ := h
  try dsimp only [cxOf]
  walk_at "rk"
  refine ⟨_, _, _, _, _, rfl, hz.me, T.cl_Reader, T.na_Reader_tokens, rfl, ?_⟩
  walk_at "rk"
  refine ⟨_, _, _, _, _, rfl, hz.me, T.cl_Reader, T.na_Reader_at, rfl, ?_⟩
  obtain ⟨b, hb, ho⟩ := hz.here2 ht
  refine x_ixL (sqL hz.ls) (atI_nat hb) ?_
  exact hq b ho
def sp_Reader_step (K : PySem.W.Frag) : Sp := Sp1 fun a H Q _ => ∃ (z : RI) (i : Nat) (t : Vameta.Token), a = .ref z.a ∧ Rdr K H z i ∧ z.l[i]? = some t ∧ i + 1 < z.l.length ∧ ∀ H' b, ExB z.a H H' → Rdr K H' z (i + 1) → TokObj K H' b t → Q (.ref b) H'
theorem ok_Reader_step (T : Txt K mg) : Met0 P w K mg base 1 (He.ga K "Reader") "step" (sp_Reader_step K) := by
  refine T.d_Reader_step.ok0 (k := 0) sc_Reader_step Sp1.len (fun f cdv A outer s H vs Q E hr h => ⟨_, (pss_cons (ps_fldaug (pv 0) pe_int in_add)
      (pss_one (ps_ret (pe_ix ix_list (pe_fld (pv 0) rfl) (pe_op op_sub (pe_fld (pv 0) rfl) pe_int) (fun _ _ => rfl))))), ?_⟩)
  obtain ⟨_, rfl, z, i, t, rfl, hz, ht, hlt, hq⟩ := h
  try dsimp only [cxOf]
  walk_at "rk"
  refine ⟨_, _, _, _, _, rfl, hz.me, T.cl_Reader, T.na_Reader_at, rfl, ?_⟩
  walk_at "rk"
  refine ⟨_, _, rfl, rfl, _, _, hz.me, (by show 2 < 1000; decide), ?_⟩
  have hz2 : Rdr K (upd H z.a (rdo K z (i + 1))) z (i + 1) := hz.set hlt
  have e2 : upd H z.a (.ins (He.ga K "Reader") z.dx (putF "at" (V.int ((i : Int) + 1)) [("tokens", .ref z.r), ("at", .int i)])) = upd H z.a (rdo K z (i + 1)) := rfl
  rw [e2]
  walk_at "rk"
  refine ⟨_, _, _, _, _, rfl, hz2.me, T.cl_Reader, T.na_Reader_tokens, rfl, ?_⟩
  walk_at "rk"
  refine ⟨_, _, _, _, _, rfl, hz2.me, T.cl_Reader, T.na_Reader_at, rfl, ?_⟩
  walk_at "rk"
  obtain ⟨b, hb, ho⟩ := hz2.here2 ht
  refine x_ixL (sqL hz2.ls) (atI_of (by omega) (v := .ref b) (by rw [show (((i + 1 : Nat) : Int) - 1).toNat = i by omega]; exact hb)) ?_
  exact hq _ b ExB.upd hz2 ho
def sp_Reader_refuse (K : PySem.W.Frag) : Sp := Sp2 fun a k H _ E => ∃ (z : RI) (i : Nat) (t : Vameta.Token) (n : Int), a = .ref z.a ∧ k = .int n ∧ Rdr K H z i ∧ z.l[i]? = some t ∧ FaultE K H E n t.place
theorem ok_Reader_refuse (T : Txt K mg) (c_Fault___init__ : MakE P w K mg base 1 "Fault" (He.ga K "Fault") (sp_Fault___init__ K)) (c_Reader_token : Met0 P w K mg base 1 (He.ga K "Reader") "token" (sp_Reader_token K)) :
    MetX P w K mg base 3 (He.ga K "Reader") "refuse" (sp_Reader_refuse K) := by
  refine T.d_Reader_refuse.okX (k := 2) sc_Reader_refuse Sp2.len (fun f cdv A outer s H vs Q E hr h => ⟨_, (pss_one (ps_raise rfl takesD (pmk_e c_Fault___init__ hr (by decide) (pa_cons (pv 1) (pa_cons (pe_fld (pe_m0n c_Reader_token T.cl_Reader hr (by decide) (pv 0)) rfl) pa_nil))))), ?_⟩)
  obtain ⟨_, _, rfl, z, i, t, n, rfl, rfl, hz, ht, hE⟩ := h
  try dsimp only [cxOf]
  walk_at "rk"
  refine ⟨_, _, _, rfl, hz.me, rfl, ?_⟩
  walk_at "rk"
  refine ⟨_, rfl, z, i, t, rfl, hz, ht, fun b hb => ?_⟩
  obtain ⟨dx, k, s, m, ho, hk⟩ := hb
  walk_at "rk"
  refine ⟨_, _, _, _, _, rfl, ho, T.cl_Token, T.na_Token_place, rfl, ?_⟩
  walk_at "rk"
  exact mk_Fault fun H2 d e2 h2 => hE H2 d e2 h2

/-! ### is_sign -/
def sp_Reader_is_sign (K : PySem.W.Frag) : Sp := Sp2 fun a c H Q _ => ∃ (z : RI) (i b : Nat), a = .ref z.a ∧ c = .str (SX.S [b]) ∧ Rdr K H z i ∧ Q (.bl (Vameta.signIs b (z.l.drop i))) H
theorem ok_Reader_is_sign (T : Txt K mg) (c_Reader_token : Met0 P w K mg base 1 (He.ga K "Reader") "token" (sp_Reader_token K)) :
    Met0 P w K mg base 2 (He.ga K "Reader") "is_sign" (sp_Reader_is_sign K) := by
  refine T.d_Reader_is_sign.ok0 (k := 1) sc_Reader_is_sign Sp2.len (fun f cdv A outer s H vs Q E hr h => ⟨_, (pss_one (ps_ret (pe_and (pe_cmpR op_eq (pe_fld (pe_m0n c_Reader_token T.cl_Reader hr (by decide) (pv 0)) rfl) (C8.pe_gc (by rfl) T.k_SIGN) (by first | exact nomark _ | rfl)) (pe_one (pe_cmpR op_eq (pe_fld (pe_m0n c_Reader_token T.cl_Reader hr (by decide) (pv 0)) rfl) (pv 1) (by first | exact nomark _ | rfl)))))), ?_⟩)
  obtain ⟨_, _, rfl, z, i, b, rfl, rfl, hz, hq⟩ := h
  obtain ⟨t, _, ht, _, _⟩ := hz.here
  rw [drop_at ht, Mr.signIs_cons] at hq
  try dsimp only [cxOf]
  walk_at "rk"
  refine ⟨_, _, _, rfl, hz.me, rfl, ?_⟩
  walk_at "rk"
  refine ⟨_, rfl, z, i, t, rfl, hz, ht, fun a1 h1 => ?_⟩
  obtain ⟨dx, k, s, m, ho, hk⟩ := h1
  walk_at "rk"
  refine ⟨_, _, _, _, _, rfl, ho, T.cl_Token, T.na_Token_kind, rfl, ?_⟩
  walk_at "rk"
  refine x_ite (fun c => ?_) (fun c => ?_)
  · walk_at "rk"
    refine ⟨_, _, _, rfl, hz.me, rfl, ?_⟩
    walk_at "rk"
    refine ⟨_, rfl, z, i, t, rfl, hz, ht, fun a1 h1 => ?_⟩
    obtain ⟨dx2, k2, s2, m2, ho2, hk2⟩ := h1
    walk_at "rk"
    refine ⟨_, _, _, _, _, rfl, ho2, T.cl_Token, T.na_Token_word, rfl, ?_⟩
    walk_at "rk"
    obtain ⟨pl, tk⟩ := t
    cases tk with
    | sign b2 =>
      obtain ⟨_, rfl, _⟩ := hk2
      have e : decide (SX.S [b2] = SX.S [b]) = decide ((⟨pl, .sign b2⟩ : Vameta.Token).tok = .sign b) := by
        rw [Bool.eq_iff_iff, decide_eq_true_iff, decide_eq_true_iff]
        constructor
        · intro e
          rw [(List.cons.inj (SX.S_inj e)).1]
        · intro e
          rw [Vameta.Tok.sign.inj e]
      rw [e]
      exact hq
    | word w => exact absurd (hk.1.symm.trans c) (by decide)
    | num n => exact absurd (hk.1.symm.trans c) (by decide)
    | ending => exact absurd (hk.1.symm.trans c) (by decide)
  · have : decide (t.tok = .sign b) = false := decide_eq_false fun e => by
      rw [e] at hk
      exact c hk.1
    rw [this] at hq
    exact hq

/-! ### take_sign -/
def sp_Reader_take_sign (K : PySem.W.Frag) : Sp := Sp2 fun a c H Q E => ∃ (z : RI) (i b : Nat), a = .ref z.a ∧ c = .str (SX.S [b]) ∧ Rdr K H z i ∧ Out K z.a H E (Vameta.takeSign b (z.l.drop i)) fun r => Ret K z H i (fun _ v (_ : Unit) => v = .non) Q ((), r)
theorem ok_Reader_take_sign (T : Txt K mg) (c_Reader_is_sign : Met0 P w K mg base 2 (He.ga K "Reader") "is_sign" (sp_Reader_is_sign K)) (c_Reader_refuse : MetX P w K mg base 3 (He.ga K "Reader") "refuse" (sp_Reader_refuse K))
    (c_Reader_step : Met0 P w K mg base 1 (He.ga K "Reader") "step" (sp_Reader_step K)) :
    MetX P w K mg base 4 (He.ga K "Reader") "take_sign" (sp_Reader_take_sign K) := by
  refine T.d_Reader_take_sign.okX (k := 3) sc_Reader_take_sign Sp2.len (fun f cdv A outer s H vs Q E hr h => ⟨_, (pss_cons (ps_if (pt_not (pt_val (pe_m0 c_Reader_is_sign T.cl_Reader hr (by decide) (pv 0) (pa_cons (pv 1) pa_nil)))) (pss_one (ps_expr (pe_mX c_Reader_refuse T.cl_Reader hr (by decide) passD (pv 0) (pa_cons pe_int pa_nil)))) pss_nil)
      (pss_one (ps_expr (pe_m0n c_Reader_step T.cl_Reader hr (by decide) (pv 0))))), ?_⟩)
  obtain ⟨_, _, rfl, z, i, b, rfl, rfl, hz, hq⟩ := h
  obtain ⟨t, _, ht, _, _⟩ := hz.here
  have hd := drop_at ht
  have hm := hz.me
  unfold rdo at hm
  unfold Vameta.takeSign at hq
  try dsimp only [cxOf]
  walk_at "rk"
  refine ⟨_, _, _, rfl, hm, rfl, ?_⟩
  walk_at "rk"
  refine ⟨_, _, rfl, z, i, b, rfl, rfl, hz, ?_⟩
  walk_at "rk"
  cases c : Vameta.signIs b (z.l.drop i) with
  | false =>
    rw [c, if_neg Bool.false_ne_true, hd] at hq
    walk_at "rk"
    refine ⟨_, _, _, rfl, hm, rfl, ?_⟩
    walk_at "rk"
    exact ⟨_, _, rfl, z, i, t, 2, rfl, rfl, hz, ht, FaultB.e hq⟩
  | true =>
    rw [c, if_pos rfl] at hq
    have hne : t.tok ≠ .ending := fun e => by
      rw [hd, Mr.signIs_cons, e] at c
      cases of_decide_eq_true c
    have hlt := Mr.good_at hz.gd ht hne
    walk_at "rk"
    refine ⟨_, _, _, rfl, hm, rfl, ?_⟩
    walk_at "rk"
    refine ⟨_, rfl, z, i, t, rfl, hz, ht, hlt, fun H' a1 e h1 h2 => ?_⟩
    walk_at "rk"
    exact hq H' _ (i + 1) e h1 (Nat.lt_succ_self i) (by rw [List.drop_drop]) rfl
end
end RR
/-! part P10 -/
/-! The reader: words, numbers. -/
namespace RR
open PySem PySem.Spec PyProof.Rows L2
local macro_rules | `(tactic| walk_at "rd1") => `(tactic| (first
  | with_reducible refine x_seq ?_
  | with_reducible refine x_next ?_
  | with_reducible refine x_asg ?_
  | with_reducible refine x_name ?_
  | with_reducible refine x_ret ?_
  | with_reducible refine x_retN ?_
  | with_reducible refine x_drop ?_
  | with_reducible refine x_if ?_
  | ((with_reducible apply x_var); exact rfl)
  | ((with_reducible apply x_aug1); exact rfl)
  | with_reducible refine x_c ?_
  | with_reducible refine x_op ?_
  | with_reducible refine x_I0 ?_
  | with_reducible refine x_un ?_
  | with_reducible refine x_U ?_
  | with_reducible refine x_eqI ?_
  | with_reducible refine x_eqS ?_
  | with_reducible refine x_neI ?_
  | with_reducible refine x_test ?_
  | with_reducible refine x_tB ?_
  | with_reducible refine x_bl ?_
  | with_reducible refine x_and ?_
  | with_reducible refine x_or ?_
  | with_reducible refine x_not ?_
  | with_reducible refine x_andV ?_
  | with_reducible refine x_orV ?_
  | with_reducible refine x_notV ?_
  | with_reducible refine x_tIf ?_
  | with_reducible refine x_chain ?_
  | with_reducible refine x_cons ?_
  | with_reducible refine x_nil ?_
  | with_reducible refine x_tup ?_
  | with_reducible refine x_lst ?_
  | with_reducible refine x_tupF ?_
  | with_reducible refine x_cb ?_
  | with_reducible refine x_call ?_
  | with_reducible refine x_callS ?_
  | with_reducible refine x_meth ?_
  | with_reducible refine x_methS ?_
  | with_reducible refine x_make ?_
  | with_reducible refine x_ost ?_
  | with_reducible refine x_mkO ?_
  | with_reducible refine x_sFld ?_
  | with_reducible refine x_sFldAug ?_
  | with_reducible refine x_m1 ?_
  | with_reducible refine x_fld ?_
  | with_reducible refine x_bm ?_
  | with_reducible refine x_bmU ?_
  | with_reducible refine x_sl ?_
  | with_reducible refine x_part ?_
  | with_reducible refine x_noPart ?_
  | with_reducible refine x_revL ?_
  | with_reducible refine x_sz0 ?_
  | with_reducible refine x_sz1 ?_
  | with_reducible refine x_sz2 ?_
  | with_reducible refine x_sz3 ?_
  | with_reducible refine x_sz4 ?_
  | with_reducible refine x_sz5 ?_))
local macro_rules | `(tactic| walk_at "rd") => `(tactic| repeat walk_at "rd1")
local macro_rules | `(tactic| walk_at "rk") => `(tactic| repeat (first | walk_at "rd1" | with_reducible refine x_iteT (by decide) ?_ | with_reducible refine x_iteF (by decide) ?_))
abbrev wds (wl : List (List Nat)) : List V := (wl.map SX.S).map V.str
theorem inV_str (w : List Nat) (wl : List (List Nat)) : inV (V.str (SX.S w)) (wds wl) = decide (w ∈ wl) := by
  unfold inV wds
  rw [List.map_map, List.any_map, Bool.eq_iff_iff, List.any_eq_true, decide_eq_true_iff]
  constructor
  · rintro ⟨u, hu, e⟩
    have e : (SX.S u == SX.S w) = true := e
    rw [SX.S_beq_eq, decide_eq_true_iff] at e
    rw [← e]
    exact hu
  · intro h
    refine ⟨w, h, ?_⟩
    show (SX.S w == SX.S w) = true
    rw [SX.S_beq_eq, decide_eq_true_iff]
theorem flat_wds (wl : List (List Nat)) : (wds wl).all flatV = true := by
  unfold wds
  rw [List.all_map, List.all_eq_true]
  intro x _
  rfl
theorem idx_at {wl : List (List Nat)} {w : List Nat} (h : w ∈ wl) : (wl.map SX.S)[wl.idxOf w]? = some (SX.S w) ∧ ∀ m, m < wl.idxOf w → (wl.map SX.S)[m]? ≠ some (SX.S w) := by
  have hlt := List.idxOf_lt_length_of_mem h
  refine ⟨?_, fun m hm e => ?_⟩
  · rw [List.getElem?_map, List.getElem?_eq_getElem hlt, List.getElem_idxOf hlt]
    rfl
  · rw [List.getElem?_map, List.getElem?_eq_getElem (by omega)] at e
    have e := SX.S_inj (Option.some.inj e)
    have := List.not_of_lt_findIdx (xs := wl) (p := fun x => x == w) hm
    simp [e] at this
section
variable {P : Program} {w : World} {K : PySem.W.Frag} {mg : Str → Option Value} {base : Heap}
/-! ### take_word -/
def sp_Reader_take_word (K : PySem.W.Frag) : Sp := Sp2 fun a b H Q E => ∃ (z : RI) (i : Nat) (q : Addr) (wl : List (List Nat)), a = .ref z.a ∧ b = .ref q ∧ SqT K H q (wds wl) ∧ TyU K (.ref q) H ∧ Rdr K H z i ∧ Out K z.a H E (Mr.tw wl (z.l.drop i)) (Ret K z H i (fun _ v (n : Nat) => v = .int n) Q)
theorem ok_Reader_take_word (T : Txt K mg) (c_Reader_token : Met0 P w K mg base 1 (He.ga K "Reader") "token" (sp_Reader_token K)) (c_Reader_refuse : MetX P w K mg base 3 (He.ga K "Reader") "refuse" (sp_Reader_refuse K))
    (c_Reader_step : Met0 P w K mg base 1 (He.ga K "Reader") "step" (sp_Reader_step K)) :
    MetX P w K mg base 4 (He.ga K "Reader") "take_word" (sp_Reader_take_word K) := by
  refine T.d_Reader_take_word.okX (k := 3) sc_Reader_take_word Sp2.len (fun f cdv A outer s H vs Q E hr h => ⟨_, (pss_cons (ps_if (PW.pt (pw_or (pt_cmpR op_ne (pe_fld (pe_m0n c_Reader_token T.cl_Reader hr (by decide) (pv 0)) rfl) (C8.pe_gc (by rfl) T.k_WORD) (by first | exact nomark _ | rfl)) (pw_or1 (pt_cmpR op_notIn_seq (pe_fld (pe_m0n c_Reader_token T.cl_Reader hr (by decide) (pv 0)) rfl) (pv 1) (by first | exact nomark _ | rfl))))) (pss_one (ps_expr (pe_mX c_Reader_refuse T.cl_Reader hr (by decide) passD (pv 0) (pa_cons pe_int pa_nil)))) pss_nil)
      (pss_one (ps_ret (pe_bmU PySem.F.plainAttrs_tuple PySem.F.slot_tuple_index PySem.F.type_tuple_index mt_tup_index (pv 1) (pa_cons (pe_fld (pe_m0n c_Reader_step T.cl_Reader hr (by decide) (pv 0)) rfl) pa_nil))))), ?_⟩)
  obtain ⟨_, _, rfl, z, i, q, wl, rfl, rfl, hql, hqt, hz, hq⟩ := h
  obtain ⟨t, a0, ht, ha0, ho⟩ := hz.here
  have hd := drop_at ht
  have hm := hz.me
  unfold rdo at hm
  rw [hd] at hq
  try dsimp only [cxOf]
  walk_at "rk"
  refine ⟨_, _, _, rfl, hm, rfl, ?_⟩
  walk_at "rk"
  refine ⟨_, rfl, z, i, t, rfl, hz, ht, fun a1 h1 => ?_⟩
  obtain ⟨dx, k, s, m, ho, hk⟩ := h1
  walk_at "rk"
  refine ⟨_, _, _, _, _, rfl, ho, T.cl_Token, T.na_Token_kind, rfl, ?_⟩
  walk_at "rk"
  by_cases c : ∃ w, t.tok = .word w
  · obtain ⟨wd, ew⟩ := c
    obtain ⟨pl, tk⟩ := t
    obtain rfl : tk = .word wd := ew
    obtain ⟨rfl, rfl, rfl⟩ := hk
    rw [Mr.tw_word] at hq
    refine x_iteF (by rfl) ?_
    walk_at "rk"
    refine ⟨_, _, _, rfl, hm, rfl, ?_⟩
    walk_at "rk"
    refine ⟨_, rfl, z, i, _, rfl, hz, ht, fun a2 h2 => ?_⟩
    obtain ⟨dx2, k2, s2, m2, ho2, rfl, rfl, rfl⟩ := h2
    walk_at "rk"
    refine ⟨_, _, _, _, _, rfl, ho2, T.cl_Token, T.na_Token_word, rfl, ?_⟩
    walk_at "rk"
    refine x_in (Or.inr hql) rfl (flat_wds _) ?_
    rw [if_pos rfl, inV_str]
    walk_at "rk"
    by_cases hw : wd ∈ wl
    · rw [if_pos hw] at hq
      refine x_iteF (by rw [decide_eq_true hw]; rfl) ?_
      walk_at "rk"
      refine ⟨hqt, ?_⟩
      walk_at "rk"
      refine ⟨_, _, _, rfl, hm, rfl, ?_⟩
      walk_at "rk"
      refine ⟨_, rfl, z, i, _, rfl, hz, ht, Mr.good_at hz.gd ht (by intro z; cases z), fun H1 b1 e1 hz1 hb1 => ?_⟩
      obtain ⟨dx3, k3, s3, m3, ho3, rfl, rfl, rfl⟩ := hb1
      walk_at "rk"
      refine ⟨_, _, _, _, _, rfl, ho3, T.cl_Token, T.na_Token_word, rfl, ?_⟩
      walk_at "rk"
      obtain ⟨i1, i2⟩ := idx_at hw
      refine ⟨q, wl.map SX.S, SX.S wd, wl.idxOf wd, rfl, rfl, e1.t ⟨_, _, _, hm⟩ hql, i1, i2, ?_⟩
      exact hq H1 _ (i + 1) e1 hz1 (Nat.lt_succ_self i) rfl rfl
    · rw [if_neg hw] at hq
      refine x_iteT (by rw [decide_eq_false hw]; rfl) ?_
      walk_at "rk"
      refine ⟨_, _, _, rfl, hm, rfl, ?_⟩
      walk_at "rk"
      exact ⟨_, _, rfl, z, i, _, 2, rfl, rfl, hz, ht, FaultB.e hq⟩
  · have hn : ∀ w, t.tok ≠ .word w := fun w e => c ⟨w, e⟩
    rw [Mr.tw_other hn] at hq
    have hk0 : k ≠ 0 := by
      intro e
      obtain ⟨pl, tk⟩ := t
      cases tk with
      | word w => exact hn w rfl
      | num n => exact absurd (hk.1.symm.trans e) (by decide)
      | sign n => exact absurd (hk.1.symm.trans e) (by decide)
      | ending => exact absurd (hk.1.symm.trans e) (by decide)
    refine x_iteT (by rw [decide_eq_false hk0]; rfl) ?_
    walk_at "rk"
    refine ⟨_, _, _, rfl, hm, rfl, ?_⟩
    walk_at "rk"
    exact ⟨_, _, rfl, z, i, _, 2, rfl, rfl, hz, ht, FaultB.e hq⟩

/-! ### take_number -/
theorem num_other {a b : Nat} {t : Vameta.Token} {r : Vameta.Toks} (h : ∀ n, t.tok ≠ .num n) : Vameta.takeNum a b (t :: r) = .error ⟨2, t.place⟩ := by
  obtain ⟨p, k⟩ := t
  cases k with
  | num n => exact absurd rfl (h n)
  | _ => rfl
theorem num_num {a b p n : Nat} {r : Vameta.Toks} : Vameta.takeNum a b (⟨p, .num n⟩ :: r) = if a ≤ n ∧ n ≤ b then .ok (n, r) else .error ⟨3, p⟩ := rfl
def sp_Reader_take_number (K : PySem.W.Frag) : Sp := Sp3 fun a b c H Q E => ∃ (z : RI) (i lo hi : Nat), a = .ref z.a ∧ b = .int lo ∧ c = .int hi ∧ Rdr K H z i ∧ Out K z.a H E (Vameta.takeNum lo hi (z.l.drop i)) (Ret K z H i (fun _ v (n : Nat) => v = .int n) Q)
theorem ok_Reader_take_number (T : Txt K mg) (c_Reader_token : Met0 P w K mg base 1 (He.ga K "Reader") "token" (sp_Reader_token K)) (c_Reader_refuse : MetX P w K mg base 3 (He.ga K "Reader") "refuse" (sp_Reader_refuse K))
    (c_Reader_step : Met0 P w K mg base 1 (He.ga K "Reader") "step" (sp_Reader_step K)) :
    MetX P w K mg base 4 (He.ga K "Reader") "take_number" (sp_Reader_take_number K) := by
  refine T.d_Reader_take_number.okX (k := 3) sc_Reader_take_number Sp3.len (fun f cdv A outer s H vs Q E hr h => ⟨_, (pss_cons (ps_if (pt_cmpR op_ne (pe_fld (pe_m0n c_Reader_token T.cl_Reader hr (by decide) (pv 0)) rfl) (C8.pe_gc (by rfl) T.k_NUMBER) (by first | exact nomark _ | rfl)) (pss_one (ps_expr (pe_mX c_Reader_refuse T.cl_Reader hr (by decide) passD (pv 0) (pa_cons pe_int pa_nil)))) pss_nil)
      (pss_cons (ps_if (pt_not (pt_chain op_le op_le (pv 1) (pe_fld (pe_m0n c_Reader_token T.cl_Reader hr (by decide) (pv 0)) rfl) (pv 2))) (pss_one (ps_expr (pe_mX c_Reader_refuse T.cl_Reader hr (by decide) passD (pv 0) (pa_cons pe_int pa_nil)))) pss_nil)
      (pss_one (ps_ret (pe_fld (pe_m0n c_Reader_step T.cl_Reader hr (by decide) (pv 0)) rfl))))), ?_⟩)
  obtain ⟨_, _, _, rfl, z, i, lo, hi, rfl, rfl, rfl, hz, hq⟩ := h
  obtain ⟨t, a0, ht, ha0, ho⟩ := hz.here
  have hd := drop_at ht
  have hm := hz.me
  unfold rdo at hm
  rw [hd] at hq
  try dsimp only [cxOf]
  walk_at "rk"
  refine ⟨_, _, _, rfl, hm, rfl, ?_⟩
  walk_at "rk"
  refine ⟨_, rfl, z, i, t, rfl, hz, ht, fun a1 h1 => ?_⟩
  obtain ⟨dx, k, s, m, ho, hk⟩ := h1
  walk_at "rk"
  refine ⟨_, _, _, _, _, rfl, ho, T.cl_Token, T.na_Token_kind, rfl, ?_⟩
  walk_at "rk"
  by_cases c : ∃ n, t.tok = .num n
  · obtain ⟨n, ew⟩ := c
    obtain ⟨pl, tk⟩ := t
    obtain rfl : tk = .num n := ew
    obtain ⟨rfl, rfl, rfl⟩ := hk
    rw [num_num] at hq
    refine x_iteF (by rfl) ?_
    walk_at "rk"
    refine ⟨_, _, _, rfl, hm, rfl, ?_⟩
    walk_at "rk"
    refine ⟨_, rfl, z, i, _, rfl, hz, ht, fun a2 h2 => ?_⟩
    obtain ⟨dx2, k2, s2, m2, ho2, rfl, rfl, rfl⟩ := h2
    walk_at "rk"
    refine ⟨_, _, _, _, _, rfl, ho2, T.cl_Token, T.na_Token_number, rfl, ?_⟩
    walk_at "rk"
    by_cases hw : lo ≤ n ∧ n ≤ hi
    · rw [if_pos hw] at hq
      refine x_iteT (decide_eq_true (by omega)) ?_
      walk_at "rk"
      refine x_iteF (by rw [decide_eq_true (show ((n : Nat) : Int) ≤ (hi : Nat) by omega)]; rfl) ?_
      walk_at "rk"
      refine ⟨_, _, _, rfl, hm, rfl, ?_⟩
      walk_at "rk"
      refine ⟨_, rfl, z, i, _, rfl, hz, ht, Mr.good_at hz.gd ht (by intro z; cases z), fun H1 b1 e1 hz1 hb1 => ?_⟩
      obtain ⟨dx3, k3, s3, m3, ho3, rfl, rfl, rfl⟩ := hb1
      walk_at "rk"
      refine ⟨_, _, _, _, _, rfl, ho3, T.cl_Token, T.na_Token_number, rfl, ?_⟩
      exact hq H1 _ (i + 1) e1 hz1 (Nat.lt_succ_self i) rfl rfl
    · rw [if_neg hw] at hq
      refine x_ite (fun c1 => ?_) (fun c1 => ?_)
      · walk_at "rk"
        refine x_iteT (by rw [decide_eq_false (show ¬ ((n : Nat) : Int) ≤ (hi : Nat) by omega)]; rfl) ?_
        walk_at "rk"
        refine ⟨_, _, _, rfl, hm, rfl, ?_⟩
        walk_at "rk"
        exact ⟨_, _, rfl, z, i, _, 3, rfl, rfl, hz, ht, FaultB.e hq⟩
      · walk_at "rk"
        refine ⟨_, _, _, rfl, hm, rfl, ?_⟩
        walk_at "rk"
        exact ⟨_, _, rfl, z, i, _, 3, rfl, rfl, hz, ht, FaultB.e hq⟩
  · have hn : ∀ w, t.tok ≠ .num w := fun w e => c ⟨w, e⟩
    rw [num_other hn] at hq
    have hk0 : k ≠ 1 := by
      intro e
      obtain ⟨pl, tk⟩ := t
      cases tk with
      | num w => exact hn w rfl
      | word n => exact absurd (hk.1.symm.trans e) (by decide)
      | sign n => exact absurd (hk.1.symm.trans e) (by decide)
      | ending => exact absurd (hk.1.symm.trans e) (by decide)
    refine x_iteT (by rw [decide_eq_false hk0]; rfl) ?_
    walk_at "rk"
    refine ⟨_, _, _, rfl, hm, rfl, ?_⟩
    walk_at "rk"
    exact ⟨_, _, rfl, z, i, _, 2, rfl, rfl, hz, ht, FaultB.e hq⟩

/-! ### take_signed -/
def sp_Reader_take_signed (K : PySem.W.Frag) : Sp := Sp1 fun a H Q E => ∃ (z : RI) (i : Nat), a = .ref z.a ∧ Rdr K H z i ∧ Out K z.a H E (Vameta.takeInt (z.l.drop i)) (Ret K z H i (fun _ v (n : Int) => v = .int n) Q)
theorem ok_Reader_take_signed (T : Txt K mg) (c_Fault___init__ : MakE P w K mg base 1 "Fault" (He.ga K "Fault") (sp_Fault___init__ K)) (c_Reader_is_sign : Met0 P w K mg base 2 (He.ga K "Reader") "is_sign" (sp_Reader_is_sign K))
    (c_Reader_step : Met0 P w K mg base 1 (He.ga K "Reader") "step" (sp_Reader_step K)) (c_Reader_take_number : MetX P w K mg base 4 (He.ga K "Reader") "take_number" (sp_Reader_take_number K)) :
    MetX P w K mg base 5 (He.ga K "Reader") "take_signed" (sp_Reader_take_signed K) := by
  refine T.d_Reader_take_signed.okX (k := 4) sc_Reader_take_signed Sp1.len (fun f cdv A outer s H vs Q E hr h => ⟨_, (pss_cons (ps_if (pt_not (pt_val (pe_m0 c_Reader_is_sign T.cl_Reader hr (by decide) (pv 0) (pa_cons pe_str pa_nil)))) (pss_one (ps_ret (pe_mX c_Reader_take_number T.cl_Reader hr (by decide) passD (pv 0) (pa_cons pe_int (pa_cons pe_int pa_nil))))) pss_nil)
      (pss_cons (ps_set (i := 1) sc_Reader_take_signed.nd rfl (Or.inl rfl) (pe_fld (pe_m0n c_Reader_step T.cl_Reader hr (by decide) (pv 0)) rfl))
      (pss_cons (ps_set (i := 2) sc_Reader_take_signed.nd rfl (Or.inl rfl) (pe_mX c_Reader_take_number T.cl_Reader hr (by decide) passD (pv 0) (pa_cons pe_int (pa_cons pe_int pa_nil))))
      (pss_cons (ps_if (pt_cmpR op_eq (pv 2) pe_int (by first | exact nomark _ | rfl)) (pss_one (ps_raise rfl takesD (pmk_e c_Fault___init__ hr (by decide) (pa_cons pe_int (pa_cons (pv 1) pa_nil))))) pss_nil)
      (pss_one (ps_ret (pe_op op_sub pe_int (pv 2)))))))), ?_⟩)
  obtain ⟨_, rfl, z, i, rfl, hz, hq⟩ := h
  obtain ⟨t, a0, ht, ha0, ho⟩ := hz.here
  have hd := drop_at ht
  have hm := hz.me
  unfold rdo at hm
  unfold Vameta.takeInt at hq
  try dsimp only [cxOf]
  walk_at "rk"
  refine ⟨_, _, _, rfl, hm, rfl, ?_⟩
  walk_at "rk"
  refine ⟨_, _, rfl, z, i, 45, rfl, rfl, hz, ?_⟩
  cases c : Vameta.signIs 45 (z.l.drop i) with
  | false =>
    rw [c, if_neg Bool.false_ne_true] at hq
    walk_at "rk"
    refine ⟨_, _, _, rfl, hm, rfl, ?_⟩
    walk_at "rk"
    refine ⟨_, _, _, rfl, z, i, 0, 99, rfl, rfl, rfl, hz, hq.map.mono (ExB.refl _ _) fun x hx k => ?_⟩
    intro H1 u i1 e1 hz1 hlt hdr hu
    exact k H1 u i1 e1 hz1 hlt hdr hu
  | true =>
    rw [c, if_pos rfl] at hq
    have hne : t.tok ≠ .ending := fun e => by
      rw [hd, Mr.signIs_cons, e] at c
      cases of_decide_eq_true c
    walk_at "rk"
    refine ⟨_, _, _, rfl, hm, rfl, ?_⟩
    walk_at "rk"
    refine ⟨_, rfl, z, i, t, rfl, hz, ht, Mr.good_at hz.gd ht hne, fun H1 b1 e1 hz1 hb1 => ?_⟩
    obtain ⟨dx3, k3, s3, m3, ho3, hk3⟩ := hb1
    have hm1 := hz1.me
    unfold rdo at hm1
    walk_at "rk"
    refine ⟨_, _, _, _, _, rfl, ho3, T.cl_Token, T.na_Token_place, rfl, ?_⟩
    walk_at "rk"
    refine ⟨_, _, _, rfl, hm1, rfl, ?_⟩
    walk_at "rk"
    rw [List.drop_drop] at hq
    refine ⟨_, _, _, rfl, z, i + 1, 0, 99, rfl, rfl, rfl, hz1, hq.bind.mono e1 fun x hx k => ?_⟩
    intro H2 u i2 e2 hz2 hlt hdr hu
    obtain rfl := hu
    walk_at "rk"
    refine x_ite (fun c1 => ?_) (fun c1 => ?_)
    · rw [if_pos (by omega)] at k
      walk_at "rk"
      have hh : Vameta.here (z.l.drop i) = t.place := by rw [hd]; rfl
      refine mk_Fault fun H3 d e3 h3 => k H3 d ((e1.trans e2).trans e3.b) ?_
      rw [h3, hh]
      rfl
    · rw [if_neg (by omega)] at k
      walk_at "rk"
      exact k H2 _ i2 (e1.trans e2) hz2 (by omega) hdr rfl
end
end RR
/-! part P11 -/
/-! The reader: steps, conditions. -/
namespace RR
open PySem PySem.Spec PyProof.Rows L2
local macro_rules | `(tactic| walk_at "rd1") => `(tactic| (first
  | with_reducible refine x_seq ?_
  | with_reducible refine x_next ?_
  | with_reducible refine x_asg ?_
  | with_reducible refine x_name ?_
  | with_reducible refine x_ret ?_
  | with_reducible refine x_retN ?_
  | with_reducible refine x_drop ?_
  | with_reducible refine x_if ?_
  | ((with_reducible apply x_var); exact rfl)
  | ((with_reducible apply x_aug1); exact rfl)
  | with_reducible refine x_c ?_
  | with_reducible refine x_op ?_
  | with_reducible refine x_I0 ?_
  | with_reducible refine x_un ?_
  | with_reducible refine x_U ?_
  | with_reducible refine x_eqI ?_
  | with_reducible refine x_eqS ?_
  | with_reducible refine x_neI ?_
  | with_reducible refine x_test ?_
  | with_reducible refine x_tB ?_
  | with_reducible refine x_bl ?_
  | with_reducible refine x_and ?_
  | with_reducible refine x_or ?_
  | with_reducible refine x_not ?_
  | with_reducible refine x_andV ?_
  | with_reducible refine x_orV ?_
  | with_reducible refine x_notV ?_
  | with_reducible refine x_tIf ?_
  | with_reducible refine x_chain ?_
  | with_reducible refine x_cons ?_
  | with_reducible refine x_nil ?_
  | with_reducible refine x_tup ?_
  | with_reducible refine x_lst ?_
  | with_reducible refine x_tupF ?_
  | with_reducible refine x_cb ?_
  | with_reducible refine x_call ?_
  | with_reducible refine x_callS ?_
  | with_reducible refine x_meth ?_
  | with_reducible refine x_methS ?_
  | with_reducible refine x_make ?_
  | with_reducible refine x_ost ?_
  | with_reducible refine x_mkO ?_
  | with_reducible refine x_sFld ?_
  | with_reducible refine x_sFldAug ?_
  | with_reducible refine x_m1 ?_
  | with_reducible refine x_fld ?_
  | with_reducible refine x_bm ?_
  | with_reducible refine x_bmU ?_
  | with_reducible refine x_sl ?_
  | with_reducible refine x_part ?_
  | with_reducible refine x_noPart ?_
  | with_reducible refine x_revL ?_
  | with_reducible refine x_sz0 ?_
  | with_reducible refine x_sz1 ?_
  | with_reducible refine x_sz2 ?_
  | with_reducible refine x_sz3 ?_
  | with_reducible refine x_sz4 ?_
  | with_reducible refine x_sz5 ?_))
local macro_rules | `(tactic| walk_at "rd") => `(tactic| repeat walk_at "rd1")
local macro_rules | `(tactic| walk_at "rk") => `(tactic| repeat (first | walk_at "rd1" | with_reducible refine x_iteT (by decide) ?_ | with_reducible refine x_iteF (by decide) ?_))
/-- all tuples stay -/
def Tk (H H' : Hp) : Prop := ∀ p vs, H p = some (.tup vs) → H' p = some (.tup vs)
theorem Tk.refl (H : Hp) : Tk H H := fun _ _ h => h
theorem Tk.trans {H H1 H2 : Hp} (a : Tk H H1) (b : Tk H1 H2) : Tk H H2 := fun p vs h => b p vs (a p vs h)
theorem Ex.tk {H H' : Hp} (e : Ex H H') : Tk H H' := fun p vs h => e p _ h
theorem ExB.tk {a : Addr} {H H' : Hp} (e : ExB a H H') {C dx : Addr} {fs : List (Str × V)} (ha : H a = some (.ins C dx fs)) : Tk H H' := fun p vs h => e p _ h fun z => by
  rw [z, ha] at h
  cases h
theorem Tk.lst {H : Hp} {r : Addr} {ws : List V} (h : H r = some (.lst ws)) (o : HO) : Tk H (upd H r o) := fun p vs hp => by
  rw [upd_ne fun z => by rw [z, h] at hp; cases hp]
  exact hp
theorem StepAt.tk {H H' : Hp} (e : Tk H H') {v : V} {s : VametBase.Step} (h : StepAt H v s) : StepAt H' v s := by
  obtain ⟨p, a, b, c⟩ := h
  exact ⟨p, a, e _ _ b, c⟩
theorem ProgAt.tk {H H' : Hp} (e : Tk H H') {v : V} {f : VametBase.Program} (h : ProgAt H v f) : ProgAt H' v f := by
  obtain ⟨p, vs, a, b, c, d⟩ := h
  exact ⟨p, vs, a, e _ _ b, c.imp fun _ _ => StepAt.tk e, d⟩
theorem CondAt.tk {H H' : Hp} (e : Tk H H') {v : V} {c : VametBase.Cond} (h : CondAt H v c) : CondAt H' v c := by
  obtain ⟨p, a, b, d⟩ := h
  exact ⟨p, a, e _ _ b, d⟩
theorem RelAt.tk {H H' : Hp} (e : Tk H H') {v : V} {r : VametBase.Relation} (h : RelAt H v r) : RelAt H' v r := by
  obtain ⟨p, c, i, o, a, b, d, f, g⟩ := h
  exact ⟨p, c, i, o, a, e _ _ b, d.tk e, f.tk e, g.tk e⟩
def signedW : List (List Nat) := ["add", "times", "above"].map Vameta.word
def countedW : List (List Nat) := ["rotate", "take", "drop"].map Vameta.word
theorem step_facts : ∀ j, j < 18 → decide (Mr.stepsW.getD j [] ∈ signedW) = decide (j = 0 ∨ j = 1 ∨ j = 9) ∧ decide (SX.S (Mr.stepsW.getD j []) = ("rest" : Str)) = decide (j = 2) ∧ decide (Mr.stepsW.getD j [] ∈ countedW) = decide (j = 6 ∨ j = 7 ∨ j = 8) := by decide +kernel
theorem cond_facts : ∀ j, j < 6 → decide (SX.S (Mr.condsW.getD j []) = ("atleast" : Str)) = decide (j = 5) := by decide +kernel
theorem stepI_flat {j : Nat} {c : Int} (h : j = 0 ∨ j = 1 ∨ j = 9) : VametBase.flatStep (Mr.stepI j c) = [(j : Int), c] := by rcases h with rfl | rfl | rfl <;> rfl
theorem stepN_flat {j k : Nat} (h : j = 6 ∨ j = 7 ∨ j = 8) : VametBase.flatStep (Mr.stepN j k) = [(j : Int), (k : Int)] := by rcases h with rfl | rfl | rfl <;> rfl
theorem stepP_flat {j : Nat} (h : j = 3 ∨ j = 4 ∨ j = 5 ∨ j = 10 ∨ j = 11 ∨ j = 12 ∨ j = 13 ∨ j = 14 ∨ j = 15 ∨ j = 16 ∨ j = 17) : VametBase.flatStep (Mr.stepP j) = [(j : Int)] ∧ WfStep (Mr.stepP j) := by
  rcases h with rfl | rfl | rfl | rfl | rfl | rfl | rfl | rfl | rfl | rfl | rfl <;> exact ⟨rfl, trivial⟩
theorem stepI_wf {j : Nat} {c : Int} (h : j = 0 ∨ j = 1 ∨ j = 9) (hc : -99 ≤ c ∧ c ≤ 99) : WfStep (Mr.stepI j c) := by rcases h with rfl | rfl | rfl <;> exact hc
theorem stepN_wf {j k : Nat} (h : j = 6 ∨ j = 7 ∨ j = 8) (hc : k ≤ 9) : WfStep (Mr.stepN j k) := by rcases h with rfl | rfl | rfl <;> exact hc
theorem condP_flat {j : Nat} (h : j < 5) : VametBase.flatCond (Mr.condP j) = [(j : Int)] ∧ WfCond (Mr.condP j) := by
  have : j = 0 ∨ j = 1 ∨ j = 2 ∨ j = 3 ∨ j = 4 := by omega
  rcases this with rfl | rfl | rfl | rfl | rfl <;> exact ⟨rfl, trivial⟩
theorem wds_at {wl : List (List Nat)} {j : Nat} (h : j < wl.length) : (wds wl)[j]? = some (V.str (SX.S (wl.getD j []))) := by
  rw [wds, List.getElem?_map, List.getElem?_map, List.getD_eq_getElem?_getD, List.getElem?_eq_getElem h]
  rfl
section
variable {P : Program} {w : World} {K : PySem.W.Frag} {mg : Str → Option Value} {base : Heap}
theorem q_steps (T : Txt K mg) (H : Hp) : SqT K H (He.ga K "STEPS") (wds Mr.stepsW) := T.q_STEPS H
theorem q_conds (T : Txt K mg) (H : Hp) : SqT K H (He.ga K "CONDITIONS") (wds Mr.condsW) := T.q_CONDITIONS H
theorem q_rels (T : Txt K mg) (H : Hp) : SqT K H (He.ga K "STANDS") (wds Mr.relsW) := T.q_STANDS H
theorem q_signed (T : Txt K mg) (H : Hp) : SqT K H (He.ga K "SIGNED") (wds signedW) := T.q_SIGNED H
theorem q_counted (T : Txt K mg) (H : Hp) : SqT K H (He.ga K "COUNTED") (wds countedW) := T.q_COUNTED H
/-! ### take_step -/
def sp_Reader_take_step (K : PySem.W.Frag) : Sp := Sp1 fun a H Q E => ∃ (z : RI) (i : Nat), a = .ref z.a ∧ Rdr K H z i ∧ Out K z.a H E (Vameta.takeStep (z.l.drop i)) (Ret K z H i StepAt Q)
theorem ok_Reader_take_step (T : Txt K mg) (c_Reader_take_word : MetX P w K mg base 4 (He.ga K "Reader") "take_word" (sp_Reader_take_word K)) (c_Reader_take_number : MetX P w K mg base 4 (He.ga K "Reader") "take_number" (sp_Reader_take_number K))
    (c_Reader_take_signed : MetX P w K mg base 5 (He.ga K "Reader") "take_signed" (sp_Reader_take_signed K)) :
    MetX P w K mg base 6 (He.ga K "Reader") "take_step" (sp_Reader_take_step K) := by
  refine T.d_Reader_take_step.okX (k := 5) sc_Reader_take_step Sp1.len (fun f cdv A outer s H vs Q E hr h => ⟨_, (pss_cons (ps_set (i := 1) sc_Reader_take_step.nd rfl (Or.inl rfl) (pe_mX c_Reader_take_word T.cl_Reader hr (by decide) passD (pv 0) (pa_cons (C8.pe_gc (by rfl) T.k_STEPS) pa_nil)))
      (pss_cons (ps_set (i := 2) sc_Reader_take_step.nd rfl (Or.inl rfl) (pe_ix ix_tup (C8.pe_gc (by rfl) T.k_STEPS) (pv 1) (fun _ _ => rfl)))
      (pss_cons (ps_if (pt_cmpR op_in_seq (pv 2) (C8.pe_gc (by rfl) T.k_SIGNED) (by first | exact nomark _ | rfl)) (pss_one (ps_ret (pe_tup (pa_cons (pv 1) (pa_cons (pe_mXn c_Reader_take_signed T.cl_Reader hr (by decide) passD (pv 0)) pa_nil))))) pss_nil)
      (pss_cons (ps_if (pt_cmpR op_eq (pv 2) pe_str (by first | exact nomark _ | rfl)) (pss_one (ps_ret (pe_tup (pa_cons (pv 1) (pa_cons (pe_mX c_Reader_take_number T.cl_Reader hr (by decide) passD (pv 0) (pa_cons pe_int (pa_cons (C8.pe_gc (by rfl) T.k_MOST_COUNT) pa_nil))) pa_nil))))) pss_nil)
      (pss_cons (ps_if (pt_cmpR op_in_seq (pv 2) (C8.pe_gc (by rfl) T.k_COUNTED) (by first | exact nomark _ | rfl)) (pss_one (ps_ret (pe_tup (pa_cons (pv 1) (pa_cons (pe_mX c_Reader_take_number T.cl_Reader hr (by decide) passD (pv 0) (pa_cons pe_int (pa_cons (C8.pe_gc (by rfl) T.k_MOST_COUNT) pa_nil))) pa_nil))))) pss_nil)
      (pss_one (ps_ret (pe_tup (pa_cons (pv 1) pa_nil))))))))), ?_⟩)
  obtain ⟨_, rfl, z, i, rfl, hz, hq⟩ := h
  have hm := hz.me
  unfold rdo at hm
  rw [Mr.takeStep_tw] at hq
  try dsimp only [cxOf]
  walk_at "rk"
  refine ⟨_, _, _, rfl, hm, rfl, ?_⟩
  walk_at "rk"
  refine ⟨_, _, rfl, z, i, _, Mr.stepsW, rfl, rfl, q_steps T H, T.y_STEPS H, hz, hq.bind.mono (ExB.refl _ _) fun x hx k => ?_⟩
  have hj := (Mr.tw_lt hx).1
  obtain ⟨j, r⟩ := x
  dsimp only at hj k
  rw [Mr.stepsW_len] at hj
  intro H1 u i1 e1 hz1 hlt hdr hu
  dsimp only at hdr hu
  subst hdr hu
  obtain ⟨f1, f2, f3⟩ := step_facts j hj
  have hm1 := hz1.me
  unfold rdo at hm1
  walk_at "rk"
  refine x_ixT (q_steps T H1) (atI_nat (wds_at (by rw [Mr.stepsW_len]; exact hj))) ?_
  walk_at "rk"
  refine x_in (Or.inr (q_signed T H1)) rfl (flat_wds _) ?_
  rw [if_neg Bool.false_ne_true, inV_str, f1]
  walk_at "rk"
  unfold Mr.stepOf at k
  refine x_ite (fun c => ?_) (fun c => ?_)
  · rw [if_pos c] at k
    walk_at "rk"
    refine ⟨_, _, _, rfl, hm1, rfl, ?_⟩
    walk_at "rk"
    refine ⟨_, rfl, z, i1, rfl, hz1, k.map.mono e1 fun x hx k => ?_⟩
    have hw := Mr.takeInt_ok hx
    intro H2 u i2 e2 hz2 hlt2 hdr2 hu
    subst hu
    walk_at "rk"
    intro p hp
    have e3 := Ex.new (o := .tup [.int j, .int x.1]) hp
    exact k _ _ i2 ((e1.trans e2).trans e3.b) (hz2.ex e3) (by omega) hdr2 ⟨p, rfl, by rw [upd_same, stepI_flat c]; rfl, stepI_wf c hw⟩
  · rw [if_neg c] at k
    walk_at "rk"
    rw [f2]
    refine x_ite (fun c2 => ?_) (fun c2 => ?_)
    · rw [if_pos c2] at k
      subst c2
      walk_at "rk"
      refine ⟨_, _, _, rfl, hm1, rfl, ?_⟩
      walk_at "rk"
      refine ⟨_, _, _, rfl, z, i1, 1, 9, rfl, rfl, rfl, hz1, k.map.mono e1 fun x hx k => ?_⟩
      have hw := Mr.takeNum_ok hx
      intro H2 u i2 e2 hz2 hlt2 hdr2 hu
      subst hu
      walk_at "rk"
      intro p hp
      have e3 := Ex.new (o := .tup [.int (2 : Nat), .int (x.1 : Nat)]) hp
      exact k _ _ i2 ((e1.trans e2).trans e3.b) (hz2.ex e3) (by omega) hdr2 ⟨p, rfl, by rw [upd_same]; rfl, hw⟩
    · rw [if_neg c2] at k
      walk_at "rk"
      refine x_in (Or.inr (q_counted T H1)) rfl (flat_wds _) ?_
      rw [if_neg Bool.false_ne_true, inV_str, f3]
      walk_at "rk"
      refine x_ite (fun c3 => ?_) (fun c3 => ?_)
      · rw [if_pos c3] at k
        walk_at "rk"
        refine ⟨_, _, _, rfl, hm1, rfl, ?_⟩
        walk_at "rk"
        refine ⟨_, _, _, rfl, z, i1, 0, 9, rfl, rfl, rfl, hz1, k.map.mono e1 fun x hx k => ?_⟩
        have hw := Mr.takeNum_ok hx
        intro H2 u i2 e2 hz2 hlt2 hdr2 hu
        subst hu
        walk_at "rk"
        intro p hp
        have e3 := Ex.new (o := .tup [.int j, .int (x.1 : Nat)]) hp
        exact k _ _ i2 ((e1.trans e2).trans e3.b) (hz2.ex e3) (by omega) hdr2 ⟨p, rfl, by rw [upd_same, stepN_flat c3]; rfl, stepN_wf c3 hw.2⟩
      · rw [if_neg c3] at k
        obtain ⟨g1, g2⟩ := stepP_flat (j := j) (by omega)
        walk_at "rk"
        intro p hp
        have e3 := Ex.new (o := .tup [.int (j : Nat)]) hp
        exact k _ _ i1 (e1.trans e3.b) (hz1.ex e3) hlt rfl ⟨p, rfl, by rw [upd_same, g1]; rfl, g2⟩

/-! ### take_condition -/
def sp_Reader_take_condition (K : PySem.W.Frag) : Sp := Sp1 fun a H Q E => ∃ (z : RI) (i : Nat), a = .ref z.a ∧ Rdr K H z i ∧ Out K z.a H E (Vameta.takeCond (z.l.drop i)) (Ret K z H i CondAt Q)
theorem ok_Reader_take_condition (T : Txt K mg) (c_Reader_take_word : MetX P w K mg base 4 (He.ga K "Reader") "take_word" (sp_Reader_take_word K)) (c_Reader_take_number : MetX P w K mg base 4 (He.ga K "Reader") "take_number" (sp_Reader_take_number K)) :
    MetX P w K mg base 5 (He.ga K "Reader") "take_condition" (sp_Reader_take_condition K) := by
  refine T.d_Reader_take_condition.okX (k := 4) sc_Reader_take_condition Sp1.len (fun f cdv A outer s H vs Q E hr h => ⟨_, (pss_cons (ps_set (i := 1) sc_Reader_take_condition.nd rfl (Or.inl rfl) (pe_mX c_Reader_take_word T.cl_Reader hr (by decide) passD (pv 0) (pa_cons (C8.pe_gc (by rfl) T.k_CONDITIONS) pa_nil)))
      (pss_cons (ps_if (pt_cmpR op_eq (pe_ix ix_tup (C8.pe_gc (by rfl) T.k_CONDITIONS) (pv 1) (fun _ _ => rfl)) pe_str (by first | exact nomark _ | rfl)) (pss_one (ps_ret (pe_tup (pa_cons (pv 1) (pa_cons (pe_mX c_Reader_take_number T.cl_Reader hr (by decide) passD (pv 0) (pa_cons pe_int (pa_cons (C8.pe_gc (by rfl) T.k_MOST_COUNT) pa_nil))) pa_nil))))) pss_nil)
      (pss_one (ps_ret (pe_tup (pa_cons (pv 1) pa_nil)))))), ?_⟩)
  obtain ⟨_, rfl, z, i, rfl, hz, hq⟩ := h
  have hm := hz.me
  unfold rdo at hm
  rw [Mr.takeCond_tw] at hq
  try dsimp only [cxOf]
  walk_at "rk"
  refine ⟨_, _, _, rfl, hm, rfl, ?_⟩
  walk_at "rk"
  refine ⟨_, _, rfl, z, i, _, Mr.condsW, rfl, rfl, q_conds T H, T.y_CONDITIONS H, hz, hq.bind.mono (ExB.refl _ _) fun x hx k => ?_⟩
  have hj : x.1 < 6 := (Mr.tw_lt hx).1
  obtain ⟨j, r⟩ := x
  dsimp only at hj k
  intro H1 u i1 e1 hz1 hlt hdr hu
  dsimp only at hdr hu
  subst hdr hu
  have f1 := cond_facts j hj
  have hm1 := hz1.me
  unfold rdo at hm1
  walk_at "rk"
  refine x_ixT (q_conds T H1) (atI_nat (wds_at (by exact hj))) ?_
  walk_at "rk"
  rw [f1]
  unfold Mr.condOf at k
  refine x_ite (fun c => ?_) (fun c => ?_)
  · rw [if_pos c] at k
    subst c
    walk_at "rk"
    refine ⟨_, _, _, rfl, hm1, rfl, ?_⟩
    walk_at "rk"
    refine ⟨_, _, _, rfl, z, i1, 0, 9, rfl, rfl, rfl, hz1, k.map.mono e1 fun x hx k => ?_⟩
    have hw := Mr.takeNum_ok hx
    intro H2 u i2 e2 hz2 hlt2 hdr2 hu
    subst hu
    walk_at "rk"
    intro p hp
    have e3 := Ex.new (o := .tup [.int (5 : Nat), .int (x.1 : Nat)]) hp
    exact k _ _ i2 ((e1.trans e2).trans e3.b) (hz2.ex e3) (by omega) hdr2 ⟨p, rfl, by rw [upd_same]; rfl, hw.2⟩
  · rw [if_neg c] at k
    obtain ⟨g1, g2⟩ := condP_flat (j := j) (by omega)
    walk_at "rk"
    intro p hp
    have e3 := Ex.new (o := .tup [.int (j : Nat)]) hp
    exact k _ _ i1 (e1.trans e3.b) (hz1.ex e3) hlt rfl ⟨p, rfl, by rw [upd_same, g1]; rfl, g2⟩
end
end RR
/-! part P12 -/
/-! The reader: programs, relations, texts. -/
namespace RR
open PySem PySem.Spec PyProof.Rows L2
local macro_rules | `(tactic| walk_at "rd1") => `(tactic| (first
  | with_reducible refine x_seq ?_
  | with_reducible refine x_next ?_
  | with_reducible refine x_asg ?_
  | with_reducible refine x_name ?_
  | with_reducible refine x_ret ?_
  | with_reducible refine x_retN ?_
  | with_reducible refine x_drop ?_
  | with_reducible refine x_if ?_
  | ((with_reducible apply x_var); exact rfl)
  | ((with_reducible apply x_aug1); exact rfl)
  | with_reducible refine x_c ?_
  | with_reducible refine x_op ?_
  | with_reducible refine x_I0 ?_
  | with_reducible refine x_un ?_
  | with_reducible refine x_U ?_
  | with_reducible refine x_eqI ?_
  | with_reducible refine x_eqS ?_
  | with_reducible refine x_neI ?_
  | with_reducible refine x_test ?_
  | with_reducible refine x_tB ?_
  | with_reducible refine x_bl ?_
  | with_reducible refine x_and ?_
  | with_reducible refine x_or ?_
  | with_reducible refine x_not ?_
  | with_reducible refine x_andV ?_
  | with_reducible refine x_orV ?_
  | with_reducible refine x_notV ?_
  | with_reducible refine x_tIf ?_
  | with_reducible refine x_chain ?_
  | with_reducible refine x_cons ?_
  | with_reducible refine x_nil ?_
  | with_reducible refine x_tup ?_
  | with_reducible refine x_lst ?_
  | with_reducible refine x_tupF ?_
  | with_reducible refine x_cb ?_
  | with_reducible refine x_call ?_
  | with_reducible refine x_callS ?_
  | with_reducible refine x_meth ?_
  | with_reducible refine x_methS ?_
  | with_reducible refine x_make ?_
  | with_reducible refine x_ost ?_
  | with_reducible refine x_mkO ?_
  | with_reducible refine x_sFld ?_
  | with_reducible refine x_sFldAug ?_
  | with_reducible refine x_m1 ?_
  | with_reducible refine x_fld ?_
  | with_reducible refine x_bm ?_
  | with_reducible refine x_bmU ?_
  | with_reducible refine x_sl ?_
  | with_reducible refine x_part ?_
  | with_reducible refine x_noPart ?_
  | with_reducible refine x_revL ?_
  | with_reducible refine x_sz0 ?_
  | with_reducible refine x_sz1 ?_
  | with_reducible refine x_sz2 ?_
  | with_reducible refine x_sz3 ?_
  | with_reducible refine x_sz4 ?_
  | with_reducible refine x_sz5 ?_))
local macro_rules | `(tactic| walk_at "rd") => `(tactic| repeat walk_at "rd1")
local macro_rules | `(tactic| walk_at "rk") => `(tactic| repeat (first | walk_at "rd1" | with_reducible refine x_iteT (by decide) ?_ | with_reducible refine x_iteF (by decide) ?_))
theorem x_ifB {c : TT} {t u : TS} {nx bk ct : L2.St → Hp → Prop} {rt : VK} {σ : L2.St} {H : Hp} (B : Bool) (hc : ∀ q : Bool → Hp → Prop, q B H → c σ H q) (h1 : B = true → t ⟨nx, rt, bk, ct⟩ σ H) (h2 : B = false → u ⟨nx, rt, bk, ct⟩ σ H) : tIfS c t u ⟨nx, rt, bk, ct⟩ σ H :=
  x_if (hc _ (x_iteB h1 h2))
theorem exb_mut {a p : Addr} {H H' : Hp} (e : ExB a H H') (h : H p = none) (o : HO) : ExB a H (upd H' p o) := fun b u hb n => by
  rw [upd_ne (ne_of_none hb h)]
  exact e b u hb n
section
variable {P : Program} {w : World} {K : PySem.W.Frag} {mg : Str → Option Value} {base : Heap}
/-! ### take_steps -/
theorem steps_go {f : Nat} {done : VametBase.Program} {l : Vameta.Toks} : Vameta.takeSteps (f + 1) done l = if Vameta.signIs 41 l then .ok (done, l.drop 1) else if Vameta.stepWord l && decide (8 ≤ done.length) then .error ⟨4, Vameta.here l⟩ else (Vameta.takeStep l).bind fun s => Vameta.takeSteps f (done ++ [s.1]) s.2 := rfl
def sp_Reader_take_steps (K : PySem.W.Frag) : Sp := Sp1 fun a H Q E => ∃ (z : RI) (i : Nat), a = .ref z.a ∧ Rdr K H z i ∧ Out K z.a H E (Vameta.takeProgram (z.l.drop i)) (Ret K z H i ProgAt Q)
theorem ok_Reader_take_steps (T : Txt K mg) (c_Reader_is_sign : Met0 P w K mg base 2 (He.ga K "Reader") "is_sign" (sp_Reader_is_sign K)) (c_Reader_token : Met0 P w K mg base 1 (He.ga K "Reader") "token" (sp_Reader_token K)) (c_Reader_refuse : MetX P w K mg base 3 (He.ga K "Reader") "refuse" (sp_Reader_refuse K))
    (c_Reader_step : Met0 P w K mg base 1 (He.ga K "Reader") "step" (sp_Reader_step K)) (c_Reader_take_sign : MetX P w K mg base 4 (He.ga K "Reader") "take_sign" (sp_Reader_take_sign K)) (c_Reader_take_step : MetX P w K mg base 6 (He.ga K "Reader") "take_step" (sp_Reader_take_step K)) :
    MetX P w K mg base 7 (He.ga K "Reader") "take_steps" (sp_Reader_take_steps K) := by
  refine T.d_Reader_take_steps.okX (k := 6) sc_Reader_take_steps Sp1.len (fun f cdv A outer s H vs Q E hr h => ⟨_, (pss_cons (ps_expr (pe_mX c_Reader_take_sign T.cl_Reader hr (by decide) passD (pv 0) (pa_cons pe_str pa_nil)))
      (pss_cons (ps_set (i := 1) sc_Reader_take_steps.nd rfl (Or.inl rfl) (pe_lst pa_nil))
      (pss_cons (ps_while ownD (pt_not (pt_val (pe_m0 c_Reader_is_sign T.cl_Reader hr (by decide) (pv 0) (pa_cons pe_str pa_nil)))) (pss_cons (ps_if (PW.pt (pw_and (pt_cmpR op_eq (pe_callB call_len_seq (by rfl) T.bi_len boot_len (pa_cons (pv 1) pa_nil)) (C8.pe_gc (by rfl) T.k_MOST_STEPS) (by first | exact nomark _ | rfl)) (pw_and (pt_cmpR op_eq (pe_fld (pe_m0n c_Reader_token T.cl_Reader hr (by decide) (pv 0)) rfl) (C8.pe_gc (by rfl) T.k_WORD) (by first | exact nomark _ | rfl)) (pw_and1 (pt_cmpR op_in_seq (pe_fld (pe_m0n c_Reader_token T.cl_Reader hr (by decide) (pv 0)) rfl) (C8.pe_gc (by rfl) T.k_STEPS) (by first | exact nomark _ | rfl)))))) (pss_one (ps_expr (pe_mX c_Reader_refuse T.cl_Reader hr (by decide) passD (pv 0) (pa_cons pe_int pa_nil)))) pss_nil)
      (pss_one (ps_expr (pe_bm PySem.F.plainAttrs_list PySem.F.slot_list_append PySem.F.type_list_append mt_append (pv 1) (pa_cons (pe_mXn c_Reader_take_step T.cl_Reader hr (by decide) passD (pv 0)) pa_nil))))))
      (pss_cons (ps_expr (pe_m0n c_Reader_step T.cl_Reader hr (by decide) (pv 0)))
      (pss_one (ps_ret (pe_callTy call_tuple_of (by rfl) T.bi_tuple (by decide +kernel) (pa_cons (pv 1) pa_nil)))))))), ?_⟩)
  obtain ⟨_, rfl, z, i, rfl, hz, hq⟩ := h
  have hm := hz.me
  unfold rdo at hm
  unfold Vameta.takeProgram at hq
  try dsimp only [cxOf]
  walk_at "rk"
  refine ⟨_, _, _, rfl, hm, rfl, ?_⟩
  walk_at "rk"
  refine ⟨_, _, rfl, z, i, 40, rfl, rfl, hz, hq.bind.mono (ExB.refl _ _) fun rest hx k => ?_⟩
  intro H1 u i1 e1 hz1 hlt hdr hu
  dsimp only at hdr
  subst hdr
  walk_at "rk"
  intro r hr1
  have hr0 : H r = none := by
    cases h0 : H r with
    | none => rfl
    | some o =>
      by_cases c : r = z.a
      · rw [c, hz1.me] at hr1; cases hr1
      · rw [e1 r o h0 c] at hr1; cases hr1
  have e1' : ExB z.a H (upd H1 r (.lst [])) := e1.trans (Ex.new hr1).b
  walk_at "rk"
  refine x_while (fun m σ' H' => ∃ (i' f : Nat) (done : VametBase.Program) (ws : List V), σ' = [some (.ref z.a), some (.ref r)] ∧ ExB z.a H H' ∧ Rdr K H' z i' ∧ i < i' ∧ H' r = some (.lst ws) ∧ AllAt (StepAt H') ws done ∧ done.length ≤ 8 ∧ m = z.l.length - i' ∧ m < f ∧
    Out K z.a H E (Vameta.takeSteps f done (z.l.drop i')) (Ret K z H i ProgAt Q)) ⟨z.l.length - i1, i1, (z.l.drop i).length, [], [], rfl, e1', hz1.ex (Ex.new hr1), hlt, upd_same, AllAt.nil, Nat.zero_le _, rfl, ?_, k⟩ ?_
  · rw [List.length_drop]
    have := hz.lt
    omega
  rintro m σ' H' ⟨i', f, done, ws, rfl, e, hz', hi', hr', hws, h8, rfl, hf, ho⟩
  obtain ⟨f, rfl⟩ : ∃ g, f = g + 1 := ⟨f - 1, by omega⟩
  have hm' := hz'.me
  unfold rdo at hm'
  obtain ⟨t, _, ht, _, _⟩ := hz'.here
  have hd := drop_at ht
  rw [steps_go] at ho
  walk_at "rk"
  refine ⟨_, _, _, rfl, hm', rfl, ?_⟩
  walk_at "rk"
  refine ⟨_, _, rfl, z, i', 41, rfl, rfl, hz', ?_⟩
  cases c : Vameta.signIs 41 (z.l.drop i') with
  | true =>
    rw [c, if_pos rfl] at ho
    have hne : t.tok ≠ .ending := fun e => by
      rw [hd, Mr.signIs_cons, e] at c
      cases of_decide_eq_true c
    walk_at "rk"
    refine ⟨_, _, _, rfl, hm', rfl, ?_⟩
    walk_at "rk"
    refine ⟨_, rfl, z, i', t, rfl, hz', ht, Mr.good_at hz'.gd ht hne, fun H2 b2 e2 hz2 hb2 => ?_⟩
    walk_at "rk"
    have hr2 : H2 r = some (.lst ws) := e2 _ _ hr' (fun z => by rw [z, hm'] at hr'; cases hr')
    refine ⟨r, ws, rfl, Or.inl ⟨sqL hr2, fun p hp => ?_⟩⟩
    have e3 := Ex.new (o := .tup ws) hp
    have ho : Ret K z H i ProgAt Q (done, (z.l.drop i').drop 1) := ho
    refine ho _ _ (i' + 1) ((e.trans e2).trans e3.b) (hz2.ex e3) (by omega) (by rw [List.drop_drop]) ⟨p, ws, rfl, upd_same, hws.imp fun v s h => h.tk ((e2.tk hm').trans e3.tk), h8⟩
  | false =>
    rw [c, if_neg Bool.false_ne_true] at ho
    walk_at "rk"
    refine x_turn ?_
    refine x_seq (x_ifB (Vameta.stepWord (z.l.drop i') && decide (8 ≤ done.length)) ?_ (fun c2 => ?_) (fun c2 => ?_))
    · intro q hb
      walk_at "rk"
      refine x_len (Or.inl (sqL hr')) ?_
      walk_at "rk"
      rw [hws.1]
      refine x_ite (fun c8 => ?_) (fun c8 => ?_)
      · rw [decide_eq_true (show 8 ≤ done.length by omega), Bool.and_true] at hb
        walk_at "rk"
        refine ⟨_, _, _, rfl, hm', rfl, ?_⟩
        walk_at "rk"
        refine ⟨_, rfl, z, i', t, rfl, hz', ht, fun a1 h1 => ?_⟩
        obtain ⟨dx1, k1, s1, m1, ho1, hk1⟩ := h1
        walk_at "rk"
        refine ⟨_, _, _, _, _, rfl, ho1, T.cl_Token, T.na_Token_kind, rfl, ?_⟩
        walk_at "rk"
        by_cases cw : ∃ w, t.tok = .word w
        · obtain ⟨wd, ew⟩ := cw
          obtain ⟨pl, tk⟩ := t
          obtain rfl : tk = .word wd := ew
          obtain ⟨rfl, rfl, rfl⟩ := hk1
          rw [hd, Mr.stepWord_word] at hb
          refine x_iteT (by rfl) ?_
          walk_at "rk"
          refine ⟨_, _, _, rfl, hm', rfl, ?_⟩
          walk_at "rk"
          refine ⟨_, rfl, z, i', _, rfl, hz', ht, fun a2 h2 => ?_⟩
          obtain ⟨dx2, k2, s2, m2, ho2, rfl, rfl, rfl⟩ := h2
          walk_at "rk"
          refine ⟨_, _, _, _, _, rfl, ho2, T.cl_Token, T.na_Token_word, rfl, ?_⟩
          walk_at "rk"
          refine x_in (Or.inr (q_steps T H')) rfl (flat_wds _) ?_
          rw [if_neg Bool.false_ne_true, inV_str]
          walk_at "rk"
          exact hb
        · have hn : ∀ w, t.tok ≠ .word w := fun w e => cw ⟨w, e⟩
          rw [hd, Mr.stepWord_other hn] at hb
          have hk0 : k1 ≠ 0 := by
            intro e
            obtain ⟨pl, tk⟩ := t
            cases tk with
            | word w => exact hn w rfl
            | num n => exact absurd (hk1.1.symm.trans e) (by decide)
            | sign n => exact absurd (hk1.1.symm.trans e) (by decide)
            | ending => exact absurd (hk1.1.symm.trans e) (by decide)
          refine x_iteF (decide_eq_false hk0) ?_
          walk_at "rk"
          exact hb
      · rw [decide_eq_false (show ¬ 8 ≤ done.length by omega), Bool.and_false] at hb
        walk_at "rk"
        exact hb
    · rw [c2, if_pos rfl] at ho
      walk_at "rk"
      refine ⟨_, _, _, rfl, hm', rfl, ?_⟩
      walk_at "rk"
      refine ⟨_, _, rfl, z, i', t, 4, rfl, rfl, hz', ht, FaultB.e (a := z.a) (FaultB.exb e ?_)⟩
      rw [hd] at ho
      exact ho
    · rw [c2, if_neg Bool.false_ne_true] at ho
      walk_at "rk"
      refine ⟨x_tyL hr', ?_⟩
      walk_at "rk"
      refine ⟨_, _, _, rfl, hm', rfl, ?_⟩
      walk_at "rk"
      refine ⟨_, rfl, z, i', rfl, hz', ho.bind.mono e fun x hx k => ?_⟩
      obtain ⟨st, rest⟩ := x
      dsimp only at k
      intro H2 u i2 e2 hz2 hlt2 hdr2 hu
      dsimp only at hdr2 hu
      subst hdr2
      walk_at "rk"
      have hr2 : H2 r = some (.lst ws) := e2 _ _ hr' (fun z => by rw [z, hm'] at hr'; cases hr')
      refine x_append hr2 (sz_lt (by rw [hws.1]; omega)) ?_
      have hl8 : done.length < 8 := by
        cases sw : Vameta.stepWord (z.l.drop i') with
        | true =>
          rw [sw, Bool.true_and, decide_eq_false_iff_not] at c2
          omega
        | false =>
          exfalso
          rw [Mr.takeStep_tw] at hx
          obtain ⟨p, tk⟩ := t
          rw [hd] at hx sw
          cases tk with
          | word w =>
            rw [Mr.stepWord_word, decide_eq_false_iff_not] at sw
            rw [Mr.tw_word, if_neg sw] at hx
            cases hx
          | _ => cases hx
      refine ⟨z.l.length - i2, ?_, i2, f, done ++ [st], _, rfl, exb_mut (e.trans e2) hr0 _, Rdr.upd hz hr0 hz2 _, by omega, upd_same, ?_, ?_, rfl, ?_, k⟩
      · have := hz'.lt
        have := hz2.lt
        omega
      · exact (hws.imp fun v s h => h.tk ((e2.tk hm').trans (Tk.lst hr2 _))).snoc (hu.tk (Tk.lst hr2 _))
      · rw [List.length_append]
        show done.length + 1 ≤ 8
        omega
      · have := hz'.lt
        have := hz2.lt
        omega
end
end RR
/-! part P13 -/
/-! The reader: relations, texts. -/
namespace RR
open PySem PySem.Spec PyProof.Rows L2
local macro_rules | `(tactic| walk_at "rd1") => `(tactic| (first
  | with_reducible refine x_seq ?_
  | with_reducible refine x_next ?_
  | with_reducible refine x_asg ?_
  | with_reducible refine x_name ?_
  | with_reducible refine x_ret ?_
  | with_reducible refine x_retN ?_
  | with_reducible refine x_drop ?_
  | with_reducible refine x_if ?_
  | ((with_reducible apply x_var); exact rfl)
  | ((with_reducible apply x_aug1); exact rfl)
  | with_reducible refine x_c ?_
  | with_reducible refine x_op ?_
  | with_reducible refine x_I0 ?_
  | with_reducible refine x_un ?_
  | with_reducible refine x_U ?_
  | with_reducible refine x_eqI ?_
  | with_reducible refine x_eqS ?_
  | with_reducible refine x_neI ?_
  | with_reducible refine x_test ?_
  | with_reducible refine x_tB ?_
  | with_reducible refine x_bl ?_
  | with_reducible refine x_and ?_
  | with_reducible refine x_or ?_
  | with_reducible refine x_not ?_
  | with_reducible refine x_andV ?_
  | with_reducible refine x_orV ?_
  | with_reducible refine x_notV ?_
  | with_reducible refine x_tIf ?_
  | with_reducible refine x_chain ?_
  | with_reducible refine x_cons ?_
  | with_reducible refine x_nil ?_
  | with_reducible refine x_tup ?_
  | with_reducible refine x_lst ?_
  | with_reducible refine x_tupF ?_
  | with_reducible refine x_cb ?_
  | with_reducible refine x_call ?_
  | with_reducible refine x_callS ?_
  | with_reducible refine x_meth ?_
  | with_reducible refine x_methS ?_
  | with_reducible refine x_make ?_
  | with_reducible refine x_ost ?_
  | with_reducible refine x_mkO ?_
  | with_reducible refine x_sFld ?_
  | with_reducible refine x_sFldAug ?_
  | with_reducible refine x_m1 ?_
  | with_reducible refine x_fld ?_
  | with_reducible refine x_bm ?_
  | with_reducible refine x_bmU ?_
  | with_reducible refine x_sl ?_
  | with_reducible refine x_part ?_
  | with_reducible refine x_noPart ?_
  | with_reducible refine x_revL ?_
  | with_reducible refine x_sz0 ?_
  | with_reducible refine x_sz1 ?_
  | with_reducible refine x_sz2 ?_
  | with_reducible refine x_sz3 ?_
  | with_reducible refine x_sz4 ?_
  | with_reducible refine x_sz5 ?_))
local macro_rules | `(tactic| walk_at "rd") => `(tactic| repeat walk_at "rd1")
local macro_rules | `(tactic| walk_at "rk") => `(tactic| repeat (first | walk_at "rd1" | with_reducible refine x_iteT (by decide) ?_ | with_reducible refine x_iteF (by decide) ?_))
def readToks (l : Vameta.Toks) : Vameta.Got Vameta.Source := (Vameta.takeWord "program" l).bind fun q => (Vameta.takeProgram q).bind fun p => (Vameta.takeSign 59 p.2).bind fun z => (Vameta.takeRelations (l.length + 1) [] z).map fun r => ⟨p.1, r⟩
theorem read_toks (t : List Nat) : Vameta.read t = (Vameta.tokens t).bind readToks := rfl
theorem relNum {j : Nat} (h : j < 7) : VametBase.relNumber (Mr.relOf j) = (j : Int) := by
  have : j = 0 ∨ j = 1 ∨ j = 2 ∨ j = 3 ∨ j = 4 ∨ j = 5 ∨ j = 6 := by omega
  rcases this with rfl | rfl | rfl | rfl | rfl | rfl | rfl <;> rfl
theorem rels_end {n : Nat} {done : List VametBase.Relation} {t : Vameta.Token} {l : Vameta.Toks} (h : t.tok = .ending) : Vameta.takeRelations (n + 1) done (t :: l) = .ok done := by
  obtain ⟨p, k⟩ := t
  obtain rfl : k = .ending := h
  rfl
theorem rels_go {n : Nat} {done : List VametBase.Relation} {t : Vameta.Token} {l : Vameta.Toks} (h : t.tok ≠ .ending) : Vameta.takeRelations (n + 1) done (t :: l) =
    if Vameta.wordIs "relation" (t :: l) && decide (12 ≤ done.length) then .error ⟨4, Vameta.here (t :: l)⟩ else (Vameta.takeWord "relation" (t :: l)).bind fun q => (Vameta.takeRelation q).bind fun r => Vameta.takeRelations n (done ++ [r.1]) r.2 := by
  have e : Vameta.takeRelations (n + 1) done (t :: l) = if !Vameta.wordIs "relation" (t :: l) then Vameta.wrong (t :: l) else if 12 ≤ done.length then .error ⟨4, Vameta.here (t :: l)⟩ else (Vameta.takeRelation ((t :: l).drop 1)).bind fun r => Vameta.takeRelations n (done ++ [r.1]) r.2 := by
    obtain ⟨p, k⟩ := t
    cases k with
    | ending => exact absurd rfl h
    | _ => rfl
  rw [e]
  unfold Vameta.takeWord
  cases c : Vameta.wordIs "relation" (t :: l) with
  | false => rfl
  | true =>
    by_cases c2 : 12 ≤ done.length
    · simp only [c2, decide_true, Bool.and_true, Bool.not_true, Bool.false_eq_true, if_true, if_false]
    · simp only [c2, decide_false, Bool.and_false, Bool.not_true, Bool.false_eq_true, if_true, if_false]
      rfl
def TextAt (H : Hp) (v : V) (s : Vameta.Source) : Prop := ∃ p f q vs, v = .ref p ∧ H p = some (.tup [f, .ref q]) ∧ ProgAt H f s.program ∧ H q = some (.tup vs) ∧ AllAt (RelAt H) vs s.relations ∧ s.relations.length ≤ 12
theorem TextAt.tk {H H' : Hp} (e : Tk H H') {v : V} {s : Vameta.Source} (h : TextAt H v s) : TextAt H' v s := by
  obtain ⟨p, f, q, vs, a, b, c, d, g, i⟩ := h
  exact ⟨p, f, q, vs, a, e _ _ b, c.tk e, e _ _ d, g.imp fun _ _ h => h.tk e, i⟩
section
variable {P : Program} {w : World} {K : PySem.W.Frag} {mg : Str → Option Value} {base : Heap}
theorem Rdr.m {H : Hp} {z : RI} {i : Nat} (h : Rdr K H z i) : H z.a = some (.ins (He.ga K "Reader") z.dx [("tokens", .ref z.r), ("at", .int i)]) := h.me
/-- a tuple of one word, made here -/
theorem tup1 {H : Hp} {p : Addr} {o : Obj} {s : Str} {w : List Nat} (hs : s = SX.S w) : SqT K (upd H p (.frz o (.tup [.str s]))) p (wds [w]) := by
  subst hs
  exact Or.inl (Or.inr ⟨o, upd_same⟩)
theorem tup1Y {H : Hp} {p : Addr} {o : Obj} {xs : List V} (hc : o.cls = .type "tuple") (hd : o.dict = none) : TyU K (.ref p) (upd H p (.frz o (.tup xs))) := ⟨p, rfl, Or.inr ⟨o, _, upd_same, hc, hd⟩⟩
/-! ### take_relation -/
def sp_Reader_take_relation (K : PySem.W.Frag) : Sp := Sp1 fun a H Q E => ∃ (z : RI) (i : Nat), a = .ref z.a ∧ Rdr K H z i ∧ Out K z.a H E (Vameta.takeRelation (z.l.drop i)) (Ret K z H i RelAt Q)
theorem ok_Reader_take_relation (T : Txt K mg) (c_Reader_take_condition : MetX P w K mg base 5 (He.ga K "Reader") "take_condition" (sp_Reader_take_condition K)) (c_Reader_take_word : MetX P w K mg base 4 (He.ga K "Reader") "take_word" (sp_Reader_take_word K))
    (c_Reader_take_steps : MetX P w K mg base 7 (He.ga K "Reader") "take_steps" (sp_Reader_take_steps K)) (c_Reader_take_sign : MetX P w K mg base 4 (He.ga K "Reader") "take_sign" (sp_Reader_take_sign K)) :
    MetX P w K mg base 8 (He.ga K "Reader") "take_relation" (sp_Reader_take_relation K) := by
  refine T.d_Reader_take_relation.okX (k := 7) sc_Reader_take_relation Sp1.len (fun f cdv A outer s H vs Q E hr h => ⟨_, (pss_cons (ps_set (i := 1) sc_Reader_take_relation.nd rfl (Or.inl rfl) (pe_mXn c_Reader_take_condition T.cl_Reader hr (by decide) passD (pv 0)))
      (pss_cons (ps_expr (pe_mX c_Reader_take_word T.cl_Reader hr (by decide) passD (pv 0) (pa_cons (pe_tupF (pa_cons pe_str pa_nil)) pa_nil)))
      (pss_cons (ps_set (i := 2) sc_Reader_take_relation.nd rfl (Or.inl rfl) (pe_mXn c_Reader_take_steps T.cl_Reader hr (by decide) passD (pv 0)))
      (pss_cons (ps_expr (pe_mX c_Reader_take_word T.cl_Reader hr (by decide) passD (pv 0) (pa_cons (pe_tupF (pa_cons pe_str pa_nil)) pa_nil)))
      (pss_cons (ps_set (i := 3) sc_Reader_take_relation.nd rfl (Or.inl rfl) (pe_mX c_Reader_take_word T.cl_Reader hr (by decide) passD (pv 0) (pa_cons (C8.pe_gc (by rfl) T.k_STANDS) pa_nil)))
      (pss_cons (ps_set (i := 4) sc_Reader_take_relation.nd rfl (Or.inl rfl) (pe_tup (pa_cons (pv 1) (pa_cons (pv 2) (pa_cons (pv 3) (pa_cons (pe_mXn c_Reader_take_steps T.cl_Reader hr (by decide) passD (pv 0)) pa_nil))))))
      (pss_cons (ps_expr (pe_mX c_Reader_take_sign T.cl_Reader hr (by decide) passD (pv 0) (pa_cons pe_str pa_nil)))
      (pss_one (ps_ret (pv 4)))))))))), ?_⟩)
  obtain ⟨_, rfl, z, i, rfl, hz, hq⟩ := h
  unfold Vameta.takeRelation at hq
  try dsimp only [cxOf]
  walk_at "rk"
  refine ⟨_, _, _, rfl, hz.m, rfl, ?_⟩
  walk_at "rk"
  refine ⟨_, rfl, z, i, rfl, hz, hq.bind.mono (ExB.refl _ _) fun c hx k => ?_⟩
  intro H1 u1 i1 e1 hz1 hl1 hd1 hu1
  try dsimp only at hd1 hu1 k
  rw [← hd1, Mr.takeWord_tw] at k
  walk_at "rk"
  refine ⟨_, _, _, rfl, hz1.m, rfl, ?_⟩
  walk_at "rk"
  intro p1 o1 hp1 hc1 ho1
  have f1 := Ex.new (o := .frz o1 (.tup [V.str "input"])) hp1
  refine ⟨_, _, rfl, z, i1, p1, [Vameta.word "input"], rfl, rfl, tup1 rfl, tup1Y hc1 ho1, hz1.ex f1, k.bind.map.mono (e1.trans f1.b) fun x hx k => ?_⟩
  have e1 := e1.trans f1.b
  intro H2 u2 i2 e2 hz2 hl2 hd2 hu2
  have t2 : Tk H1 H2 := f1.tk.trans (e2.tk (hz1.ex f1).m)
  try dsimp only at hd2 k
  rw [← hd2] at k
  walk_at "rk"
  refine ⟨_, _, _, rfl, hz2.m, rfl, ?_⟩
  walk_at "rk"
  refine ⟨_, rfl, z, i2, rfl, hz2, k.bind.mono (e1.trans e2) fun ip hx k => ?_⟩
  have e2 := e1.trans e2
  intro H3 u3 i3 e3 hz3 hl3 hd3 hu3
  have t3 : Tk H2 H3 := e3.tk hz2.m
  try dsimp only at hd3 hu3 k
  rw [← hd3, Mr.takeWord_tw] at k
  walk_at "rk"
  refine ⟨_, _, _, rfl, hz3.m, rfl, ?_⟩
  walk_at "rk"
  intro p2 o2 hp2 hc2 ho2
  have f3 := Ex.new (o := .frz o2 (.tup [V.str "output"])) hp2
  refine ⟨_, _, rfl, z, i3, p2, [Vameta.word "output"], rfl, rfl, tup1 rfl, tup1Y hc2 ho2, hz3.ex f3, k.bind.map.mono ((e2.trans e3).trans f3.b) fun x hx k => ?_⟩
  have e3 := (e2.trans e3).trans f3.b
  intro H4 u4 i4 e4 hz4 hl4 hd4 hu4
  have t4 : Tk H3 H4 := f3.tk.trans (e4.tk (hz3.ex f3).m)
  try dsimp only at hd4 k
  rw [← hd4, Mr.takeRel_tw] at k
  walk_at "rk"
  refine ⟨_, _, _, rfl, hz4.m, rfl, ?_⟩
  walk_at "rk"
  refine ⟨_, _, rfl, z, i4, _, Mr.relsW, rfl, rfl, q_rels T H4, T.y_STANDS H4, hz4, k.bind.map.mono (e3.trans e4) fun x hx k => ?_⟩
  have hj : x.1 < 7 := (Mr.tw_lt hx).1
  obtain ⟨j, rj⟩ := x
  have e4 := e3.trans e4
  intro H5 u5 i5 e5 hz5 hl5 hd5 hu5
  have t5 : Tk H4 H5 := e5.tk hz4.m
  try dsimp only at hd5 hu5 k hj
  subst hu5
  rw [← hd5] at k
  walk_at "rk"
  refine ⟨_, _, _, rfl, hz5.m, rfl, ?_⟩
  walk_at "rk"
  refine ⟨_, rfl, z, i5, rfl, hz5, k.bind.mono (e4.trans e5) fun op hx k => ?_⟩
  have e5 := e4.trans e5
  intro H6 u6 i6 e6 hz6 hl6 hd6 hu6
  have t6 : Tk H5 H6 := e6.tk hz5.m
  try dsimp only at hd6 hu6 k
  rw [← hd6] at k
  walk_at "rk"
  intro p hp
  have f6 := Ex.new (o := .tup [u1, u3, V.int j, u6]) hp
  have hz6' := hz6.ex f6
  walk_at "rk"
  refine ⟨_, _, _, rfl, hz6'.m, rfl, ?_⟩
  walk_at "rk"
  refine ⟨_, _, rfl, z, i6, 59, rfl, rfl, hz6', k.map.mono ((e5.trans e6).trans f6.b) fun rest hx k => ?_⟩
  have e6 := (e5.trans e6).trans f6.b
  intro H7 u7 i7 e7 hz7 hl7 hd7 hu7
  have t7 := e7.tk hz6'.m
  walk_at "rk"
  have t67 := f6.tk.trans t7
  refine k H7 _ i7 (e6.trans e7) hz7 (by omega) hd7 ⟨p, u1, u3, u6, rfl, t7 _ _ ?_, hu1.tk ((((t2.trans t3).trans t4).trans t5).trans (t6.trans t67)), hu3.tk ((t4.trans t5).trans (t6.trans t67)), hu6.tk t67⟩
  rw [upd_same, relNum hj]

/-! ### take_text -/
def sp_Reader_take_text (K : PySem.W.Frag) : Sp := Sp1 fun a H Q E => ∃ (z : RI), a = .ref z.a ∧ Rdr K H z 0 ∧ Out K z.a H E (readToks z.l) fun s => ∀ H' v, ExB z.a H H' → TextAt H' v s → Q v H'
theorem ok_Reader_take_text (T : Txt K mg) (c_Reader_token : Met0 P w K mg base 1 (He.ga K "Reader") "token" (sp_Reader_token K)) (c_Reader_refuse : MetX P w K mg base 3 (He.ga K "Reader") "refuse" (sp_Reader_refuse K)) (c_Reader_take_word : MetX P w K mg base 4 (He.ga K "Reader") "take_word" (sp_Reader_take_word K))
    (c_Reader_take_steps : MetX P w K mg base 7 (He.ga K "Reader") "take_steps" (sp_Reader_take_steps K)) (c_Reader_take_sign : MetX P w K mg base 4 (He.ga K "Reader") "take_sign" (sp_Reader_take_sign K)) (c_Reader_take_relation : MetX P w K mg base 8 (He.ga K "Reader") "take_relation" (sp_Reader_take_relation K)) :
    MetX P w K mg base 9 (He.ga K "Reader") "take_text" (sp_Reader_take_text K) := by
  refine T.d_Reader_take_text.okX (k := 8) sc_Reader_take_text Sp1.len (fun f cdv A outer s H vs Q E hr h => ⟨_, (pss_cons (ps_expr (pe_mX c_Reader_take_word T.cl_Reader hr (by decide) passD (pv 0) (pa_cons (pe_tupF (pa_cons pe_str pa_nil)) pa_nil)))
      (pss_cons (ps_set (i := 1) sc_Reader_take_text.nd rfl (Or.inl rfl) (pe_mXn c_Reader_take_steps T.cl_Reader hr (by decide) passD (pv 0)))
      (pss_cons (ps_expr (pe_mX c_Reader_take_sign T.cl_Reader hr (by decide) passD (pv 0) (pa_cons pe_str pa_nil)))
      (pss_cons (ps_set (i := 2) sc_Reader_take_text.nd rfl (Or.inl rfl) (pe_lst pa_nil))
      (pss_cons (ps_while ownD (pt_cmpR op_ne (pe_fld (pe_m0n c_Reader_token T.cl_Reader hr (by decide) (pv 0)) rfl) (C8.pe_gc (by rfl) T.k_END) (by first | exact nomark _ | rfl)) (pss_cons (ps_if (PW.pt (pw_and (pt_cmpR op_eq (pe_callB call_len_seq (by rfl) T.bi_len boot_len (pa_cons (pv 2) pa_nil)) (C8.pe_gc (by rfl) T.k_MOST_RELATIONS) (by first | exact nomark _ | rfl)) (pw_and (pt_cmpR op_eq (pe_fld (pe_m0n c_Reader_token T.cl_Reader hr (by decide) (pv 0)) rfl) (C8.pe_gc (by rfl) T.k_WORD) (by first | exact nomark _ | rfl)) (pw_and1 (pt_cmpR op_eq (pe_fld (pe_m0n c_Reader_token T.cl_Reader hr (by decide) (pv 0)) rfl) pe_str (by first | exact nomark _ | rfl)))))) (pss_one (ps_expr (pe_mX c_Reader_refuse T.cl_Reader hr (by decide) passD (pv 0) (pa_cons pe_int pa_nil)))) pss_nil)
      (pss_cons (ps_expr (pe_mX c_Reader_take_word T.cl_Reader hr (by decide) passD (pv 0) (pa_cons (pe_tupF (pa_cons pe_str pa_nil)) pa_nil)))
      (pss_one (ps_expr (pe_bm PySem.F.plainAttrs_list PySem.F.slot_list_append PySem.F.type_list_append mt_append (pv 2) (pa_cons (pe_mXn c_Reader_take_relation T.cl_Reader hr (by decide) passD (pv 0)) pa_nil)))))))
      (pss_one (ps_ret (pe_tup (pa_cons (pv 1) (pa_cons (pe_callTy call_tuple_of (by rfl) T.bi_tuple (by decide +kernel) (pa_cons (pv 2) pa_nil)) pa_nil)))))))))), ?_⟩)
  obtain ⟨_, rfl, z, rfl, hz, hq⟩ := h
  unfold readToks at hq
  rw [Mr.takeWord_tw] at hq
  try dsimp only [cxOf]
  walk_at "rk"
  refine ⟨_, _, _, rfl, hz.m, rfl, ?_⟩
  walk_at "rk"
  intro p1 o1 hp1 hc1 ho1
  have f1 := Ex.new (o := .frz o1 (.tup [V.str "program"])) hp1
  refine ⟨_, _, rfl, z, 0, p1, [Vameta.word "program"], rfl, rfl, tup1 rfl, tup1Y hc1 ho1, hz.ex f1, hq.bind.map.mono f1.b fun x hx k => ?_⟩
  intro H2 u2 i2 e2 hz2 hl2 hd2 hu2
  try dsimp only at hd2 k
  rw [← hd2] at k
  have e2 := f1.b.trans e2
  walk_at "rk"
  refine ⟨_, _, _, rfl, hz2.m, rfl, ?_⟩
  walk_at "rk"
  refine ⟨_, rfl, z, i2, rfl, hz2, k.bind.mono e2 fun ip hx k => ?_⟩
  intro H3 u3 i3 e3 hz3 hl3 hd3 hu3
  have e3' := e2.trans e3
  try dsimp only at hd3 hu3 k
  rw [← hd3] at k
  walk_at "rk"
  refine ⟨_, _, _, rfl, hz3.m, rfl, ?_⟩
  walk_at "rk"
  refine ⟨_, _, rfl, z, i3, 59, rfl, rfl, hz3, k.bind.mono e3' fun rest hx k => ?_⟩
  intro H4 u4 i4 e4 hz4 hl4 hd4 hu4
  have t4 := e4.tk hz3.m
  have e4' := e3'.trans e4
  try dsimp only at hd4
  rw [← hd4] at k
  have k := k.map
  walk_at "rk"
  intro r hr4
  have hr0 : H r = none := by
    cases h0 : H r with
    | none => rfl
    | some o =>
      by_cases c : r = z.a
      · rw [c, hz4.me] at hr4; cases hr4
      · rw [e4' r o h0 c] at hr4; cases hr4
  have f4 := Ex.new (o := .lst []) hr4
  walk_at "rk"
  refine x_while (fun m σ' H' => ∃ (i' f : Nat) (done : List VametBase.Relation) (ws : List V), σ' = [some (.ref z.a), some u3, some (.ref r)] ∧ ExB z.a H H' ∧ Rdr K H' z i' ∧ H' r = some (.lst ws) ∧ AllAt (RelAt H') ws done ∧ ProgAt H' u3 ip.1 ∧ done.length ≤ 12 ∧ m = z.l.length - i' ∧ m < f ∧
    Out K z.a H E (Vameta.takeRelations f done (z.l.drop i')) fun r => ∀ H' v, ExB z.a H H' → TextAt H' v ⟨ip.1, r⟩ → Q v H') ⟨z.l.length - i4, i4, z.l.length + 1, [], [], rfl, e4'.trans f4.b, hz4.ex f4, upd_same, AllAt.nil, hu3.tk (t4.trans f4.tk), Nat.zero_le _, rfl, by omega, k⟩ ?_
  rintro m σ' H' ⟨i', f, done, ws, rfl, e, hz', hr', hws, hpg, h12, rfl, hf, ho⟩
  obtain ⟨f, rfl⟩ : ∃ g, f = g + 1 := ⟨f - 1, by omega⟩
  obtain ⟨t, _, ht, _, _⟩ := hz'.here
  have hd := drop_at ht
  walk_at "rk"
  refine ⟨_, _, _, rfl, hz'.m, rfl, ?_⟩
  walk_at "rk"
  refine ⟨_, rfl, z, i', t, rfl, hz', ht, fun a1 h1 => ?_⟩
  obtain ⟨dx1, k1, s1, m1, ho1, hk1⟩ := h1
  walk_at "rk"
  refine ⟨_, _, _, _, _, rfl, ho1, T.cl_Token, T.na_Token_kind, rfl, ?_⟩
  walk_at "rk"
  by_cases c : t.tok = .ending
  · rw [hd, rels_end c] at ho
    rw [c] at hk1
    have hk3 : k1 = 3 := hk1.1
    refine x_iteF (by rw [hk3]; rfl) ?_
    walk_at "rk"
    refine ⟨r, ws, rfl, Or.inl ⟨sqL hr', fun q hp => ?_⟩⟩
    have g1 := Ex.new (o := .tup ws) hp
    walk_at "rk"
    intro p hp2
    have g2 := Ex.new (o := .tup [u3, .ref q]) hp2
    have g := g1.trans g2
    exact ho _ _ (e.trans g.b) ⟨p, u3, q, ws, rfl, upd_same, hpg.tk g.tk, g2 _ _ upd_same, hws.imp fun v s h => h.tk g.tk, h12⟩
  · have hk3 : k1 ≠ 3 := by
      intro e
      obtain ⟨pl, tk⟩ := t
      cases tk with
      | ending => exact c rfl
      | word n => exact absurd (hk1.1.symm.trans e) (by decide)
      | sign n => exact absurd (hk1.1.symm.trans e) (by decide)
      | num n => exact absurd (hk1.1.symm.trans e) (by decide)
    rw [hd, rels_go c, ← hd] at ho
    refine x_iteT (by rw [decide_eq_false hk3]; rfl) ?_
    refine x_turn ?_
    refine x_seq (x_ifB (Vameta.wordIs "relation" (z.l.drop i') && decide (12 ≤ done.length)) ?_ (fun c2 => ?_) (fun c2 => ?_))
    · intro q hb
      walk_at "rk"
      refine x_len (Or.inl (sqL hr')) ?_
      walk_at "rk"
      rw [hws.1]
      refine x_ite (fun c8 => ?_) (fun c8 => ?_)
      · rw [decide_eq_true (show 12 ≤ done.length by omega), Bool.and_true] at hb
        walk_at "rk"
        refine ⟨_, _, _, rfl, hz'.m, rfl, ?_⟩
        walk_at "rk"
        refine ⟨_, rfl, z, i', t, rfl, hz', ht, fun a1 h1 => ?_⟩
        obtain ⟨dx1, k1, s1, m1, ho1, hk1⟩ := h1
        walk_at "rk"
        refine ⟨_, _, _, _, _, rfl, ho1, T.cl_Token, T.na_Token_kind, rfl, ?_⟩
        walk_at "rk"
        by_cases cw : ∃ w, t.tok = .word w
        · obtain ⟨wd, ew⟩ := cw
          obtain ⟨pl, tk⟩ := t
          obtain rfl : tk = .word wd := ew
          obtain ⟨rfl, rfl, rfl⟩ := hk1
          rw [hd, Mr.wordIs_word] at hb
          refine x_iteT (by rfl) ?_
          walk_at "rk"
          refine ⟨_, _, _, rfl, hz'.m, rfl, ?_⟩
          walk_at "rk"
          refine ⟨_, rfl, z, i', _, rfl, hz', ht, fun a2 h2 => ?_⟩
          obtain ⟨dx2, k2, s2, m2, ho2, rfl, rfl, rfl⟩ := h2
          walk_at "rk"
          refine ⟨_, _, _, _, _, rfl, ho2, T.cl_Token, T.na_Token_word, rfl, ?_⟩
          walk_at "rk"
          have : decide (SX.S wd = ("relation" : Str)) = decide (wd = Vameta.word "relation") := by
            have e0 : ("relation" : Str) = SX.S (Vameta.word "relation") := by rfl
            rw [e0, Bool.eq_iff_iff, decide_eq_true_iff, decide_eq_true_iff]
            exact ⟨SX.S_inj, fun e => by rw [e]⟩
          rw [this]
          exact hb
        · have hn : ∀ w, t.tok ≠ .word w := fun w e => cw ⟨w, e⟩
          rw [hd, Mr.wordIs_other _ hn] at hb
          have hk0 : k1 ≠ 0 := by
            intro e
            obtain ⟨pl, tk⟩ := t
            cases tk with
            | word w => exact hn w rfl
            | num n => exact absurd (hk1.1.symm.trans e) (by decide)
            | sign n => exact absurd (hk1.1.symm.trans e) (by decide)
            | ending => exact absurd (hk1.1.symm.trans e) (by decide)
          refine x_iteF (decide_eq_false hk0) ?_
          walk_at "rk"
          exact hb
      · rw [decide_eq_false (show ¬ 12 ≤ done.length by omega), Bool.and_false] at hb
        walk_at "rk"
        exact hb
    · rw [c2, if_pos rfl] at ho
      walk_at "rk"
      refine ⟨_, _, _, rfl, hz'.m, rfl, ?_⟩
      walk_at "rk"
      refine ⟨_, _, rfl, z, i', t, 4, rfl, rfl, hz', ht, FaultB.e (a := z.a) (FaultB.exb e ?_)⟩
      rw [hd] at ho
      exact ho
    · rw [c2, if_neg Bool.false_ne_true, Mr.takeWord_tw] at ho
      walk_at "rk"
      refine ⟨_, _, _, rfl, hz'.m, rfl, ?_⟩
      walk_at "rk"
      intro p1 o1 hp1 hc1 ho1
      have g1 := Ex.new (o := .frz o1 (.tup [V.str "relation"])) hp1
      refine ⟨_, _, rfl, z, i', p1, [Vameta.word "relation"], rfl, rfl, tup1 rfl, tup1Y hc1 ho1, hz'.ex g1, ho.bind.map.mono (e.trans g1.b) fun x hx k => ?_⟩
      have hc2 : done.length < 12 := by
        have hw : Vameta.wordIs "relation" (z.l.drop i') = true := by
          obtain ⟨pl, tk⟩ := t
          rw [hd] at hx ⊢
          cases tk with
          | word w =>
            rw [Mr.tw_word] at hx
            by_cases cc : w ∈ [Vameta.word "relation"]
            · rw [Mr.wordIs_word, List.mem_singleton.mp cc]
              exact decide_eq_true rfl
            · rw [if_neg cc] at hx; cases hx
          | _ => cases hx
        rw [hw, Bool.true_and, decide_eq_false_iff_not] at c2
        omega
      intro H5 u5 i5 e5 hz5 hl5 hd5 hu5
      try dsimp only at hd5 k
      rw [← hd5] at k
      have t5 := g1.tk.trans (e5.tk (hz'.ex g1).m)
      have e5' := (e.trans g1.b).trans e5
      have hrz : r ≠ z.a := fun z => by rw [z, hz'.m] at hr'; cases hr'
      have hr5 : H5 r = some (.lst ws) := e5 _ _ (g1 _ _ hr') hrz
      walk_at "rk"
      refine ⟨x_tyL hr5, ?_⟩
      walk_at "rk"
      refine ⟨_, _, _, rfl, hz5.m, rfl, ?_⟩
      walk_at "rk"
      refine ⟨_, rfl, z, i5, rfl, hz5, k.bind.mono e5' fun x hx k => ?_⟩
      obtain ⟨rl, rest⟩ := x
      intro H6 u6 i6 e6 hz6 hl6 hd6 hu6
      try dsimp only at hd6 hu6 k
      subst hd6
      have t6 := e6.tk hz5.m
      walk_at "rk"
      have hr6 : H6 r = some (.lst ws) := e6 _ _ hr5 hrz
      have t7 := Tk.lst hr6 (.lst (ws ++ [u6]))
      refine x_append hr6 (sz_lt (by rw [hws.1]; omega)) ?_
      have hlt' := hz'.lt
      have hlt6 := hz6.lt
      refine ⟨z.l.length - i6, by omega, i6, f, done ++ [rl], _, rfl, exb_mut (e5'.trans e6) hr0 _, Rdr.upd hz hr0 hz6 _, upd_same, ?_, hpg.tk ((t5.trans t6).trans t7), ?_, rfl, by omega, k⟩
      · exact (hws.imp fun v s h => h.tk ((t5.trans t6).trans t7)).snoc (hu6.tk t7)
      · rw [List.length_append]
        show done.length + 1 ≤ 12
        omega

/-! ### read_text -/
def GotText (K : PySem.W.Frag) (H : Hp) (g : Vameta.Got Vameta.Source) (Q : VK) (E : XK) : Prop := match g with
  | .error f => FaultE K H E f.kind f.place
  | .ok s => ∀ H' v, Ex H H' → TextAt H' v s → Q v H'
def sp_read_text (K : PySem.W.Frag) : Sp := Sp1 fun a H Q E => ∃ (p : Addr) (t : List Nat), a = .ref p ∧ H p = some (.lst (tx t)) ∧ t.length ≤ 1500 ∧ GotText K H (Vameta.read t) Q E
theorem ok_read_text (T : Txt K mg) (c_Reader___init__ : MakX P w K mg base 6 "Reader" (He.ga K "Reader") (sp_Reader___init__ K)) (c_Reader_take_text : MetX P w K mg base 9 (He.ga K "Reader") "take_text" (sp_Reader_take_text K)) :
    CalX P w K mg base 10 "read_text" (sp_read_text K) := by
  refine T.d_read_text.okX (k := 9) sc_read_text Sp1.len (fun f cdv A outer s H vs Q E hr h => ⟨_, (pss_one (ps_ret (pe_mXn c_Reader_take_text T.cl_Reader hr (by decide) passD (pe_kX c_Reader___init__ hr (by decide) passM (pa_cons (pv 0) pa_nil))))), ?_⟩)
  obtain ⟨_, rfl, p, t, rfl, hp, hz, hq⟩ := h
  rw [read_toks] at hq
  try dsimp only [cxOf]
  walk_at "rk"
  refine mk_Reader hp hz (fun f hf => ?_) (fun l hl H1 z e1 hn hzl hz1 => ?_)
  · rw [hf] at hq
    exact hq
  · rw [hl] at hq
    have hq : GotText K H (readToks l) Q E := hq
    refine ⟨_, _, _, rfl, hz1.m, rfl, ?_⟩
    walk_at "rk"
    refine ⟨_, rfl, z, rfl, hz1, ?_⟩
    rw [hzl]
    have back : ∀ H', ExB z.a H1 H' → Ex H H' := fun H' e b o hb => e b o (e1 b o hb) (ne_of_none hb hn)
    cases hrd : readToks l with
    | error f =>
      rw [hrd] at hq
      exact fun H' d e hd => hq H' d (back H' e) hd
    | ok s =>
      rw [hrd] at hq
      exact fun H' v e hv => hq H' v (back H' e) hv
end
end RR
/-! part P14 -/
/-! The one form. -/
namespace RR
open PySem PySem.Spec PyProof.Rows L2
local macro_rules | `(tactic| walk_at "rd1") => `(tactic| (first
  | with_reducible refine x_seq ?_
  | with_reducible refine x_next ?_
  | with_reducible refine x_asg ?_
  | with_reducible refine x_name ?_
  | with_reducible refine x_ret ?_
  | with_reducible refine x_retN ?_
  | with_reducible refine x_drop ?_
  | with_reducible refine x_if ?_
  | ((with_reducible apply x_var); exact rfl)
  | ((with_reducible apply x_aug1); exact rfl)
  | with_reducible refine x_c ?_
  | with_reducible refine x_op ?_
  | with_reducible refine x_I0 ?_
  | with_reducible refine x_un ?_
  | with_reducible refine x_U ?_
  | with_reducible refine x_eqI ?_
  | with_reducible refine x_eqS ?_
  | with_reducible refine x_neI ?_
  | with_reducible refine x_test ?_
  | with_reducible refine x_tB ?_
  | with_reducible refine x_bl ?_
  | with_reducible refine x_and ?_
  | with_reducible refine x_or ?_
  | with_reducible refine x_not ?_
  | with_reducible refine x_andV ?_
  | with_reducible refine x_orV ?_
  | with_reducible refine x_notV ?_
  | with_reducible refine x_tIf ?_
  | with_reducible refine x_chain ?_
  | with_reducible refine x_cons ?_
  | with_reducible refine x_nil ?_
  | with_reducible refine x_tup ?_
  | with_reducible refine x_lst ?_
  | with_reducible refine x_tupF ?_
  | with_reducible refine x_cb ?_
  | with_reducible refine x_call ?_
  | with_reducible refine x_callS ?_
  | with_reducible refine x_meth ?_
  | with_reducible refine x_methS ?_
  | with_reducible refine x_make ?_
  | with_reducible refine x_ost ?_
  | with_reducible refine x_mkO ?_
  | with_reducible refine x_sFld ?_
  | with_reducible refine x_sFldAug ?_
  | with_reducible refine x_m1 ?_
  | with_reducible refine x_fld ?_
  | with_reducible refine x_bm ?_
  | with_reducible refine x_bmU ?_
  | with_reducible refine x_sl ?_
  | with_reducible refine x_part ?_
  | with_reducible refine x_noPart ?_
  | with_reducible refine x_revL ?_
  | with_reducible refine x_sz0 ?_
  | with_reducible refine x_sz1 ?_
  | with_reducible refine x_sz2 ?_
  | with_reducible refine x_sz3 ?_
  | with_reducible refine x_sz4 ?_
  | with_reducible refine x_sz5 ?_))
local macro_rules | `(tactic| walk_at "rd") => `(tactic| repeat walk_at "rd1")
local macro_rules | `(tactic| walk_at "rk") => `(tactic| repeat (first | walk_at "rd1" | with_reducible refine x_iteT (by decide) ?_ | with_reducible refine x_iteF (by decide) ?_))
/-- [g x for x in t], t a tuple made on the way -/
theorem x_lcTN {K : PySem.W.Frag} {i : Nat} {tl te : TE} {σ : L2.St} {H : Hp} {Q : VK} {xs : List V} (g : V → V) (htl : ∀ q : VK, (∀ H1 a, Ex H H1 → SqT K H1 a xs → q (.ref a) H1) → tl σ H q) (hz : xs.length ≤ 1000000)
    (he : ∀ x ∈ xs, ∀ H1, Ex H H1 → ∀ q : VK, q (g x) H1 → te ((wipe σ [i]).set i (some x)) H1 q) (k : RetL H (xs.map g) Q) :
    tLc (iTup K tl) (gName i) tYes te [i] σ H Q := by
  refine x_lc (x_iTup (htl _ fun H1 a e1 hl => ?_))
  exact x_lcT (tl := fun _ H q => q (.ref a) H) g (fun q h => h) hl hz (fun x hx H2 e2 => he x hx H2 (e1.trans e2)) (fun H' p e hn hd => k H' p (e1.trans e) (e1.back hn) hd)
/-- [g sign for sign in a text] -/
theorem x_lcS {i : Nat} {tl te : TE} {σ : L2.St} {H : Hp} {Q : VK} {l : List Nat} (g : Nat → V) (htl : ∀ q : VK, q (.str (SX.S l)) H → tl σ H q) (hz : l.length ≤ 1000000)
    (he : ∀ b ∈ l, ∀ H1, Ex H H1 → ∀ q : VK, (∀ H2, Ex H1 H2 → q (g b) H2) → te ((wipe σ [i]).set i (some (.str (SX.S [b])))) H1 q) (k : RetL H (l.map g) Q) :
    tLc (iStr tl) (gName i) tYes te [i] σ H Q := by
  refine x_lc (htl _ ⟨_, rfl, fun D hD => ?_⟩)
  have hsz : (SX.S l).cps.size = l.length := by simp
  refine lc_it (walk_str (z := SX.S l)) (fun j H' => Ex H H' ∧ H' D = some (.lst ((l.take j).map g))) ⟨Ex.new hD, upd_same⟩ (fun _ _ _ _ => trivial) ?_ ?_
  · rintro n v H1 H' hn ⟨e, hd⟩ ⟨rfl, c, hc, rfl⟩
    have hc : l[n]? = some c := by simpa using hc
    refine x_name ⟨wipe_one σ i _, x_yes (x_iteT rfl ?_)⟩
    refine he c (List.mem_of_getElem? hc) _ e _ fun H2 e2 => ?_
    have hd2 := e2 _ _ hd
    refine ⟨_, hd2, sz_lt (by rw [List.length_map, List.length_take]; omega), (e.trans e2).mut hD, ?_⟩
    rw [take_more hc, List.map_append]
    exact upd_same
  · rintro H' ⟨e, hd⟩
    rw [hsz, List.take_length] at hd
    exact k H' D e hD hd
theorem flat_ok {s : VametBase.Step} (h : WfStep s) : Ms.FlatOk 18 (VametBase.flatStep s) := by
  cases s with
  | add c => exact ⟨0, [c], rfl, by decide, by show 1 ≤ 1; decide, fun x hx => by rw [List.mem_singleton.mp hx]; exact h⟩
  | times c => exact ⟨1, [c], rfl, by decide, by show 1 ≤ 1; decide, fun x hx => by rw [List.mem_singleton.mp hx]; exact h⟩
  | above c => exact ⟨9, [c], rfl, by decide, by show 1 ≤ 1; decide, fun x hx => by rw [List.mem_singleton.mp hx]; exact h⟩
  | rest m => exact ⟨2, [(m : Int)], rfl, by decide, by show 1 ≤ 1; decide, fun x hx => by rw [List.mem_singleton.mp hx]; have := h.2; omega⟩
  | rotate m => exact ⟨6, [(m : Int)], rfl, by decide, by show 1 ≤ 1; decide, fun x hx => by rw [List.mem_singleton.mp hx]; have : m ≤ 9 := h; omega⟩
  | take m => exact ⟨7, [(m : Int)], rfl, by decide, by show 1 ≤ 1; decide, fun x hx => by rw [List.mem_singleton.mp hx]; have : m ≤ 9 := h; omega⟩
  | drop m => exact ⟨8, [(m : Int)], rfl, by decide, by show 1 ≤ 1; decide, fun x hx => by rw [List.mem_singleton.mp hx]; have : m ≤ 9 := h; omega⟩
  | abs => exact ⟨3, [], rfl, by decide, Nat.zero_le _, fun _ h => nomatch h⟩
  | sort => exact ⟨4, [], rfl, by decide, Nat.zero_le _, fun _ h => nomatch h⟩
  | reverse => exact ⟨5, [], rfl, by decide, Nat.zero_le _, fun _ h => nomatch h⟩
  | once => exact ⟨10, [], rfl, by decide, Nat.zero_le _, fun _ h => nomatch h⟩
  | sum => exact ⟨11, [], rfl, by decide, Nat.zero_le _, fun _ h => nomatch h⟩
  | greatest => exact ⟨12, [], rfl, by decide, Nat.zero_le _, fun _ h => nomatch h⟩
  | least => exact ⟨13, [], rfl, by decide, Nat.zero_le _, fun _ h => nomatch h⟩
  | count => exact ⟨14, [], rfl, by decide, Nat.zero_le _, fun _ h => nomatch h⟩
  | steps => exact ⟨15, [], rfl, by decide, Nat.zero_le _, fun _ h => nomatch h⟩
  | sums => exact ⟨16, [], rfl, by decide, Nat.zero_le _, fun _ h => nomatch h⟩
  | twice => exact ⟨17, [], rfl, by decide, Nat.zero_le _, fun _ h => nomatch h⟩
theorem flatC_ok {s : VametBase.Cond} (h : WfCond s) : Ms.FlatOk 6 (VametBase.flatCond s) := by
  cases s with
  | atLeast m => exact ⟨5, [(m : Int)], rfl, by decide, by show 1 ≤ 1; decide, fun x hx => by rw [List.mem_singleton.mp hx]; have : m ≤ 9 := h; omega⟩
  | any => exact ⟨0, [], rfl, by decide, Nat.zero_le _, fun _ h => nomatch h⟩
  | some => exact ⟨1, [], rfl, by decide, Nat.zero_le _, fun _ h => nomatch h⟩
  | rising => exact ⟨2, [], rfl, by decide, Nat.zero_le _, fun _ h => nomatch h⟩
  | plus => exact ⟨3, [], rfl, by decide, Nat.zero_le _, fun _ h => nomatch h⟩
  | unlike => exact ⟨4, [], rfl, by decide, Nat.zero_le _, fun _ h => nomatch h⟩
theorem AllAt.mem {α : Type} {R : V → α → Prop} {vs : List V} {l : List α} (h : AllAt R vs l) {s : α} (hs : s ∈ l) : ∃ v, R v s := by
  obtain ⟨i, hi⟩ := List.mem_iff_getElem?.mp hs
  obtain ⟨v, _, hv⟩ := h.at hi
  exact ⟨v, hv⟩
theorem ProgAt.flat {H : Hp} {v : V} {f : VametBase.Program} (h : ProgAt H v f) : (∀ s ∈ f, Ms.FlatOk 18 (VametBase.flatStep s)) ∧ f.length ≤ 8 := by
  obtain ⟨p, vs, _, _, ha, hl⟩ := h
  refine ⟨fun s hs => ?_, hl⟩
  obtain ⟨v, _, _, _, hw⟩ := ha.mem hs
  exact flat_ok hw
theorem RelAt.words {H : Hp} {v : V} {r : VametBase.Relation} (h : RelAt H v r) : (∀ w ∈ Ms.relWords r, Ms.OkW w) ∧ (Ms.relWords r).length ≤ 50 := by
  obtain ⟨p, cv, iv, ov, _, _, ⟨_, _, _, hc⟩, hi, ho⟩ := h
  exact Ms.relw_ok (flatC_ok hc) hi.flat ho.flat
theorem int_str : ∀ n : Int, -99 ≤ n → n ≤ 99 → Str.ofString (toString n) = SX.S (Vameta.intText n) := by
  have h : ∀ k : Fin 199, Str.ofString (toString ((k.val : Int) - 99)) = SX.S (Vameta.intText ((k.val : Int) - 99)) := by decide +kernel
  intro n h1 h2
  have := h ⟨(n + 99).toNat, by omega⟩
  have e : (((n + 99).toNat : Nat) : Int) - 99 = n := by omega
  rw [show (⟨(n + 99).toNat, by omega⟩ : Fin 199).val = (n + 99).toNat from rfl, e] at this
  exact this
theorem joinL_jn : ∀ (ws : List (List Nat)) (w : List Nat), TL.joinL [32] (w :: ws) = w ++ Ms.jn ws
  | [], w => (List.append_nil w).symm
  | v :: ws, w => by
    show w ++ ([32] ++ TL.joinL [32] (v :: ws)) = w ++ Ms.jn (v :: ws)
    rw [joinL_jn ws v, Ms.jn_cons]
    rfl
theorem row_str (w : List Nat) (ws : List (List Nat)) : Txt.join (Str.ofString " ") ((w :: ws).map SX.S) = SX.S (w ++ Ms.jn ws) := by
  have e0 : Str.ofString " " = SX.S [32] := by rfl
  rw [e0, SX.join_S, joinL_jn]
theorem lens_ok : ∀ {ws : List (List Nat)}, (∀ w ∈ ws, Ms.OkW w) → ((ws.map SX.S).map (·.length)).sum ≤ 10 * ws.length
  | [], _ => Nat.zero_le _
  | w :: ws, h => by
    have h1 := (h w List.mem_cons_self).2
    have h2 := lens_ok (ws := ws) fun x hx => h x (List.mem_cons_of_mem _ hx)
    rw [List.map_cons, List.map_cons, List.sum_cons, List.length_cons, SX.S_len]
    omega
theorem join_len {w : List Nat} {ws : List (List Nat)} (hok : ∀ x ∈ w :: ws, Ms.OkW x) (hl : (w :: ws).length ≤ 51) : (((w :: ws).map SX.S).map (·.length)).sum + ((w :: ws).map SX.S).length * (Str.ofString " ").length ≤ 16777216 := by
  have h1 := lens_ok hok
  have h2 : (Str.ofString " ").length = 1 := by decide +kernel
  rw [List.length_map, h2]
  omega
theorem cat_len {w : List Nat} {ws : List (List Nat)} (hok : ∀ x ∈ w :: ws, Ms.OkW x) (hl : (w :: ws).length ≤ 51) : (SX.S (w ++ Ms.jn ws)).length + (Str.ofString ";").length ≤ sizeLine := by
  have h2 : (Str.ofString ";").length = 1 := by decide +kernel
  have h3 := (Ms.jn_ok (ws := ws) fun x hx => hok x (List.mem_cons_of_mem _ hx)).2
  have h4 := (hok w List.mem_cons_self).2
  rw [List.length_cons] at hl
  refine sz_of ?_
  rw [SX.S_len, List.length_append, h2]
  omega
theorem row_cat (w : List Nat) (ws : List (List Nat)) : SX.S (w ++ Ms.jn ws) ++ Str.ofString ";" = SX.S (Ms.row (w :: ws)) := by
  have e1 : Str.ofString ";" = SX.S (Vameta.word ";") := by rfl
  rw [e1, SX.S_cat]
  rfl
theorem x_catW {H : Hp} {Q : VK} {p q : Addr} {a b : List (List Nat)} (h1 : H p = some (.lst (wds a))) (h2 : H q = some (.lst (wds b))) (hl : a.length + b.length ≤ 1000) (k : ∀ l, H l = none → Q (.ref l) (upd H l (.lst (wds (a ++ b))))) : rCat (.ref p) (.ref q) H Q := by
  refine x_cat h1 h2 (sz_of (by rw [List.length_map, List.length_map, List.length_map, List.length_map]; omega)) fun l hl => ?_
  have := k l hl
  unfold wds at this ⊢
  rw [List.map_append, List.map_append] at this
  exact this
section
variable {P : Program} {w : World} {K : PySem.W.Frag} {mg : Str → Option Value} {base : Heap}
/-! ### worded -/
def sp_worded (K : PySem.W.Frag) : Sp := Sp2 fun a b H Q _ => ∃ (q p : Addr) (wl : List (List Nat)) (fl : List Int), a = .ref q ∧ b = .ref p ∧ SqT K H q (wds wl) ∧ H p = some (.tup (fl.map V.int)) ∧ Ms.FlatOk wl.length fl ∧ RetL H (wds (Ms.wordsOf wl fl)) Q
theorem ok_worded (T : Txt K mg) : Cal0 P w K mg base 1 "worded" (sp_worded K) := by
  refine T.d_worded.ok0 (k := 0) sc_worded Sp2.len (fun f cdv A outer s H vs Q E hr h => ⟨_, (pss_one (ps_ret (pe_op op_cat (pe_lst (pa_cons (pe_ix ix_tup (pv 0) (pe_ix ix_tup (pv 1) pe_int (fun _ _ => rfl)) (fun _ _ => rfl)) pa_nil)) (pe_lc (own := [("number", 2)]) (g := (gName 2)) (tt := tYes) (te := (tCB (fun xs H Q => ∃ i, xs = [.int i] ∧ i.natAbs.log2 < 1920 ∧ Q (.str (toString i)) H) (tCons (tVar 2) tNil))) rfl sc_worded.nd (pi_tup (pe_slice sl_tup (pv 1) (po_some pe_int) po_none)) (blkOk_by (N := N_worded) (sc := defScope s_worded) (by decide +kernel)) (fun _ _ _ _ _ => (pg_name (i := 2) sc_worded.nd rfl (Or.inl rfl))) (fun _ _ _ _ _ => pts_nil) (fun _ _ _ _ _ => (pe_callTy call_str_int (by rfl) T.bi_str (by decide +kernel) (pa_cons (pv 2) pa_nil))))))), ?_⟩)
  obtain ⟨_, _, rfl, q, p, wl, fl, rfl, rfl, hwl, hp, ⟨j, rs, rfl, hj, hrs, hx⟩, hq⟩ := h
  try dsimp only [cxOf]
  walk_at "rk"
  refine x_ixT (sqT hp) (v := V.int j) (atI_of (Int.le_refl 0) rfl) ?_
  walk_at "rk"
  refine x_ixT hwl (atI_nat (wds_at hj)) ?_
  walk_at "rk"
  intro r hr1
  have e1 := Ex.new (o := .lst [V.str (SX.S (wl.getD j []))]) hr1
  walk_at "rk"
  refine x_lcTN (xs := rs.map V.int) (fun v => match v with | .int n => .str (SX.S (Vameta.intText n)) | v => v) (fun q h => ?_) (by rw [List.length_map]; omega) (fun x hx1 H1 e q h => ?_) (fun H1 p2 e2 hn2 hd2 => ?_)
  · walk_at "rk"
    refine x_int ?_
    walk_at "rk"
    refine ⟨p, _, rfl, sqT (e1 _ _ hp), ?_, fun p3 hp3 => ?_⟩
    · rintro ⟨h1, _⟩
      rw [show (some (1 : Int)) = some ((1 : Nat) : Int) from rfl, HT.sIx_nat, List.length_map, List.length_cons] at h1
      omega
    · refine h _ _ (Ex.new hp3) (sqT ?_)
      rw [upd_same, show (some (1 : Int)) = some ((1 : Nat) : Int) from rfl, cutV_from]
      rfl
  · obtain ⟨n, hn, rfl⟩ := List.mem_map.mp hx1
    walk_at "rk"
    refine ⟨n, rfl, ?_, ?_⟩
    · have := Nat.log2_le_self n.natAbs
      have := hx n hn
      omega
    · rw [int_str n (hx n hn).1 (hx n hn).2]
      exact h
  · have hne : r ≠ p2 := ne_of_none upd_same hn2
    refine x_cat (e2 _ _ upd_same) hd2 (sz_of (by rw [List.length_map, List.length_map, List.length_singleton]; omega)) fun p4 hp4 => ?_
    refine hq _ p4 ((e1.trans e2).add hp4) ((e1.trans e2).back hp4) ?_
    rw [upd_same, List.map_map]
    show some (HO.lst (V.str (SX.S (wl.getD j [])) :: _)) = some (HO.lst (V.str (SX.S (wl.getD (j : Int).toNat [])) :: ((rs.map Vameta.intText).map SX.S).map V.str))
    rw [Int.toNat_natCast, List.map_map, List.map_map]
    rfl

/-! ### steps_words -/
def sp_steps_words (K : PySem.W.Frag) : Sp := Sp1 fun a H Q _ => ∃ f : VametBase.Program, ProgAt H a f ∧ RetL H (wds (Ms.progWords f)) Q
theorem ok_steps_words (T : Txt K mg) (c_worded : Cal0 P w K mg base 1 "worded" (sp_worded K)) : Cal0 P w K mg base 2 "steps_words" (sp_steps_words K) := by
  refine T.d_steps_words.ok0 (k := 1) sc_steps_words Sp1.len (fun f cdv A outer s H vs Q E hr h => ⟨_, (pss_cons (ps_set (i := 1) sc_steps_words.nd rfl (Or.inl rfl) (pe_lst (pa_cons pe_str pa_nil)))
      (pss_cons (ps_for PassesOwn.never rfl (pi_tup (pv 0)) (pg_name (i := 2) sc_steps_words.nd rfl (Or.inl rfl)) (pss_one (ps_expr (pe_bm PySem.F.plainAttrs_list PySem.F.slot_list_extend PySem.F.type_list_extend mt_extend (pv 1) (pa_cons (pe_c0 c_worded hr (by decide) (pa_cons (C8.pe_gc (by rfl) T.k_STEPS) (pa_cons (pv 2) pa_nil))) pa_nil)))))
      (pss_one (ps_ret (pe_op op_cat (pv 1) (pe_lst (pa_cons pe_str pa_nil))))))), ?_⟩)
  obtain ⟨_, rfl, f, hf, hq⟩ := h
  have hfl := hf.flat
  obtain ⟨pf, vs, rfl, hpf, hfs, hz⟩ := hf
  try dsimp only [cxOf]
  walk_at "rk"
  intro r hr1
  have e1 := Ex.new (o := .lst (wds [Vameta.word "("])) hr1
  walk_at "rk"
  have hlen : ∀ i, (Vameta.word "(" :: (f.take i).flatMap fun s => Ms.wordsOf Mr.stepsW (VametBase.flatStep s)).length ≤ 18 := fun i => by
    have := (Ms.prog_ok (p := f.take i) (fun s hs => hfl.1 s (List.mem_of_mem_take hs)) (by rw [List.length_take]; omega)).2
    unfold Ms.progWords at this
    rw [List.length_append, List.length_append] at this
    rw [List.length_cons]
    have h1 : [Vameta.word "("].length = 1 := rfl
    omega
  refine x_forT (a := pf) (xs := vs) (fun i σ' H' => ∃ v : Option V, σ' = [some (.ref pf), some (.ref r), v] ∧ Ex H H' ∧ H' r = some (.lst (wds (Vameta.word "(" :: (f.take i).flatMap fun s => Ms.wordsOf Mr.stepsW (VametBase.flatStep s))))) (fun q h => by walk_at "rd"; exact h) (sqT (e1 _ _ hpf)) ⟨none, rfl, e1, upd_same⟩ (fun i σ' H' _ ⟨_, _, e', _⟩ => sqT (e' _ _ hpf)) ?_ ?_
  · rintro i x σ' H' hx ⟨v, rfl, e', hd⟩
    obtain ⟨st, hst, p, rfl, hp, hw⟩ := hfs.get hx
    walk_at "rk"
    refine ⟨x_tyL hd, ?_⟩
    walk_at "rk"
    refine ⟨_, _, rfl, _, p, Mr.stepsW, VametBase.flatStep st, rfl, rfl, q_steps T H', e' _ _ hp, flat_ok hw, fun H2 b e2 hn2 hd2 => ?_⟩
    walk_at "rk"
    have h1 := hlen i
    have h2 := (Ms.words_ok (wl := Mr.stepsW) Ms.steps_ok (flat_ok hw)).2
    refine x_extend (e2 _ _ hd) hd2 (sz_of (by rw [List.length_map, List.length_map, List.length_map, List.length_map]; omega)) ?_
    refine ⟨_, rfl, (e'.trans e2).mut hr1, ?_⟩
    rw [upd_same, take_more hst, List.flatMap_append, List.flatMap_cons, List.flatMap_nil, List.append_nil]
    unfold wds
    rw [← List.map_append, ← List.map_append]
    rfl
  · rintro σ' H' ⟨v, rfl, e', hd⟩
    have h1 := hlen vs.length
    rw [hfs.1, List.take_length] at hd h1
    walk_at "rk"
    intro r2 hr2
    have hne : r ≠ r2 := ne_of_none hd hr2
    refine x_cat ((upd_ne hne).trans hd) upd_same (sz_of (by rw [List.length_map, List.length_map, List.length_singleton]; omega)) fun r3 hr3 => ?_
    refine hq _ r3 ((e'.add hr2).add hr3) ((e'.add hr2).back hr3) ?_
    rw [upd_same]
    show some (HO.lst (wds _ ++ wds [Vameta.word ")"])) = _
    unfold wds Ms.progWords
    rw [← List.map_append, ← List.map_append]
    rfl

/-! ### text_rows -/
def sp_text_rows (K : PySem.W.Frag) : Sp := Sp1 fun a H Q _ => ∃ s : Vameta.Source, TextAt H a s ∧ RetL H (wds (Ms.rowsOf s)) Q
theorem ok_text_rows (T : Txt K mg) (c_worded : Cal0 P w K mg base 1 "worded" (sp_worded K)) (c_steps_words : Cal0 P w K mg base 2 "steps_words" (sp_steps_words K)) : Cal0 P w K mg base 3 "text_rows" (sp_text_rows K) := by
  refine T.d_text_rows.ok0 (k := 2) sc_text_rows Sp1.len (fun f cdv A outer s H vs Q E hr h => ⟨_, (pss_cons (ps_asg (pv 0) (pg_tup rfl (pgs_cons (pg_name (i := 1) sc_text_rows.nd rfl (Or.inl rfl)) (pgs_cons (pg_name (i := 2) sc_text_rows.nd rfl (Or.inl rfl)) pgs_nil))))
      (pss_cons (ps_set (i := 3) sc_text_rows.nd rfl (Or.inl rfl) (pe_lst (pa_cons (pe_op op_add_str (pe_join pe_str (pe_op op_cat (pe_lst (pa_cons pe_str pa_nil)) (pe_c0 c_steps_words hr (by decide) (pa_cons (pv 1) pa_nil)))) pe_str) pa_nil)))
      (pss_cons (ps_for PassesOwn.never rfl (pi_tup (pv 2)) (pg_tup rfl (pgs_cons (pg_name (i := 4) sc_text_rows.nd rfl (Or.inl rfl)) (pgs_cons (pg_name (i := 5) sc_text_rows.nd rfl (Or.inl rfl)) (pgs_cons (pg_name (i := 6) sc_text_rows.nd rfl (Or.inl rfl)) (pgs_cons (pg_name (i := 7) sc_text_rows.nd rfl (Or.inl rfl)) pgs_nil))))) (pss_cons (ps_set (i := 8) sc_text_rows.nd rfl (Or.inl rfl) (pe_op op_cat (pe_op op_cat (pe_op op_cat (pe_lst (pa_cons pe_str pa_nil)) (pe_c0 c_worded hr (by decide) (pa_cons (C8.pe_gc (by rfl) T.k_CONDITIONS) (pa_cons (pv 4) pa_nil)))) (pe_lst (pa_cons pe_str pa_nil))) (pe_c0 c_steps_words hr (by decide) (pa_cons (pv 5) pa_nil))))
      (pss_cons (ps_set (i := 8) sc_text_rows.nd rfl (Or.inl rfl) (pe_op op_cat (pe_op op_cat (pv 8) (pe_lst (pa_cons pe_str (pa_cons (pe_ix ix_tup (C8.pe_gc (by rfl) T.k_STANDS) (pv 6) (fun _ _ => rfl)) pa_nil)))) (pe_c0 c_steps_words hr (by decide) (pa_cons (pv 7) pa_nil))))
      (pss_one (ps_expr (pe_bm PySem.F.plainAttrs_list PySem.F.slot_list_append PySem.F.type_list_append mt_append (pv 3) (pa_cons (pe_op op_add_str (pe_join pe_str (pv 8)) pe_str) pa_nil)))))))
      (pss_one (ps_ret (pv 3)))))), ?_⟩)
  obtain ⟨_, rfl, so, ⟨pt, fv, qr, rvs, rfl, hpt, hf, hqr, hrs, h12⟩, hq⟩ := h
  try dsimp only [cxOf]
  walk_at "rk"
  refine ⟨pt, _, rfl, sqT hpt, rfl, _, _, rfl, x_name ⟨_, _, rfl, x_name ⟨rfl, ?_⟩⟩⟩
  walk_at "rk"
  refine ⟨⟨_, rfl⟩, ?_⟩
  walk_at "rk"
  intro r1 hr1
  have e1 := Ex.new (o := .lst (wds [Vameta.word "program"])) hr1
  walk_at "rk"
  refine ⟨_, rfl, so.program, hf.ex e1, fun H2 r2 e2 hn2 hd2 => ?_⟩
  have hpo := Ms.prog_ok hf.flat.1 hf.flat.2
  walk_at "rk"
  have e12 := e1.trans e2
  refine x_catW (a := [Vameta.word "program"]) (e2 _ _ upd_same) hd2 (by rw [List.length_singleton]; have := hpo.2; omega) fun r3 hr3 => ?_
  have e3 := e12.add (o := .lst (wds ([Vameta.word "program"] ++ Ms.progWords so.program))) hr3
  have hok : ∀ x ∈ Vameta.word "program" :: Ms.progWords so.program, Ms.OkW x := fun x hx => by
    rcases List.mem_cons.mp hx with rfl | hx
    · exact ⟨rfl, by decide⟩
    · exact hpo.1 x hx
  have hl51 : (Vameta.word "program" :: Ms.progWords so.program).length ≤ 51 := by
    rw [List.length_cons]
    have := hpo.2
    omega
  refine ⟨_, r3, (Vameta.word "program" :: Ms.progWords so.program).map SX.S, rfl, rfl, Or.inl (sqL upd_same), join_len hok hl51, ?_⟩
  rw [row_str]
  walk_at "rk"
  refine ⟨_, _, rfl, rfl, cat_len hok hl51, ?_⟩
  rw [row_cat]
  walk_at "rk"
  intro r4 hr4
  have e4 := e3.add (o := .lst (wds [Ms.row (Vameta.word "program" :: Ms.progWords so.program)])) hr4
  have hr4' := e3.back hr4
  walk_at "rk"
  refine x_forT (a := qr) (xs := rvs) (fun i σ' H' => ∃ v4 v5 v6 v7 v8 : Option V, σ' = [some (.ref pt), some fv, some (.ref qr), some (.ref r4), v4, v5, v6, v7, v8] ∧ Ex H H' ∧ H' r4 = some (.lst (wds (Ms.row (Vameta.word "program" :: Ms.progWords so.program) :: (so.relations.take i).map fun r => Ms.row (Ms.relWords r))))) (fun q h => by walk_at "rd"; exact h) (sqT (e4 _ _ hqr)) ⟨none, none, none, none, none, rfl, e4, upd_same⟩ (fun i σ' H' _ ⟨_, _, _, _, _, _, e', _⟩ => sqT (e' _ _ hqr)) ?_ ?_
  · rintro i x σ' H' hx ⟨v4, v5, v6, v7, v8, rfl, e', hd⟩
    obtain ⟨rl, hrl, hrx⟩ := hrs.get hx
    have hwd := hrx.words
    obtain ⟨pr, cv, iv, ov, rfl, hpr, hcv, hiv, hov⟩ := hrx.ex e'
    have hi8 := (List.getElem?_eq_some_iff.mp hrl).1
    refine ⟨pr, _, rfl, sqT hpr, rfl, _, _, rfl, x_name ⟨_, _, rfl, x_name ⟨_, _, rfl, x_name ⟨_, _, rfl, x_name ⟨rfl, ?_⟩⟩⟩⟩⟩
    have hci := flatC_ok (by obtain ⟨_, _, _, h⟩ := hcv; exact h : WfCond rl.cond)
    have w1 := (Ms.words_ok (wl := Mr.condsW) Ms.conds_ok hci).2
    have w2 := (Ms.prog_ok hiv.flat.1 hiv.flat.2).2
    have w3 := (Ms.prog_ok hov.flat.1 hov.flat.2).2
    obtain ⟨pc, rfl, hpc, hcw⟩ := hcv
    walk_at "rk"
    intro a1 ha1
    have g1 := Ex.new (o := .lst (wds [Vameta.word "relation"])) ha1
    walk_at "rk"
    refine ⟨_, _, rfl, _, pc, Mr.condsW, VametBase.flatCond rl.cond, rfl, rfl, q_conds T _, g1 _ _ hpc, hci, fun H2 a2 e2 hn2 hd2 => ?_⟩
    have g2 := g1.trans e2
    walk_at "rk"
    refine x_catW (a := [Vameta.word "relation"]) (e2 _ _ upd_same) hd2 (by rw [List.length_singleton]; omega) fun a3 ha3 => ?_
    have g3 := g2.add (o := .lst (wds ([Vameta.word "relation"] ++ Ms.wordsOf Mr.condsW (VametBase.flatCond rl.cond)))) ha3
    walk_at "rk"
    intro a4 ha4
    have f4 := Ex.new (o := .lst (wds [Vameta.word "input"])) ha4
    have g4 := g3.trans f4
    refine x_catW (b := [Vameta.word "input"]) (f4 _ _ upd_same) upd_same (by rw [List.length_append, List.length_singleton, List.length_singleton]; omega) fun a5 ha5 => ?_
    have g5 := g4.add (o := .lst (wds ([Vameta.word "relation"] ++ Ms.wordsOf Mr.condsW (VametBase.flatCond rl.cond) ++ [Vameta.word "input"]))) ha5
    walk_at "rk"
    refine ⟨_, rfl, rl.input, hiv.ex g5, fun H6 a6 e6 hn6 hd6 => ?_⟩
    have g6 := g5.trans e6
    walk_at "rk"
    refine x_catW (e6 _ _ upd_same) hd6 (by rw [List.length_append, List.length_append, List.length_singleton, List.length_singleton]; omega) fun a7 ha7 => ?_
    have g7 := g6.add (o := .lst (wds ([Vameta.word "relation"] ++ Ms.wordsOf Mr.condsW (VametBase.flatCond rl.cond) ++ [Vameta.word "input"] ++ Ms.progWords rl.input))) ha7
    walk_at "rk"
    refine x_ixT (q_rels T _) (v := V.str (SX.S (Vameta.relText rl.rel))) (by cases rl.rel <;> rfl) ?_
    walk_at "rk"
    intro a8 ha8
    have f8 := Ex.new (o := .lst (wds [Vameta.word "output", Vameta.relText rl.rel])) ha8
    have g8 := g7.trans f8
    refine x_catW (b := [Vameta.word "output", Vameta.relText rl.rel]) (f8 _ _ upd_same) upd_same (by simp only [List.length_append, List.length_cons, List.length_nil]; omega) fun a9 ha9 => ?_
    have g9 := g8.add (o := .lst (wds ([Vameta.word "relation"] ++ Ms.wordsOf Mr.condsW (VametBase.flatCond rl.cond) ++ [Vameta.word "input"] ++ Ms.progWords rl.input ++ [Vameta.word "output", Vameta.relText rl.rel]))) ha9
    walk_at "rk"
    refine ⟨_, rfl, rl.output, hov.ex g9, fun H10 a10 e10 hn10 hd10 => ?_⟩
    have g10 := g9.trans e10
    walk_at "rk"
    refine x_catW (e10 _ _ upd_same) hd10 (by simp only [List.length_append, List.length_cons, List.length_nil]; omega) fun a11 ha11 => ?_
    have g11 := g10.add (o := .lst (wds (Ms.relWords rl))) ha11
    walk_at "rk"
    refine ⟨x_tyL (g11 _ _ hd), ?_⟩
    walk_at "rk"
    refine ⟨⟨_, rfl⟩, ?_⟩
    walk_at "rk"
    obtain ⟨rws, hrw⟩ : ∃ rws, Ms.relWords rl = Vameta.word "relation" :: rws := ⟨_, rfl⟩
    have hw51 := hwd.2
    have hwo := hwd.1
    rw [hrw] at hw51 hwo
    refine ⟨_, a11, (Ms.relWords rl).map SX.S, rfl, rfl, Or.inl (sqL upd_same), ?_, ?_⟩
    · rw [hrw]
      exact join_len hwo (Nat.le_succ_of_le hw51)
    rw [hrw, row_str]
    walk_at "rk"
    refine ⟨_, _, rfl, rfl, cat_len hwo (Nat.le_succ_of_le hw51), ?_⟩
    rw [row_cat, ← hrw]
    walk_at "rk"
    have hgr : upd H10 a11 (.lst (wds (Ms.relWords rl))) r4 = _ := g11 _ _ hd
    refine x_append hgr (sz_lt ?_) ?_
    · rw [List.length_map, List.length_map, List.length_cons, List.length_map, List.length_take]
      omega
    refine ⟨_, _, _, _, _, rfl, (e'.trans g11).mut hr4', ?_⟩
    rw [upd_same, take_more hrl, List.map_append, ← List.cons_append]
    unfold wds
    rw [List.map_append, List.map_append]
    rfl
  · rintro σ' H' ⟨v4, v5, v6, v7, v8, rfl, e', hd⟩
    rw [hrs.1, List.take_length] at hd
    walk_at "rk"
    exact hq H' r4 e' hr4' hd
end
end RR
/-! part P15 -/
/-! The one form, as bytes. -/
namespace RR
open PySem PySem.Spec PyProof.Rows L2
local macro_rules | `(tactic| walk_at "rd1") => `(tactic| (first
  | with_reducible refine x_seq ?_
  | with_reducible refine x_next ?_
  | with_reducible refine x_asg ?_
  | with_reducible refine x_name ?_
  | with_reducible refine x_ret ?_
  | with_reducible refine x_retN ?_
  | with_reducible refine x_drop ?_
  | with_reducible refine x_if ?_
  | ((with_reducible apply x_var); exact rfl)
  | ((with_reducible apply x_aug1); exact rfl)
  | with_reducible refine x_c ?_
  | with_reducible refine x_op ?_
  | with_reducible refine x_I0 ?_
  | with_reducible refine x_un ?_
  | with_reducible refine x_U ?_
  | with_reducible refine x_eqI ?_
  | with_reducible refine x_eqS ?_
  | with_reducible refine x_neI ?_
  | with_reducible refine x_test ?_
  | with_reducible refine x_tB ?_
  | with_reducible refine x_bl ?_
  | with_reducible refine x_and ?_
  | with_reducible refine x_or ?_
  | with_reducible refine x_not ?_
  | with_reducible refine x_andV ?_
  | with_reducible refine x_orV ?_
  | with_reducible refine x_notV ?_
  | with_reducible refine x_tIf ?_
  | with_reducible refine x_chain ?_
  | with_reducible refine x_cons ?_
  | with_reducible refine x_nil ?_
  | with_reducible refine x_tup ?_
  | with_reducible refine x_lst ?_
  | with_reducible refine x_tupF ?_
  | with_reducible refine x_cb ?_
  | with_reducible refine x_call ?_
  | with_reducible refine x_callS ?_
  | with_reducible refine x_meth ?_
  | with_reducible refine x_methS ?_
  | with_reducible refine x_make ?_
  | with_reducible refine x_ost ?_
  | with_reducible refine x_mkO ?_
  | with_reducible refine x_sFld ?_
  | with_reducible refine x_sFldAug ?_
  | with_reducible refine x_m1 ?_
  | with_reducible refine x_fld ?_
  | with_reducible refine x_bm ?_
  | with_reducible refine x_bmU ?_
  | with_reducible refine x_sl ?_
  | with_reducible refine x_part ?_
  | with_reducible refine x_noPart ?_
  | with_reducible refine x_revL ?_
  | with_reducible refine x_sz0 ?_
  | with_reducible refine x_sz1 ?_
  | with_reducible refine x_sz2 ?_
  | with_reducible refine x_sz3 ?_
  | with_reducible refine x_sz4 ?_
  | with_reducible refine x_sz5 ?_))
local macro_rules | `(tactic| walk_at "rd") => `(tactic| repeat walk_at "rd1")
local macro_rules | `(tactic| walk_at "rk") => `(tactic| repeat (first | walk_at "rd1" | with_reducible refine x_iteT (by decide) ?_ | with_reducible refine x_iteF (by decide) ?_))
theorem letter_facts : ∀ b, b < 123 → Vameta.isLetter b = true → (!decide ((SX.S [b]).cps.toList < (Str.ofString "a").cps.toList)) = true ∧ (!decide ((Str.ofString "z").cps.toList < (SX.S [b]).cps.toList)) = true ∧ Txt.index0 (Str.ofString "abcdefghijklmnopqrstuvwxyz") (SX.S [b]) = some (b - 97) := by decide +kernel
theorem digit_facts : ∀ b, b < 123 → Vameta.isDigit b = true → (!decide ((SX.S [b]).cps.toList < (Str.ofString "a").cps.toList)) = false ∧ (!decide ((SX.S [b]).cps.toList < (Str.ofString "0").cps.toList)) = true ∧ (!decide ((Str.ofString "9").cps.toList < (SX.S [b]).cps.toList)) = true ∧ Txt.index0 (Str.ofString "0123456789") (SX.S [b]) = some (b - 48) := by decide +kernel
theorem sign_facts : ∀ b, b < 123 → [32, 40, 41, 59, 45].contains b = true → (!decide ((SX.S [b]).cps.toList < (Str.ofString "a").cps.toList)) = false ∧ ((!decide ((SX.S [b]).cps.toList < (Str.ofString "0").cps.toList)) && (!decide ((Str.ofString "9").cps.toList < (SX.S [b]).cps.toList))) = false ∧ (Txt.index0 (Str.ofString " ();-") (SX.S [b])).bind (fun k => [32, 40, 41, 59, 45][k]?) = some b := by decide +kernel
theorem good_lt {b : Nat} (h : Ms.good b = true) : b < 123 := by
  unfold Ms.good Vameta.isLetter Vameta.isDigit at h
  simp only [Bool.or_eq_true, Bool.and_eq_true, decide_eq_true_eq, List.contains_eq_mem, List.mem_cons, List.not_mem_nil, or_false] at h
  omega
section
variable {P : Program} {w : World} {K : PySem.W.Frag} {mg : Str → Option Value} {base : Heap}
theorem x_bmS {T : String} {r : L2.St → V → List V → Hp → VK → Prop} {to : TE} {t : TA} {σ : L2.St} {H : Hp} {Q : VK} (h : to σ H fun x H1 => tyV K T x H1 ∧ t σ H1 fun xs H2 => r σ x xs H2 Q) : tBMS K T r to t σ H Q := h
theorem x_index {W : WX} {σ : L2.St} {a b : Str} {k : Nat} {H : Hp} {Q : VK} (h : Txt.index0 a b = some k) (q : Q (.int k) H) : rIndexX W σ (.str a) [.str b] H Q := by
  refine ⟨a, b, rfl, rfl, fun k' hk => ?_, fun z => ?_⟩
  · rw [h] at hk
    cases hk
    exact q
  · rw [h] at z
    cases z
/-! ### code_of -/
def sp_code_of : Sp := Sp1 fun a H Q _ => ∃ b : Nat, a = .str (SX.S [b]) ∧ Ms.good b = true ∧ ∀ H', Ex H H' → Q (.int b) H'
theorem ok_code_of (T : Txt K mg) : Cal0 P w K mg base 1 "code_of" sp_code_of := by
  refine T.d_code_of.ok0 (k := 0) sc_code_of Sp1.len (fun f cdv A outer s H vs Q E hr h => ⟨_, (pss_cons (ps_if (pt_chain op_le_str op_le_str pe_str (pv 0) pe_str) (pss_one (ps_ret (pe_op op_add pe_int (pe_bmS PySem.F.plainAttrs_str PySem.F.slot_str_index PySem.F.type_str_index (mt_indexX rfl takes0) pe_str (pa_cons (pv 0) pa_nil))))) pss_nil)
      (pss_cons (ps_if (pt_chain op_le_str op_le_str pe_str (pv 0) pe_str) (pss_one (ps_ret (pe_op op_add pe_int (pe_bmS PySem.F.plainAttrs_str PySem.F.slot_str_index PySem.F.type_str_index (mt_indexX rfl takes0) pe_str (pa_cons (pv 0) pa_nil))))) pss_nil)
      (pss_one (ps_ret (pe_ix ix_tup (pe_tup (pa_cons pe_int (pa_cons pe_int (pa_cons pe_int (pa_cons pe_int (pa_cons pe_int pa_nil)))))) (pe_bmS PySem.F.plainAttrs_str PySem.F.slot_str_index PySem.F.type_str_index (mt_indexX rfl takes0) pe_str (pa_cons (pv 0) pa_nil)) (fun _ _ => rfl)))))), ?_⟩)
  obtain ⟨_, rfl, b, rfl, hb, hq⟩ := h
  have hlt := good_lt hb
  try dsimp only [cxOf]
  walk_at "rk"
  refine ⟨_, _, rfl, rfl, ?_⟩
  walk_at "rk"
  cases c1 : Vameta.isLetter b with
  | true =>
    obtain ⟨f1, f2, f3⟩ := letter_facts b hlt c1
    unfold Vameta.isLetter at c1
    simp only [Bool.and_eq_true, decide_eq_true_eq] at c1
    refine x_iteT f1 ?_
    walk_at "rk"
    refine ⟨_, _, rfl, rfl, ?_⟩
    walk_at "rk"
    refine x_iteT f2 ?_
    walk_at "rk"
    refine x_bmS ?_
    walk_at "rk"
    refine ⟨rfl, ?_⟩
    walk_at "rk"
    refine x_index f3 ?_
    walk_at "rk"
    rw [show (97 : Int) + ((b - 97 : Nat) : Int) = (b : Int) by omega]
    exact hq _ (Ex.refl _)
  | false =>
    cases c2 : Vameta.isDigit b with
    | true =>
      obtain ⟨f1, f2, f3, f4⟩ := digit_facts b hlt c2
      unfold Vameta.isDigit at c2
      simp only [Bool.and_eq_true, decide_eq_true_eq] at c2
      refine x_iteF f1 ?_
      walk_at "rk"
      refine ⟨_, _, rfl, rfl, ?_⟩
      walk_at "rk"
      refine x_iteT f2 ?_
      walk_at "rk"
      refine ⟨_, _, rfl, rfl, ?_⟩
      walk_at "rk"
      refine x_iteT f3 ?_
      walk_at "rk"
      refine x_bmS ?_
      walk_at "rk"
      refine ⟨rfl, ?_⟩
      walk_at "rk"
      refine x_index f4 ?_
      walk_at "rk"
      rw [show (48 : Int) + ((b - 48 : Nat) : Int) = (b : Int) by omega]
      exact hq _ (Ex.refl _)
    | false =>
      have c3 : [32, 40, 41, 59, 45].contains b = true := by
        unfold Ms.good at hb
        rw [c1, c2] at hb
        exact hb
      obtain ⟨f1, f2, f3⟩ := sign_facts b hlt c3
      obtain ⟨k, hk, hk2⟩ := Option.bind_eq_some_iff.mp f3
      refine x_iteF f1 ?_
      walk_at "rk"
      refine ⟨_, _, rfl, rfl, ?_⟩
      walk_at "rk"
      have tl : ∀ p, H p = none → tBMS K "str" (rIndexX fun _ _ _ _ => False) (tC (V.str (Str.ofString " ();-"))) (tCons (tVar 0) tNil) (L2.start N_code_of [V.str (SX.S [b])]) (upd H p (.tup [V.int 32, V.int 40, V.int 41, V.int 59, V.int 45])) fun y H2 => rIxT K (V.ref p) y H2 Q := by
        intro p hp
        refine x_bmS ?_
        walk_at "rk"
        refine ⟨rfl, ?_⟩
        walk_at "rk"
        refine x_index hk ?_
        refine x_ixT (sqT upd_same) (v := V.int b) (atI_nat ?_) (hq _ (Ex.new hp))
        have : ([32, 40, 41, 59, 45].map fun n : Nat => V.int n)[k]? = some (V.int b) := by rw [List.getElem?_map, hk2]; rfl
        exact this
      cases c4 : (!decide ((SX.S [b]).cps.toList < (Str.ofString "0").cps.toList)) with
      | true =>
        rw [c4, Bool.true_and] at f2
        refine x_iteT rfl ?_
        walk_at "rk"
        refine ⟨_, _, rfl, rfl, ?_⟩
        walk_at "rk"
        refine x_iteF f2 ?_
        walk_at "rk"
        exact tl
      | false =>
        refine x_iteF rfl ?_
        walk_at "rk"
        exact tl

/-! ### text_bytes -/
theorem rows_ok {H : Hp} {v : V} {s : Vameta.Source} (h : TextAt H v s) : (∀ t ∈ Ms.rowsOf s, t.all Ms.good = true ∧ t.length ≤ 1000) ∧ (Ms.rowsOf s).length ≤ 13 := by
  obtain ⟨pt, fv, qr, rvs, rfl, hpt, hf, hqr, hrs, h12⟩ := h
  have hpo := Ms.prog_ok hf.flat.1 hf.flat.2
  refine ⟨fun t ht => ?_, ?_⟩
  · rcases List.mem_cons.mp ht with rfl | ht
    · refine Ms.row_ok (fun x hx => ?_) (by rw [List.length_cons]; have := hpo.2; omega)
      rcases List.mem_cons.mp hx with rfl | hx
      · exact ⟨rfl, by decide⟩
      · exact hpo.1 x hx
    · obtain ⟨r, hr, rfl⟩ := List.mem_map.mp ht
      obtain ⟨v, hv⟩ := hrs.mem hr
      exact Ms.row_ok hv.words.1 hv.words.2
  · show (s.relations.map _).length + 1 ≤ 13
    rw [List.length_map]
    omega
theorem flat_len : ∀ {rs : List (List Nat)}, (∀ t ∈ rs, t.length ≤ 1000) → (rs.flatMap fun t => t ++ [10]).length ≤ 1001 * rs.length
  | [], _ => Nat.zero_le _
  | t :: rs, h => by
    have h1 := h t List.mem_cons_self
    have h2 := flat_len (rs := rs) fun x hx => h x (List.mem_cons_of_mem _ hx)
    simp only [List.flatMap_cons, List.length_append, List.length_cons, List.length_nil]
    omega
def sp_text_bytes (K : PySem.W.Frag) : Sp := Sp1 fun a H Q _ => ∃ s : Vameta.Source, TextAt H a s ∧ RetL H (tx (Vameta.sourceText s)) Q
theorem ok_text_bytes (T : Txt K mg) (c_text_rows : Cal0 P w K mg base 3 "text_rows" (sp_text_rows K)) (c_code_of : Cal0 P w K mg base 1 "code_of" sp_code_of) : Cal0 P w K mg base 4 "text_bytes" (sp_text_bytes K) := by
  refine T.d_text_bytes.ok0 (k := 3) sc_text_bytes Sp1.len (fun f cdv A outer s H vs Q E hr h => ⟨_, (pss_cons (ps_set (i := 1) sc_text_bytes.nd rfl (Or.inl rfl) (pe_lst pa_nil))
      (pss_cons (ps_for PassesOwn.never rfl (pi_list (pe_c0 c_text_rows hr (by decide) (pa_cons (pv 0) pa_nil))) (pg_name (i := 2) sc_text_bytes.nd rfl (Or.inl rfl)) (pss_cons (ps_expr (pe_bm PySem.F.plainAttrs_list PySem.F.slot_list_extend PySem.F.type_list_extend mt_extend (pv 1) (pa_cons (pe_lc (own := [("sign", 3)]) (g := (gName 3)) (tt := tYes) (te := (tCall sp_code_of [] E0 (tCons (tVar 3) tNil))) rfl sc_text_bytes.nd (pi_str (pv 2)) (blkOk_by (N := N_text_bytes) (sc := defScope s_text_bytes) (by decide +kernel)) (fun _ _ _ _ _ => (pg_name (i := 3) sc_text_bytes.nd rfl (Or.inl rfl))) (fun _ _ _ _ _ => pts_nil) (fun _ _ _ _ _ => (pe_c0 c_code_of hr (by decide) (pa_cons (pv 3) pa_nil)))) pa_nil)))
      (pss_one (ps_expr (pe_bm PySem.F.plainAttrs_list PySem.F.slot_list_append PySem.F.type_list_append mt_append (pv 1) (pa_cons pe_int pa_nil))))))
      (pss_one (ps_ret (pv 1))))), ?_⟩)
  obtain ⟨v, rfl, so, hso, hq⟩ := h
  obtain ⟨hro, hrl⟩ := rows_ok hso
  rw [Ms.source_rows] at hq
  try dsimp only [cxOf]
  walk_at "rk"
  intro r hr
  have e1 := Ex.new (o := .lst []) hr
  walk_at "rk"
  refine x_for (x_iList ?_)
  walk_at "rk"
  refine ⟨_, rfl, so, hso.tk e1.tk, fun H2 rl e2 hn2 hd2 => ?_⟩
  have e12 := e1.trans e2
  have hne : rl ≠ r := fun z => by rw [z, upd_same] at hn2; cases hn2
  refine ⟨rl, rfl, ⟨_, sqL hd2⟩, forL_core (xs := wds (Ms.rowsOf so)) (fun i σ' H' => ∃ v2 v3 : Option V, σ' = [some v, some (.ref r), v2, v3] ∧ Ex H H' ∧ H' rl = some (.lst (wds (Ms.rowsOf so))) ∧ H' r = some (.lst (tx (((Ms.rowsOf so).take i).flatMap fun t => t ++ [10])))) ⟨none, none, rfl, e12, hd2, e2 _ _ upd_same⟩ (fun i σ' H' _ ⟨_, _, _, _, h, _⟩ => sqL h) ?_ ?_⟩
  · rintro i x σ' H' hx ⟨v2, v3, rfl, e', hl, hd⟩
    rw [wds, List.map_map, List.getElem?_map] at hx
    obtain ⟨t, ht, rfl⟩ := Option.map_eq_some_iff.mp hx
    obtain ⟨tg, tl⟩ := hro t (List.mem_of_getElem? ht)
    have hi := (List.getElem?_eq_some_iff.mp ht).1
    have hfl := flat_len (rs := (Ms.rowsOf so).take i) fun x hx => (hro x (List.mem_of_mem_take hx)).2
    rw [List.length_take] at hfl
    have hfl2 : (tx (((Ms.rowsOf so).take i).flatMap fun t => t ++ [10])).length ≤ 13013 := by
      rw [tx_len]
      refine Nat.le_trans hfl ?_
      omega
    walk_at "rk"
    refine ⟨x_tyL hd, ?_⟩
    walk_at "rk"
    refine x_lcS (l := t) (fun b => V.int b) (fun q h => by walk_at "rd"; exact h) (by omega) (fun b hb H3 e3 q h => ?_) (fun H3 p3 e3 hn3 hd3 => ?_)
    · walk_at "rk"
      exact ⟨_, rfl, b, rfl, List.all_eq_true.mp tg b hb, fun H4 e4 => h H4 e4⟩
    · walk_at "rk"
      refine x_extend (e3 _ _ hd) hd3 (sz_of (Nat.le_trans (Nat.add_le_add hfl2 (Nat.le_of_eq (List.length_map _))) (by omega))) ?_
      walk_at "rk"
      refine ⟨x_tyL upd_same, ?_⟩
      walk_at "rk"
      refine x_append upd_same (sz_lt (by rw [List.length_append]; exact Nat.lt_of_le_of_lt (Nat.add_le_add hfl2 (Nat.le_of_eq (List.length_map _))) (by omega))) ?_
      refine ⟨_, _, rfl, ((e'.trans e3).mut hr).mut hr, ?_, ?_⟩
      · rw [upd_ne hne, upd_ne hne]
        exact e3 _ _ hl
      · rw [upd_same, take_more ht, List.flatMap_append, List.flatMap_cons, List.flatMap_nil, List.append_nil]
        unfold tx
        rw [List.map_append, List.map_append, List.append_assoc]
        rfl
  · rintro σ' H' ⟨v2, v3, rfl, e', hl, hd⟩
    rw [List.take_of_length_le (by rw [List.length_map, List.length_map]; exact Nat.le_refl _)] at hd
    walk_at "rk"
    exact hq H' r e' hr hd
end
end RR
/-! part P16 -/
/-! The keeper, refusals, numbers. -/
namespace RR
open PySem PySem.Spec PyProof.Rows L2
local macro_rules | `(tactic| walk_at "rd1") => `(tactic| (first
  | with_reducible refine x_seq ?_
  | with_reducible refine x_next ?_
  | with_reducible refine x_asg ?_
  | with_reducible refine x_name ?_
  | with_reducible refine x_ret ?_
  | with_reducible refine x_retN ?_
  | with_reducible refine x_drop ?_
  | with_reducible refine x_if ?_
  | ((with_reducible apply x_var); exact rfl)
  | ((with_reducible apply x_aug1); exact rfl)
  | with_reducible refine x_c ?_
  | with_reducible refine x_op ?_
  | with_reducible refine x_I0 ?_
  | with_reducible refine x_un ?_
  | with_reducible refine x_U ?_
  | with_reducible refine x_eqI ?_
  | with_reducible refine x_eqS ?_
  | with_reducible refine x_neI ?_
  | with_reducible refine x_test ?_
  | with_reducible refine x_tB ?_
  | with_reducible refine x_bl ?_
  | with_reducible refine x_and ?_
  | with_reducible refine x_or ?_
  | with_reducible refine x_not ?_
  | with_reducible refine x_andV ?_
  | with_reducible refine x_orV ?_
  | with_reducible refine x_notV ?_
  | with_reducible refine x_tIf ?_
  | with_reducible refine x_chain ?_
  | with_reducible refine x_cons ?_
  | with_reducible refine x_nil ?_
  | with_reducible refine x_tup ?_
  | with_reducible refine x_lst ?_
  | with_reducible refine x_tupF ?_
  | with_reducible refine x_cb ?_
  | with_reducible refine x_call ?_
  | with_reducible refine x_callS ?_
  | with_reducible refine x_meth ?_
  | with_reducible refine x_methS ?_
  | with_reducible refine x_make ?_
  | with_reducible refine x_ost ?_
  | with_reducible refine x_mkO ?_
  | with_reducible refine x_sFld ?_
  | with_reducible refine x_sFldAug ?_
  | with_reducible refine x_m1 ?_
  | with_reducible refine x_fld ?_
  | with_reducible refine x_bm ?_
  | with_reducible refine x_bmU ?_
  | with_reducible refine x_sl ?_
  | with_reducible refine x_part ?_
  | with_reducible refine x_noPart ?_
  | with_reducible refine x_revL ?_
  | with_reducible refine x_sz0 ?_
  | with_reducible refine x_sz1 ?_
  | with_reducible refine x_sz2 ?_
  | with_reducible refine x_sz3 ?_
  | with_reducible refine x_sz4 ?_
  | with_reducible refine x_sz5 ?_))
local macro_rules | `(tactic| walk_at "rd") => `(tactic| repeat walk_at "rd1")
local macro_rules | `(tactic| walk_at "rk") => `(tactic| repeat (first | walk_at "rd1" | with_reducible refine x_iteT (by decide) ?_ | with_reducible refine x_iteF (by decide) ?_))
def SrcAt (H : Hp) (v : V) : Option Vameta.Source → Prop
  | none => v = .non
  | some x => TextAt H v x
theorem SrcAt.tk {H H' : Hp} (e : Tk H H') {v : V} {o : Option Vameta.Source} (h : SrcAt H v o) : SrcAt H' v o := by
  cases o with
  | none => exact h
  | some x => exact TextAt.tk e h
/-- the keeper at k -/
structure KpAt (K : PySem.W.Frag) (H : Hp) (k : Addr) (s : Vameta.State) : Prop where
  ex : ∃ (dx : Addr) (tv : V) (bp : Addr), H k = some (.ins (He.ga K "Keeper") dx [("text", tv), ("bound", .ref bp)]) ∧ SrcAt H tv s.source ∧ H bp = some (.tup [.int s.bound.long, .int s.bound.lo, .int s.bound.hi])
  ok : VametBase.okBound s.bound = true
theorem KpAt.e {K : PySem.W.Frag} {H H' : Hp} {k : Addr} {s : Vameta.State} (h : KpAt K H k s) (e : Ex H H') : KpAt K H' k s := by
  obtain ⟨⟨dx, tv, bp, h1, h2, h3⟩, ok⟩ := h
  exact ⟨⟨dx, tv, bp, e _ _ h1, h2.tk e.tk, e _ _ h3⟩, ok⟩
/-- a refusal -/
def RefE (K : PySem.W.Frag) (H : Hp) (E : XK) (code : Int) : Prop := ∀ H' d, Ex H H' → H' d = some (.xd [("code", .int code)]) → E (.ref (He.ga K "Refused")) (some d) H'
theorem RefE.ex {K : PySem.W.Frag} {H H1 : Hp} {E : XK} {k : Int} (e : Ex H H1) (h : RefE K H E k) : RefE K H1 E k := fun H' d e2 hd => h H' d (e.trans e2) hd
/-- [g n for n in l], l a list of ints made on the way -/
theorem x_lcGS {K : PySem.W.Frag} {i : Nat} {tl te : TE} {σ : L2.St} {H : Hp} {Q : VK} {l : List Int} (h : Int → V) (htl : ∀ q : VK, (∀ H1 a, Ex H H1 → SqL K H1 a (l.map V.int) → q (.ref a) H1) → tl σ H q) (hz : l.length ≤ 1000000)
    (he : ∀ n ∈ l, ∀ H1, Ex H H1 → ∀ q : VK, q (h n) H1 → te ((wipe σ [i]).set i (some (.int n))) H1 q) (k : RetL H (l.map h) Q) :
    tLc (iList K tl) (gName i) tYes te [i] σ H Q := by
  refine x_lc (x_iList (htl _ fun H1 a e1 hl => ?_))
  exact x_lcGM (tl := fun _ H q => q (.ref a) H) h (fun q h => h) hl hz (fun x hx H2 e2 => he x hx H2 (e1.trans e2)) (fun H' p e hn hd => k H' p (e1.trans e) (e1.back hn) hd)
section
variable {P : Program} {w : World} {K : PySem.W.Frag} {mg : Str → Option Value} {base : Heap}
/-! ### Refused, Keeper -/
def sp_Refused___init__ (K : PySem.W.Frag) : Sp := Sp2 fun a k H Q _ => ∃ (x : Addr), a = .ref x ∧ H x = some (exo x (He.ga K "Refused") none) ∧ ∀ H' d, H d = none → ExB x H H' → H' x = some (exo x (He.ga K "Refused") (some d)) → H' d = some (exd d [("code", k)]) → Q .non H'
theorem ok_Refused___init__ (T : Txt K mg) : MakE P w K mg base 1 "Refused" (He.ga K "Refused") (sp_Refused___init__ K) := by
  refine T.d_Refused___init__.ok0 (k := 0) sc_Refused___init__ Sp2.len (fun f cdv A outer s H vs Q E hr h => ⟨_, (pss_one (ps_ost (pv 0) (pv 1))), ?_⟩)
  obtain ⟨_, k, rfl, x, rfl, hx, hq⟩ := h
  try dsimp only [cxOf]
  walk_at "rk"
  refine ⟨x, _, rfl, T.ox_Refused, T.na_Refused_code, Or.inl ⟨hx, fun d hd hdx => ?_⟩⟩
  refine hq _ d hd (fun b o hb hn => ?_) upd_same ((upd_ne hdx).trans upd_same)
  have h1 : b ≠ d := ne_of_none hb hd
  rw [upd_ne hn, upd_ne h1]
  exact hb
/-- raising Refused(code) -/
theorem mk_Refused {H : Hp} {QX : XK} {k : Int} (hE : RefE K H QX k) : ([V.int k] : List V).length ≤ 1000 ∧ ∀ a, H a = none → sp_Refused___init__ K (.ref a :: ([V.int k] ++ [])) (upd H a (exo a (He.ga K "Refused") none))
    (fun v H2 => v = .non ∧ ∃ (d : Addr) (fs : List (Str × V)), H2 a = some (exo a (He.ga K "Refused") (some d)) ∧ H2 d = some (exd d fs) ∧ H d = none ∧ QX (.ref (He.ga K "Refused")) (some d) (upd (del H2 a) d (.xd fs))) (fun _ _ _ => False) := by
  refine ⟨by show 1 ≤ 1000; decide, fun a ha => ⟨_, _, rfl, a, rfl, upd_same, fun H' d hd hx h1 h2 => ⟨rfl, d, _, h1, h2, ?_, ?_⟩⟩⟩
  · by_cases e : d = a
    · rw [e]; exact ha
    · rw [upd_ne e] at hd; exact hd
  · have hda : d ≠ a := fun e => by rw [e, upd_same] at hd; cases hd
    rw [upd_ne hda] at hd
    refine hE _ d (fun b o hb => ?_) upd_same
    have b1 : b ≠ a := ne_of_none hb ha
    have b2 : b ≠ d := ne_of_none hb hd
    rw [upd_ne b2, del_ne b1]
    exact hx b o (by rw [upd_ne b1]; exact hb) b1
def sp_Keeper___init__ (K : PySem.W.Frag) : Sp := Sp1 fun a H Q _ => ∃ (x dx : Addr), a = .ref x ∧ H x = some (.ins (He.ga K "Keeper") dx []) ∧ ∀ H' bp, ExB x H H' → H' x = some (.ins (He.ga K "Keeper") dx [("text", .non), ("bound", .ref bp)]) → H' bp = some (.tup [.int 0, .int 0, .int 0]) → Q .non H'
theorem ok_Keeper___init__ (T : Txt K mg) : Mak0 P w K mg base 1 "Keeper" (He.ga K "Keeper") (sp_Keeper___init__ K) := by
  refine T.d_Keeper___init__.ok0 (k := 0) sc_Keeper___init__ Sp1.len (fun f cdv A outer s H vs Q E hr h => ⟨_, (pss_cons (ps_fld (pv 0) pe_non rfl)
      (pss_one (ps_fld (pv 0) (pe_tup (pa_cons pe_int (pa_cons pe_int (pa_cons pe_int pa_nil)))) rfl))), ?_⟩)
  obtain ⟨_, rfl, x, dx, rfl, hx, hq⟩ := h
  try dsimp only [cxOf]
  walk_at "rk"
  refine ⟨x, _, dx, _, rfl, hx, T.cl_Keeper, T.na_Keeper_text, by decide, ?_⟩
  walk_at "rk"
  intro bp hbp
  have hbx : bp ≠ x := fun z => by rw [z, upd_same] at hbp; cases hbp
  walk_at "rk"
  refine ⟨x, _, dx, _, rfl, (upd_ne (Ne.symm hbx)).trans upd_same, T.cl_Keeper, T.na_Keeper_bound, Nat.lt_of_le_of_lt (putF_len _ _ _) (by decide), ?_⟩
  refine hq _ bp (fun b o hb hn => ?_) upd_same ((upd_ne hbx).trans upd_same)
  rw [upd_ne hbx] at hbp
  rw [upd_ne hn, upd_ne (ne_of_none hb hbp), upd_ne hn]
  exact hb
def sp_Keeper_hold_text (K : PySem.W.Frag) : Sp := Sp2 fun a b H Q _ => ∃ (k : Addr) (s : Vameta.State) (x : Vameta.Source), a = .ref k ∧ KpAt K H k s ∧ TextAt H b x ∧ ∀ H', ExB k H H' → KpAt K H' k { s with source := some x } → Q .non H'
theorem ok_Keeper_hold_text (T : Txt K mg) : Met0 P w K mg base 1 (He.ga K "Keeper") "hold_text" (sp_Keeper_hold_text K) := by
  refine T.d_Keeper_hold_text.ok0 (k := 0) sc_Keeper_hold_text Sp2.len (fun f cdv A outer s H vs Q E hr h => ⟨_, (pss_one (ps_fld (pv 0) (pv 1) rfl)), ?_⟩)
  obtain ⟨_, v, rfl, k, s, x, rfl, ⟨⟨dx, tv, bp, h1, h2, h3⟩, ok⟩, hx, hq⟩ := h
  try dsimp only [cxOf]
  walk_at "rk"
  refine ⟨k, _, dx, _, rfl, h1, T.cl_Keeper, T.na_Keeper_text, by show 2 < 1000; decide, ?_⟩
  have hk : Tk H (upd H k (.ins (He.ga K "Keeper") dx (putF "text" v [("text", tv), ("bound", .ref bp)]))) := ExB.tk ExB.upd h1
  exact hq _ ExB.upd ⟨⟨dx, v, bp, upd_same, hx.tk hk, hk _ _ h3⟩, ok⟩
def sp_Keeper_hold_bound (K : PySem.W.Frag) : Sp := Sp2 fun a b H Q _ => ∃ (k p : Addr) (s : Vameta.State) (x : VametBase.Bound), a = .ref k ∧ b = .ref p ∧ KpAt K H k s ∧ H p = some (.tup [.int x.long, .int x.lo, .int x.hi]) ∧ VametBase.okBound x = true ∧ ∀ H', ExB k H H' → KpAt K H' k { s with bound := x } → Q .non H'
theorem ok_Keeper_hold_bound (T : Txt K mg) : Met0 P w K mg base 1 (He.ga K "Keeper") "hold_bound" (sp_Keeper_hold_bound K) := by
  refine T.d_Keeper_hold_bound.ok0 (k := 0) sc_Keeper_hold_bound Sp2.len (fun f cdv A outer s H vs Q E hr h => ⟨_, (pss_one (ps_fld (pv 0) (pv 1) rfl)), ?_⟩)
  obtain ⟨_, _, rfl, k, p, s, x, rfl, rfl, ⟨⟨dx, tv, bp, h1, h2, h3⟩, ok⟩, hp, hok, hq⟩ := h
  try dsimp only [cxOf]
  walk_at "rk"
  refine ⟨k, _, dx, _, rfl, h1, T.cl_Keeper, T.na_Keeper_bound, by show 2 < 1000; decide, ?_⟩
  have hk : Tk H (upd H k (.ins (He.ga K "Keeper") dx (putF "bound" (.ref p) [("text", tv), ("bound", .ref bp)]))) := ExB.tk ExB.upd h1
  exact hq _ ExB.upd ⟨⟨dx, tv, p, upd_same, h2.tk hk, hk _ _ hp⟩, hok⟩

/-! ### require -/
def sp_require (K : PySem.W.Frag) : Sp := Sp2 fun a b H Q E => ∃ (k : Bool) (c : Int), a = .bl k ∧ b = .int c ∧ (k = true → Q .non H) ∧ (k = false → RefE K H E c)
theorem ok_require (T : Txt K mg) (c_Refused___init__ : MakE P w K mg base 1 "Refused" (He.ga K "Refused") (sp_Refused___init__ K)) : CalX P w K mg base 3 "require" (sp_require K) := by
  refine T.d_require.okX (k := 2) sc_require Sp2.len (fun f cdv A outer s H vs Q E hr h => ⟨_, (pss_one (ps_if (pt_not (pt_val (pv 0))) (pss_one (ps_raise rfl takesD (pmk_e c_Refused___init__ hr (by decide) (pa_cons (pv 1) pa_nil)))) pss_nil)), ?_⟩)
  obtain ⟨_, _, rfl, k, c, rfl, rfl, h1, h2⟩ := h
  try dsimp only [cxOf]
  walk_at "rk"
  cases k with
  | true =>
    walk_at "rk"
    exact h1 rfl
  | false =>
    walk_at "rk"
    exact mk_Refused fun H2 d e2 hd => h2 rfl H2 d e2 hd
def sp_require_text (K : PySem.W.Frag) : Sp := Sp1 fun a H Q E => ∃ (k : Addr) (s : Vameta.State), a = .ref k ∧ KpAt K H k s ∧ (∀ x, s.source = some x → Q .non H) ∧ (s.source = none → RefE K H E (0 - 8))
theorem ok_require_text (T : Txt K mg) (c_require : CalX P w K mg base 3 "require" (sp_require K)) : CalX P w K mg base 4 "require_text" (sp_require_text K) := by
  refine T.d_require_text.okX (k := 3) sc_require_text Sp1.len (fun f cdv A outer s H vs Q E hr h => ⟨_, (pss_one (ps_expr (pe_cX c_require hr (by decide) passD (pa_cons (pe_cmpR op_notN (pe_fld (pv 0) rfl) pe_non (by first | exact nomark _ | rfl)) (pa_cons (pe_op op_sub pe_int pe_int) pa_nil))))), ?_⟩)
  obtain ⟨_, rfl, k, s, rfl, ⟨⟨dx, tv, bp, h1, h2, h3⟩, ok⟩, hq, hE⟩ := h
  try dsimp only [cxOf]
  walk_at "rk"
  refine ⟨_, _, _, _, _, rfl, h1, T.cl_Keeper, T.na_Keeper_text, rfl, ?_⟩
  walk_at "rk"
  refine ⟨rfl, ?_⟩
  walk_at "rk"
  cases hs : s.source with
  | none =>
    rw [hs] at h2
    obtain rfl := h2
    exact ⟨_, _, rfl, _, _, rfl, rfl, (fun z => nomatch z), fun _ => hE hs⟩
  | some x =>
    rw [hs] at h2
    obtain ⟨pt, _, _, _, rfl, _⟩ := h2
    refine ⟨_, _, rfl, _, _, rfl, rfl, fun _ => ?_, fun z => ?_⟩
    · walk_at "rk"
      exact hq x hs
    · rw [decide_eq_false (fun z => by cases z)] at z
      cases z

/-! ### relation_of -/
def relAt (x : Vameta.Source) (n : Int) : Option VametBase.Relation := if n < 0 then none else x.relations[n.toNat]?
def sp_relation_of (K : PySem.W.Frag) : Sp := Sp2 fun a b H Q E => ∃ (k : Addr) (s : Vameta.State) (n : Int), a = .ref k ∧ b = .int n ∧ KpAt K H k s ∧ (s.source = none → RefE K H E (0 - 8)) ∧
  (∀ x, s.source = some x → relAt x n = none → RefE K H E (0 - 2)) ∧ (∀ x r v, s.source = some x → relAt x n = some r → RelAt H v r → Q v H)
theorem ok_relation_of (T : Txt K mg) (c_require : CalX P w K mg base 3 "require" (sp_require K)) (c_require_text : CalX P w K mg base 4 "require_text" (sp_require_text K)) : CalX P w K mg base 5 "relation_of" (sp_relation_of K) := by
  refine T.d_relation_of.okX (k := 4) sc_relation_of Sp2.len (fun f cdv A outer s H vs Q E hr h => ⟨_, (pss_cons (ps_expr (pe_cX c_require_text hr (by decide) passD (pa_cons (pv 0) pa_nil)))
      (pss_cons (ps_expr (pe_cX c_require hr (by decide) passD (pa_cons (pe_chain op_le op_lt pe_int (pv 1) (pe_callB call_len_seq (by rfl) T.bi_len boot_len (pa_cons (pe_ix ix_tup (pe_fld (pv 0) rfl) pe_int (fun _ _ => rfl)) pa_nil))) (pa_cons (pe_op op_sub pe_int pe_int) pa_nil))))
      (pss_one (ps_ret (pe_ix ix_tup (pe_ix ix_tup (pe_fld (pv 0) rfl) pe_int (fun _ _ => rfl)) (pv 1) (fun _ _ => rfl)))))), ?_⟩)
  obtain ⟨_, _, rfl, k, s, n, rfl, rfl, hk, hE8, hE2, hq⟩ := h
  try dsimp only [cxOf]
  walk_at "rk"
  refine ⟨_, rfl, k, s, rfl, hk, fun x hx => ?_, hE8⟩
  obtain ⟨⟨dx, tv, bp, h1, h2, h3⟩, ok⟩ := hk
  rw [hx] at h2
  obtain ⟨pt, fv, qr, rvs, rfl, hpt, hf, hqr, hrs, h12⟩ := h2
  have hE2 := hE2 x hx
  have hq := fun r v => hq x r v hx
  unfold relAt at hE2 hq
  walk_at "rk"
  refine x_ite (fun c => ?_) (fun c => ?_)
  · rw [if_neg (by omega)] at hE2
    walk_at "rk"
    refine ⟨_, _, _, _, _, rfl, h1, T.cl_Keeper, T.na_Keeper_text, rfl, ?_⟩
    walk_at "rk"
    refine x_ixT (sqT hpt) (v := V.ref qr) rfl ?_
    walk_at "rk"
    refine x_len (Or.inr (sqT hqr)) ?_
    walk_at "rk"
    refine ⟨_, _, rfl, _, _, rfl, rfl, fun c2 => ?_, fun c2 => ?_⟩
    · have c2 := of_decide_eq_true c2
      rw [hrs.1] at c2
      walk_at "rk"
      refine ⟨_, _, _, _, _, rfl, h1, T.cl_Keeper, T.na_Keeper_text, rfl, ?_⟩
      walk_at "rk"
      refine x_ixT (sqT hpt) (v := V.ref qr) rfl ?_
      walk_at "rk"
      have hg : x.relations[n.toNat]? = some x.relations[n.toNat] := List.getElem?_eq_getElem (by omega)
      obtain ⟨v, hv, hr⟩ := hrs.at hg
      refine x_ixT (sqT hqr) (atI_of c hv) ?_
      exact hq _ v (by rw [if_neg (by omega)]; exact hg) hr
    · have c2 := of_decide_eq_false c2
      rw [hrs.1] at c2
      exact hE2 (List.getElem?_eq_none (by omega))
  · rw [if_pos (by omega)] at hE2
    walk_at "rk"
    exact ⟨_, _, rfl, _, _, rfl, rfl, (fun z => nomatch z), fun _ => hE2 rfl⟩

/-! ### row_of -/
def sp_row_of (K : PySem.W.Frag) : Sp := Sp1 fun a H Q E => ∃ (p : Addr) (l : List Int), a = .ref p ∧ Rw H p l ∧ l.length ≤ 1000 ∧ (VametBase.whole VametBase.readRow l = none → RefE K H E (0 - 5)) ∧ (∀ r, VametBase.whole VametBase.readRow l = some r → RetL H (r.map V.int) Q)
theorem ok_row_of (T : Txt K mg) (c_require : CalX P w K mg base 3 "require" (sp_require K)) : CalX P w K mg base 4 "row_of" (sp_row_of K) := by
  refine T.d_row_of.okX (k := 3) sc_row_of Sp1.len (fun f cdv A outer s H vs Q E hr h => ⟨_, (pss_cons (ps_expr (pe_cX c_require hr (by decide) passD (pa_cons (pe_and (pe_cmpR op_gt (pe_callB call_len_seq (by rfl) T.bi_len boot_len (pa_cons (pv 0) pa_nil)) pe_int (by first | exact nomark _ | rfl)) (pe_and (pe_cmpR op_eq (pe_ix ix_list (pv 0) pe_int (fun _ _ => rfl)) (pe_op op_sub (pe_callB call_len_seq (by rfl) T.bi_len boot_len (pa_cons (pv 0) pa_nil)) pe_int) (by first | exact nomark _ | rfl)) (pe_one (pe_cmpR op_le (pe_ix ix_list (pv 0) pe_int (fun _ _ => rfl)) (C8.pe_gc (by rfl) T.k_LONGEST) (by first | exact nomark _ | rfl))))) (pa_cons (pe_op op_sub pe_int pe_int) pa_nil))))
      (pss_cons (ps_expr (pe_cX c_require hr (by decide) passD (pa_cons (pe_callB (cr_all rfl) (by rfl) T.bi_all (by decide +kernel) (pa_cons (pe_lc (own := [("one", 1)]) (g := (gName 1)) (tt := tYes) (te := (tChain (rI0 fun i j => .bl (decide (i ≤ j))) (rI0 fun i j => .bl (decide (i ≤ j))) (tOp (rI0 fun i j => .int (i - j)) (tC (.int 0)) (tC (.int 99))) (tVar 1) (tC (.int 99)))) rfl sc_row_of.nd (pi_list (pe_slice sl_list (pv 0) (po_some pe_int) po_none)) (blkOk_by (N := N_row_of) (sc := defScope s_row_of) (by decide +kernel)) (fun _ _ _ _ _ => (pg_name (i := 1) sc_row_of.nd rfl (Or.inl rfl))) (fun _ _ _ _ _ => pts_nil) (fun _ _ _ _ _ => (pe_chain op_le op_le (pe_op op_sub pe_int (C8.pe_gc (by rfl) T.k_FARTHEST_relations)) (pv 1) (C8.pe_gc (by rfl) T.k_FARTHEST_relations)))) pa_nil)) (pa_cons (pe_op op_sub pe_int pe_int) pa_nil))))
      (pss_one (ps_ret (pe_slice sl_list (pv 0) (po_some pe_int) po_none))))), ?_⟩)
  obtain ⟨_, rfl, p, l, rfl, hp, hz, hE, hq⟩ := h
  try dsimp only [cxOf]
  have hp' : SqL K H p (l.map V.int) := sqL hp
  have no : VametBase.whole VametBase.readRow l = none → ∃ a b : V, [V.bl false, V.int (0 - 5)] = [a, b] ∧ ∃ (k : Bool) (c : Int), a = .bl k ∧ b = .int c ∧ (k = true → False) ∧ (k = false → RefE K H E c) := fun h => ⟨_, _, rfl, _, _, rfl, rfl, (fun z => nomatch z), fun _ => hE h⟩
  walk_at "rk"
  refine x_len (Or.inl hp') ?_
  walk_at "rk"
  cases l with
  | nil =>
    refine x_iteF (by rfl) ?_
    walk_at "rk"
    exact ⟨_, _, rfl, _, _, rfl, rfl, (fun z => nomatch z), fun _ => hE rfl⟩
  | cons n l =>
    rw [Mo.row_cons] at hE hq
    refine x_iteT (decide_eq_true (by rw [List.length_map, List.length_cons]; omega)) ?_
    walk_at "rk"
    refine x_ixL hp' (v := V.int n) (atI_of (Int.le_refl 0) rfl) ?_
    walk_at "rk"
    refine x_len (Or.inl hp') ?_
    walk_at "rk"
    by_cases c1 : n = l.length
    · refine x_iteT (decide_eq_true (by rw [List.length_map, List.length_cons]; omega)) ?_
      walk_at "rk"
      refine x_ixL hp' (v := V.int n) (atI_of (Int.le_refl 0) rfl) ?_
      walk_at "rk"
      refine ⟨_, _, rfl, _, _, rfl, rfl, fun c2 => ?_, fun c2 => ?_⟩
      · have c2 := of_decide_eq_true c2
        walk_at "rk"
        have inr : ∀ x, Mo.inRow x = (decide (0 - 99 ≤ x) && decide (x ≤ 99)) := fun x => rfl
        refine x_lcGS (l := l) (fun x => V.bl (Mo.inRow x)) (fun q h => ?_) (by rw [List.length_cons] at hz; omega) (fun x hx H1 e q h => ?_) (fun H1 r e hn hd => ?_)
        · walk_at "rk"
          refine x_int ?_
          walk_at "rk"
          refine x_slL hp' fun t ht => ?_
          refine h _ t (Ex.new ht) (sqL ?_)
          rw [upd_same, show (some (1 : Int)) = some ((1 : Nat) : Int) from rfl, cutV_from]
          rfl
        · walk_at "rk"
          rw [inr] at h
          by_cases c4 : 0 - 99 ≤ x
          · refine x_iteT (decide_eq_true c4) ?_
            walk_at "rk"
            rw [decide_eq_true c4, Bool.true_and] at h
            exact h
          · refine x_iteF (decide_eq_false c4) ?_
            walk_at "rk"
            rw [decide_eq_false c4, Bool.false_and] at h
            exact h
        · walk_at "rk"
          refine ⟨r, l.map Mo.inRow, rfl, sqL (by rw [hd, List.map_map]; rfl), ?_⟩
          rw [List.all_map]
          walk_at "rk"
          refine ⟨_, _, rfl, _, _, rfl, rfl, fun c3 => ?_, fun c3 => ?_⟩
          · walk_at "rk"
            refine x_int ?_
            walk_at "rk"
            refine x_slL (sqL (e _ _ hp)) fun t ht => ?_
            refine hq l (by rw [if_pos ⟨⟨c1, c2⟩, c3⟩]) _ t (e.add ht) (e.back ht) ?_
            rw [upd_same, show (some (1 : Int)) = some ((1 : Nat) : Int) from rfl, cutV_from]
            rfl
          · exact RefE.ex e (hE (if_neg fun z => by rw [show (l.all Mo.inRow) = false from c3] at z; cases z.2))
      · have c2 := of_decide_eq_false c2
        exact hE (if_neg fun z => c2 z.1.2)
    · refine x_iteF (decide_eq_false (by rw [List.length_map, List.length_cons]; omega)) ?_
      walk_at "rk"
      exact ⟨_, _, rfl, _, _, rfl, rfl, (fun z => nomatch z), fun _ => hE (if_neg fun z => c1 z.1.1)⟩

/-! ### numbers -/
def sp_as_numbers : Sp := Sp1 fun a H Q _ => ∃ (p : Addr) (l : List Int), a = .ref p ∧ Rw H p l ∧ l.length ≤ 1000000 ∧ RetL H ((VametBase.listedInts l).map V.int) Q
theorem ok_as_numbers (T : Txt K mg) : Cal0 P w K mg base 1 "as_numbers" sp_as_numbers := by
  refine T.d_as_numbers.ok0 (k := 0) sc_as_numbers Sp1.len (fun f cdv A outer s H vs Q E hr h => ⟨_, (pss_one (ps_ret (pe_op op_cat (pe_lst (pa_cons (pe_callB call_len_seq (by rfl) T.bi_len boot_len (pa_cons (pv 0) pa_nil)) pa_nil)) (pe_callTy call_list_of (by rfl) T.bi_list (by decide +kernel) (pa_cons (pv 0) pa_nil))))), ?_⟩)
  obtain ⟨_, rfl, p, l, rfl, hp, hz, hq⟩ := h
  try dsimp only [cxOf]
  walk_at "rk"
  refine x_len (Or.inl (sqL hp)) ?_
  walk_at "rk"
  intro r hr
  have e1 := Ex.new (o := .lst [.int ((l.map V.int).length : Nat)]) hr
  walk_at "rk"
  refine ⟨p, _, rfl, Or.inl (sqL (e1 _ _ hp)), fun t ht => ?_⟩
  have e2 := e1.add (o := .lst (l.map V.int)) ht
  have hne : r ≠ t := ne_of_none upd_same ht
  refine x_cat ((upd_ne hne).trans upd_same) upd_same (sz_of (by rw [List.length_map, List.length_singleton]; omega)) fun u hu => ?_
  refine hq _ u (e2.add hu) (e2.back hu) ?_
  rw [upd_same, List.length_map]
  rfl
theorem flatStep_len (s : VametBase.Step) : (VametBase.flatStep s).length ≤ 2 := by cases s <;> exact Nat.le_of_ble_eq_true rfl
def sp_steps_numbers : Sp := Sp1 fun a H Q _ => ∃ f : VametBase.Program, ProgAt H a f ∧ RetL H ((VametBase.flatProgram f).map V.int) Q
theorem flat_len2 : ∀ f : VametBase.Program, (f.flatMap VametBase.flatStep).length ≤ 2 * f.length
  | [] => Nat.le_refl _
  | s :: f => by
    have h1 := flatStep_len s
    have h2 := flat_len2 f
    rw [List.flatMap_cons, List.length_append, List.length_cons]
    omega
theorem ok_steps_numbers (T : Txt K mg) : Cal0 P w K mg base 1 "steps_numbers" sp_steps_numbers := by
  refine T.d_steps_numbers.ok0 (k := 0) sc_steps_numbers Sp1.len (fun f cdv A outer s H vs Q E hr h => ⟨_, (pss_cons (ps_set (i := 1) sc_steps_numbers.nd rfl (Or.inl rfl) (pe_lst (pa_cons (pe_callB call_len_seq (by rfl) T.bi_len boot_len (pa_cons (pv 0) pa_nil)) pa_nil)))
      (pss_cons (ps_for PassesOwn.never rfl (pi_tup (pv 0)) (pg_name (i := 2) sc_steps_numbers.nd rfl (Or.inl rfl)) (pss_one (ps_expr (pe_bm PySem.F.plainAttrs_list PySem.F.slot_list_extend PySem.F.type_list_extend mt_extend (pv 1) (pa_cons (pe_callTy call_list_of (by rfl) T.bi_list (by decide +kernel) (pa_cons (pv 2) pa_nil)) pa_nil)))))
      (pss_one (ps_ret (pv 1))))), ?_⟩)
  obtain ⟨_, rfl, f, ⟨pf, vs, rfl, hpf, hfs, hz⟩, hq⟩ := h
  try dsimp only [cxOf]
  walk_at "rk"
  refine x_len (Or.inr (sqT hpf)) ?_
  walk_at "rk"
  intro r hr
  have e1 := Ex.new (o := .lst [.int (vs.length : Nat)]) hr
  walk_at "rk"
  refine x_forT (a := pf) (xs := vs) (fun i σ' H' => ∃ v : Option V, σ' = [some (.ref pf), some (.ref r), v] ∧ Ex H H' ∧ H' r = some (.lst (((f.length : Int) :: (f.take i).flatMap VametBase.flatStep).map V.int))) (fun q h => by walk_at "rd"; exact h) (sqT (e1 _ _ hpf)) ⟨none, rfl, e1, by rw [upd_same, hfs.1]; rfl⟩ (fun i σ' H' _ ⟨_, _, e', _⟩ => sqT (e' _ _ hpf)) ?_ ?_
  · rintro i x σ' H' hx ⟨v, rfl, e', hd⟩
    obtain ⟨st, hst, p, rfl, hp, hw⟩ := hfs.get hx
    walk_at "rk"
    refine ⟨x_tyL hd, ?_⟩
    walk_at "rk"
    refine ⟨p, _, rfl, Or.inr (sqT (e' _ _ hp)), fun t ht => ?_⟩
    have hne : r ≠ t := ne_of_none hd ht
    walk_at "rk"
    have h1 := flat_len2 (f.take i)
    have h2 := flatStep_len st
    rw [List.length_take] at h1
    refine x_extend ((upd_ne hne).trans hd) upd_same (sz_of (by rw [List.length_map, List.length_map, List.length_cons]; omega)) ?_
    refine ⟨_, rfl, (e'.add ht).mut hr, ?_⟩
    rw [upd_same, take_more hst, List.flatMap_append, List.flatMap_cons, List.flatMap_nil, List.append_nil, ← List.map_append]
    rfl
  · rintro σ' H' ⟨v, rfl, e', hd⟩
    rw [hfs.1, List.take_length] at hd
    walk_at "rk"
    exact hq H' r e' hr hd

/-! ### outcome -/
theorem step_within {p : VametBase.Program} {l m : VametBase.Row} (h : VametBase.within l = true) (e : VametBase.run p l = some m) : m.length ≤ 40 := (Mx.within_iff.mp (Mx.run_within h e)).1
abbrev tb_outcome (K : PySem.W.Frag) (W : WX) : TS := tRet (tOp rCat (tLst (tCons (tC (.int 1)) tNil)) (tCall sp_as_numbers [] E0 (tCons (tCallS (sp_run_on K) (WE W) (tCons (tVar 0) (tCons (tVar 1) tNil))) tNil)))
def sp_outcome : Sp := Sp2 fun a b H Q _ => ∃ (p : Addr) (l : List Int) (f : VametBase.Program), b = .ref p ∧ ProgAt H a f ∧ Rw H p l ∧ VametBase.within l = true ∧ RetL H ((VametBase.flatOutcome (VametBase.run f l)).map V.int) Q
theorem ok_outcome (T : Txt K mg) (c_run_on : CalX P w K mg base 4 "run_on" (sp_run_on K)) (c_as_numbers : Cal0 P w K mg base 1 "as_numbers" sp_as_numbers) : Cal0 P w K mg base 5 "outcome" sp_outcome := by
  refine T.d_outcome.ok0 (k := 4) sc_outcome Sp2.len (fun f cdv A outer s H vs Q E hr h => ⟨_, (pss_one (ps_try_only (c := .ref (He.ga K "Beyond")) (tb := fun W => tb_outcome K W) (ts := fun _ _ _ => tRet (tLst (tCons (tC (.int 0)) tNil))) (Wout := fun _ _ _ _ => False) rfl rfl ⟨rfl, by decide, .inl T.gB⟩ takes0 (fun W pn xe tk po => (pss_one (ps_ret (pe_op op_cat (pe_lst (pa_cons pe_int pa_nil)) (pe_c0 c_as_numbers hr (by decide) (pa_cons (pe_cX c_run_on hr (by decide) (fun σ => passAt tk σ) (pa_cons (pv 0) (pa_cons (pv 1) pa_nil))) pa_nil)))))) (fun a oe cls d pn hz hf => (pss_one (ps_ret (pe_lst (pa_cons pe_int pa_nil))))))), ?_⟩)
  obtain ⟨_, _, rfl, p, l, f, rfl, hf, hl, hw, hq⟩ := h
  obtain ⟨pf, fvs, rfl, hf2⟩ := id hf
  dsimp only [cxOf]
  walk_at "rk"
  intro r hr
  have e1 := Ex.new (o := .lst [.int 1]) hr
  walk_at "rk"
  refine ⟨_, _, rfl, p, l, f, rfl, hf.ex e1, e1 _ _ hl, hw, fun y hy => ?_, fun hn => ?_⟩
  · rw [hy] at hq
    have hly := step_within hw hy
    rintro H2 py e2 hn2 hd2
    walk_at "rk"
    refine ⟨_, rfl, py, y, rfl, hd2, by omega, fun H3 q3 e3 hn3 hd3 => ?_⟩
    have hne : r ≠ q3 := ne_of_none (e2 _ _ upd_same) hn3
    refine x_cat (e3 _ _ (e2 _ _ upd_same)) hd3 (sz_of (by rw [List.length_map, List.length_singleton]; show 1 + (y.length + 1) ≤ _; omega)) fun u hu => ?_
    refine hq _ u (((e1.trans e2).trans e3).add hu) (((e1.trans e2).trans e3).back hu) ?_
    rw [upd_same]
    rfl
  · rw [hn] at hq
    intro H5 e5
    refine ⟨true, T.em_Beyond, fun _ a ha => ?_, fun z => nomatch z⟩
    walk_at "rk"
    intro u hu
    refine hq _ u ((e1.trans e5).add hu) ((e1.trans e5).back hu) ?_
    rw [upd_same]
    rfl

/-! ### sides_numbers -/
def sp_sides_numbers : Sp := Sp1 fun a H Q _ => ∃ o : Option VametBase.Sides, SidesAt H a o ∧ RetL H ((Mo.sidesFlat o).map V.int) Q
theorem ok_sides_numbers (T : Txt K mg) (c_as_numbers : Cal0 P w K mg base 1 "as_numbers" sp_as_numbers) : Cal0 P w K mg base 2 "sides_numbers" sp_sides_numbers := by
  refine T.d_sides_numbers.ok0 (k := 1) sc_sides_numbers Sp1.len (fun f cdv A outer s H vs Q E hr h => ⟨_, (pss_one (ps_ret (pe_ifExp (pt_cmpR op_isN (pv 0) pe_non (by first | exact nomark _ | rfl)) (pe_lst (pa_cons pe_int pa_nil)) (pe_op op_cat (pe_op op_cat (pe_lst (pa_cons pe_int pa_nil)) (pe_c0 c_as_numbers hr (by decide) (pa_cons (pe_ix ix_tup (pv 0) pe_int (fun _ _ => rfl)) pa_nil))) (pe_c0 c_as_numbers hr (by decide) (pa_cons (pe_ix ix_tup (pv 0) pe_int (fun _ _ => rfl)) pa_nil)))))), ?_⟩)
  obtain ⟨_, rfl, o, hs, hq⟩ := h
  try dsimp only [cxOf]
  cases o with
  | none =>
    obtain rfl := hs
    walk_at "rk"
    refine ⟨rfl, ?_⟩
    walk_at "rk"
    exact fun u hu => hq _ u (Ex.new hu) hu (by rw [upd_same]; rfl)
  | some sd =>
    obtain ⟨ps, a, b, rfl, hps, ha, hb, hwa, hwb⟩ := hs
    have h1 := (Mx.within_iff.mp hwa).1
    have h2 := (Mx.within_iff.mp hwb).1
    walk_at "rk"
    refine ⟨rfl, ?_⟩
    walk_at "rk"
    refine x_iteF (decide_eq_false (fun z => by cases z)) ?_
    walk_at "rk"
    intro r hr
    have e1 := Ex.new (o := .lst [.int 1]) hr
    walk_at "rk"
    refine x_ixT (sqT (e1 _ _ hps)) (v := V.ref a) rfl ?_
    walk_at "rk"
    refine ⟨_, rfl, a, sd.left, rfl, e1 _ _ ha, by omega, fun H2 r2 e2 hn2 hd2 => ?_⟩
    have e12 := e1.trans e2
    refine x_cat (e2 _ _ upd_same) hd2 (sz_of (by rw [List.length_map, List.length_singleton]; show 1 + (sd.left.length + 1) ≤ _; omega)) fun r3 hr3 => ?_
    have e3 := e12.add (o := .lst ([V.int 1] ++ (VametBase.listedInts sd.left).map V.int)) hr3
    walk_at "rk"
    refine x_ixT (sqT (e3 _ _ hps)) (v := V.ref b) rfl ?_
    walk_at "rk"
    refine ⟨_, rfl, b, sd.right, rfl, e3 _ _ hb, by omega, fun H4 r4 e4 hn4 hd4 => ?_⟩
    refine x_cat (e4 _ _ upd_same) hd4 (sz_of (by simp only [VametBase.listedInts, List.length_append, List.length_map, List.length_cons, List.length_nil]; omega)) fun r5 hr5 => ?_
    refine hq _ r5 ((e3.trans e4).add hr5) ((e3.trans e4).back hr5) ?_
    rw [upd_same]
    show some (HO.lst (([V.int 1] ++ (VametBase.listedInts sd.left).map V.int) ++ (VametBase.listedInts sd.right).map V.int)) = some (HO.lst ((1 :: (VametBase.listedInts sd.left ++ VametBase.listedInts sd.right)).map V.int))
    rw [List.map_cons, List.map_append]
    rfl

/-! ### numbered -/
def sp_numbered (K : PySem.W.Frag) : Sp := Sp2 fun a b H Q E => ∃ (k : Addr) (s : Vameta.State) (n : Int), a = .ref k ∧ b = .int n ∧ KpAt K H k s ∧ ((n < 0 ∨ (VametBase.inputCount s.bound : Int) ≤ n) → RefE K H E (0 - 3)) ∧
  (¬ (n < 0 ∨ (VametBase.inputCount s.bound : Int) ≤ n) → RetL H ((VametBase.inputAt s.bound n.toNat).map V.int) Q)
theorem count_eq {b : VametBase.Bound} (h : VametBase.okBound b = true) : VametBase.inputCount b = Mi.cnt (VametBase.width b) b.long := by
  obtain ⟨h8, h1, h2, h3, hc⟩ := okBound_iff h
  have hw := Mi.width_eq h2
  have := Mi.countTo_eq (w := VametBase.width b) (by omega) b.long
  unfold VametBase.inputCount at hc ⊢
  omega
theorem ok_numbered (T : Txt K mg) (c_require : CalX P w K mg base 3 "require" (sp_require K)) (c_many_inputs : Cal0 P w K mg base 1 "many_inputs" (sp_many_inputs K)) (c_input_of : Cal0 P w K mg base 1 "input_of" (sp_input_of K)) :
    CalX P w K mg base 4 "numbered" (sp_numbered K) := by
  refine T.d_numbered.okX (k := 3) sc_numbered Sp2.len (fun f cdv A outer s H vs Q E hr h => ⟨_, (pss_cons (ps_expr (pe_cX c_require hr (by decide) passD (pa_cons (pe_chain op_le op_lt pe_int (pv 1) (pe_c0 c_many_inputs hr (by decide) (pa_cons (pe_fld (pv 0) rfl) pa_nil))) (pa_cons (pe_op op_sub pe_int pe_int) pa_nil))))
      (pss_one (ps_ret (pe_c0 c_input_of hr (by decide) (pa_cons (pe_fld (pv 0) rfl) (pa_cons (pv 1) pa_nil)))))), ?_⟩)
  obtain ⟨_, _, rfl, k, s, n, rfl, rfl, ⟨⟨dx, tv, bp, h1, h2, h3⟩, ok⟩, hE, hq⟩ := h
  obtain ⟨g8, g1, g2, g3, gc⟩ := okBound_iff ok
  try dsimp only [cxOf]
  walk_at "rk"
  refine x_ite (fun c => ?_) (fun c => ?_)
  · walk_at "rk"
    refine ⟨_, _, _, _, _, rfl, h1, T.cl_Keeper, T.na_Keeper_bound, rfl, ?_⟩
    walk_at "rk"
    refine ⟨_, rfl, s.bound, ⟨bp, rfl, Or.inr (sqT h3), g8, g1, g2, g3⟩, fun H1 e1 => ?_⟩
    rw [← count_eq ok]
    walk_at "rk"
    refine ⟨_, _, rfl, _, _, rfl, rfl, fun c2 => ?_, fun c2 => ?_⟩
    · have c2 := of_decide_eq_true c2
      walk_at "rk"
      refine ⟨_, _, _, _, _, rfl, e1 _ _ h1, T.cl_Keeper, T.na_Keeper_bound, rfl, ?_⟩
      walk_at "rk"
      refine ⟨_, _, rfl, s.bound, bp, n.toNat, rfl, sqT (e1 _ _ h3), by rw [show ((n.toNat : Nat) : Int) = n by omega], ok, by omega, fun H2 p2 e2 hn2 hd2 => ?_⟩
      exact hq (by omega) H2 p2 (e1.trans e2) (e1.back hn2) hd2
    · have c2 := of_decide_eq_false c2
      exact RefE.ex e1 (hE (by omega))
  · walk_at "rk"
    exact ⟨_, _, rfl, _, _, rfl, rfl, (fun z => nomatch z), fun _ => hE (by omega)⟩
end
end RR
/-! part P17 -/
/-! The deeds. -/
namespace RR
open PySem PySem.Spec PyProof.Rows L2
local macro_rules | `(tactic| walk_at "rd1") => `(tactic| (first
  | with_reducible refine x_seq ?_
  | with_reducible refine x_next ?_
  | with_reducible refine x_asg ?_
  | with_reducible refine x_name ?_
  | with_reducible refine x_ret ?_
  | with_reducible refine x_retN ?_
  | with_reducible refine x_drop ?_
  | with_reducible refine x_if ?_
  | ((with_reducible apply x_var); exact rfl)
  | ((with_reducible apply x_aug1); exact rfl)
  | with_reducible refine x_c ?_
  | with_reducible refine x_op ?_
  | with_reducible refine x_I0 ?_
  | with_reducible refine x_un ?_
  | with_reducible refine x_U ?_
  | with_reducible refine x_eqI ?_
  | with_reducible refine x_eqS ?_
  | with_reducible refine x_neI ?_
  | with_reducible refine x_test ?_
  | with_reducible refine x_tB ?_
  | with_reducible refine x_bl ?_
  | with_reducible refine x_and ?_
  | with_reducible refine x_or ?_
  | with_reducible refine x_not ?_
  | with_reducible refine x_andV ?_
  | with_reducible refine x_orV ?_
  | with_reducible refine x_notV ?_
  | with_reducible refine x_tIf ?_
  | with_reducible refine x_chain ?_
  | with_reducible refine x_cons ?_
  | with_reducible refine x_nil ?_
  | with_reducible refine x_tup ?_
  | with_reducible refine x_lst ?_
  | with_reducible refine x_tupF ?_
  | with_reducible refine x_cb ?_
  | with_reducible refine x_call ?_
  | with_reducible refine x_callS ?_
  | with_reducible refine x_meth ?_
  | with_reducible refine x_methS ?_
  | with_reducible refine x_make ?_
  | with_reducible refine x_ost ?_
  | with_reducible refine x_mkO ?_
  | with_reducible refine x_sFld ?_
  | with_reducible refine x_sFldAug ?_
  | with_reducible refine x_m1 ?_
  | with_reducible refine x_fld ?_
  | with_reducible refine x_bm ?_
  | with_reducible refine x_bmU ?_
  | with_reducible refine x_sl ?_
  | with_reducible refine x_part ?_
  | with_reducible refine x_noPart ?_
  | with_reducible refine x_revL ?_
  | with_reducible refine x_sz0 ?_
  | with_reducible refine x_sz1 ?_
  | with_reducible refine x_sz2 ?_
  | with_reducible refine x_sz3 ?_
  | with_reducible refine x_sz4 ?_
  | with_reducible refine x_sz5 ?_))
local macro_rules | `(tactic| walk_at "rd") => `(tactic| repeat walk_at "rd1")
local macro_rules | `(tactic| walk_at "rk") => `(tactic| repeat (first | walk_at "rd1" | with_reducible refine x_iteT (by decide) ?_ | with_reducible refine x_iteF (by decide) ?_))
/-- what a deed does: it answers a list, or refuses by the one number -/
def DeedEnd (K : PySem.W.Frag) (k : Addr) (H : Hp) (s : Vameta.State) (c : Vameta.Call) (Q : VK) (E : XK) : Prop := ∀ H', ExB k H H' → KpAt K H' k (Vameta.step s c).1 →
  (∀ p, H p = none → H' p = some (.lst ((Vameta.step s c).2.map V.int)) → Q (.ref p) H') ∧ (∀ n d, (Vameta.step s c).2 = [n] → H' d = some (.xd [("code", .int n)]) → E (.ref (He.ga K "Refused")) (some d) H')
theorem DeedEnd.ret {K : PySem.W.Frag} {k : Addr} {H : Hp} {s : Vameta.State} {c : Vameta.Call} {Q : VK} {E : XK} (h : DeedEnd K k H s c Q E) (hk : KpAt K H k s) {ans : List Int} (e : Vameta.step s c = (s, ans)) : RetL H (ans.map V.int) Q := by
  intro H' p ex hn hd
  refine (h H' ex.b ?_).1 p hn ?_
  · rw [e]
    exact hk.e ex
  · rw [e]
    exact hd
theorem DeedEnd.no {K : PySem.W.Frag} {k : Addr} {H : Hp} {s : Vameta.State} {c : Vameta.Call} {Q : VK} {E : XK} (h : DeedEnd K k H s c Q E) (hk : KpAt K H k s) {n : Int} (e : Vameta.step s c = (s, [n])) : RefE K H E n := by
  intro H' d ex hd
  refine (h H' ex.b ?_).2 n d ?_ hd
  · rw [e]
    exact hk.e ex
  · rw [e]
def NumsAt (H : Hp) (b : V) (ns : List Int) : Prop := ∃ p, b = .ref p ∧ H p = some (.lst (ns.map V.int))
def RowsAt (H : Hp) (c : V) (l : List Int) : Prop := ∃ p q, c = .ref p ∧ H p = some (.lst [.ref q]) ∧ Rw H q l ∧ l.length ≤ 20
/-! ### the specification's steps -/
section
variable {s : Vameta.State} {x : Vameta.Source}
theorem look_none {f : Vameta.Source → Vameta.Answer} (h : s.source = none) : Vameta.look s f = (s, [0 - 8]) := by
  unfold Vameta.look Vameta.onSource
  rw [h]
  rfl
theorem look_some {f : Vameta.Source → Vameta.Answer} (h : s.source = some x) : Vameta.look s f = (s, f x) := by
  unfold Vameta.look Vameta.onSource
  rw [h]
theorem rel_none {f : Vameta.Source → VametBase.Relation → Vameta.Answer} {i : Int} (h : s.source = some x) (hr : relAt x i = none) : Vameta.onRelation s i f = (s, [0 - 2]) := by
  unfold Vameta.onRelation
  rw [look_some h]
  unfold relAt at hr
  rw [hr]
  rfl
theorem rel_some {f : Vameta.Source → VametBase.Relation → Vameta.Answer} {i : Int} {r : VametBase.Relation} (h : s.source = some x) (hr : relAt x i = some r) : Vameta.onRelation s i f = (s, f x r) := by
  unfold Vameta.onRelation
  rw [look_some h]
  unfold relAt at hr
  rw [hr]
theorem row_none {f : VametBase.Row → Vameta.Answer} {l : List Int} (h : VametBase.whole VametBase.readRow l = none) : Vameta.onRow l f = [0 - 5] := by
  unfold Vameta.onRow
  rw [h]
  rfl
theorem row_some {f : VametBase.Row → Vameta.Answer} {l r : List Int} (h : VametBase.whole VametBase.readRow l = some r) : Vameta.onRow l f = f r := by
  unfold Vameta.onRow
  rw [h]
end
section
variable {P : Program} {w : World} {K : PySem.W.Frag} {mg : Str → Option Value} {base : Heap}
theorem SidesAt.ex {H H' : Hp} (e : Ex H H') {v : V} : ∀ {o : Option VametBase.Sides}, SidesAt H v o → SidesAt H' v o
  | none, h => h
  | some sd, ⟨a1, a2, a3, b1, b2, b3, b4, b5, b6⟩ => ⟨a1, a2, a3, b1, e _ _ b2, e _ _ b3, e _ _ b4, b5, b6⟩
/-- the keeper's text, read -/
theorem KpAt.text {H : Hp} {k : Addr} {s : Vameta.State} {x : Vameta.Source} (h : KpAt K H k s) (hx : s.source = some x) : ∃ dx tv bp, H k = some (.ins (He.ga K "Keeper") dx [("text", tv), ("bound", .ref bp)]) ∧ TextAt H tv x := by
  obtain ⟨⟨dx, tv, bp, h1, h2, h3⟩, ok⟩ := h
  rw [hx] at h2
  exact ⟨dx, tv, bp, h1, h2⟩
/-! ### shown -/
def sp_shown (K : PySem.W.Frag) : Sp := Sp3 fun a b c H Q E => ∃ (k : Addr) (s : Vameta.State), a = .ref k ∧ KpAt K H k s ∧ DeedEnd K k H s .shown Q E
theorem ok_shown (T : Txt K mg) (c_require_text : CalX P w K mg base 4 "require_text" (sp_require_text K)) (c_text_bytes : Cal0 P w K mg base 4 "text_bytes" (sp_text_bytes K)) (c_as_numbers : Cal0 P w K mg base 1 "as_numbers" sp_as_numbers) :
    CalX P w K mg base 5 "shown" (sp_shown K) := by
  refine T.d_shown.okX (k := 4) sc_shown Sp3.len (fun f cdv A outer s H vs Q E hr h => ⟨_, (pss_cons (ps_expr (pe_cX c_require_text hr (by decide) passD (pa_cons (pv 0) pa_nil)))
      (pss_one (ps_ret (pe_c0 c_as_numbers hr (by decide) (pa_cons (pe_c0 c_text_bytes hr (by decide) (pa_cons (pe_fld (pv 0) rfl) pa_nil)) pa_nil))))), ?_⟩)
  obtain ⟨_, _, _, rfl, k, s, rfl, hk, hq⟩ := h
  try dsimp only [cxOf]
  walk_at "rk"
  refine ⟨_, rfl, k, s, rfl, hk, fun x hx => ?_, fun hn => hq.no hk (look_none hn)⟩
  obtain ⟨dx, tv, bp, h1, ht⟩ := hk.text hx
  have hq := hq.ret hk (look_some hx)
  walk_at "rk"
  refine ⟨_, _, _, _, _, rfl, h1, T.cl_Keeper, T.na_Keeper_text, rfl, ?_⟩
  walk_at "rk"
  refine ⟨_, rfl, x, ht, fun H1 p1 e1 hn1 hd1 => ?_⟩
  walk_at "rk"
  have hro := rows_ok ht
  have hfl := flat_len (rs := Ms.rowsOf x) fun t h => (hro.1 t h).2
  rw [← Ms.source_rows] at hfl
  refine ⟨_, rfl, p1, (Vameta.sourceText x).map fun (n : Nat) => (n : Int), rfl, ?_, ?_, fun H2 p2 e2 hn2 hd2 => ?_⟩
  · unfold Rw
    rw [hd1, List.map_map]
    rfl
  · rw [List.length_map]
    have := hro.2
    omega
  · refine hq H2 p2 (e1.trans e2) (e1.back hn2) ?_
    rw [hd2]
    unfold VametBase.listedInts VametBase.listed
    rw [List.length_map]
    rfl

/-! ### run -/
def sp_run (K : PySem.W.Frag) : Sp := Sp3 fun a b c H Q E => ∃ (k : Addr) (s : Vameta.State) (l : List Int), a = .ref k ∧ KpAt K H k s ∧ RowsAt H c l ∧ DeedEnd K k H s (.run l) Q E
theorem ok_run (T : Txt K mg) (c_require_text : CalX P w K mg base 4 "require_text" (sp_require_text K)) (c_row_of : CalX P w K mg base 4 "row_of" (sp_row_of K)) (c_outcome : Cal0 P w K mg base 5 "outcome" sp_outcome) :
    CalX P w K mg base 6 "run" (sp_run K) := by
  refine T.d_run.okX (k := 5) sc_run Sp3.len (fun f cdv A outer s H vs Q E hr h => ⟨_, (pss_cons (ps_expr (pe_cX c_require_text hr (by decide) passD (pa_cons (pv 0) pa_nil)))
      (pss_one (ps_ret (pe_c0 c_outcome hr (by decide) (pa_cons (pe_ix ix_tup (pe_fld (pv 0) rfl) pe_int (fun _ _ => rfl)) (pa_cons (pe_cX c_row_of hr (by decide) passD (pa_cons (pe_ix ix_list (pv 2) pe_int (fun _ _ => rfl)) pa_nil)) pa_nil)))))), ?_⟩)
  obtain ⟨_, _, _, rfl, k, s, l, rfl, hk, ⟨rp, q, rfl, hrp, hl, hlz⟩, hq⟩ := h
  try dsimp only [cxOf]
  walk_at "rk"
  refine ⟨_, rfl, k, s, rfl, hk, fun x hx => ?_, fun hn => hq.no hk (look_none hn)⟩
  obtain ⟨dx, tv, bp, h1, ht⟩ := hk.text hx
  obtain ⟨pt, fv, qr, rvs, rfl, hpt, hf, _⟩ := ht
  walk_at "rk"
  refine ⟨_, _, _, _, _, rfl, h1, T.cl_Keeper, T.na_Keeper_text, rfl, ?_⟩
  walk_at "rk"
  refine x_ixT (sqT hpt) (v := fv) rfl ?_
  walk_at "rk"
  refine x_ixL (sqL hrp) (v := V.ref q) rfl ?_
  walk_at "rk"
  refine ⟨_, rfl, q, l, rfl, hl, by omega, fun hn => hq.no hk ((look_some hx).trans (by rw [row_none hn])), fun r hr2 H1 p1 e1 hn1 hd1 => ?_⟩
  walk_at "rk"
  refine ⟨_, _, rfl, p1, r, x.program, rfl, hf.ex e1, hd1, (Mo.row_small hr2).2.2, fun H2 p2 e2 hn2 hd2 => ?_⟩
  exact hq.ret hk ((look_some hx).trans (by rw [row_some hr2])) H2 p2 (e1.trans e2) (e1.back hn2) hd2

/-! ### turned -/
def sp_turned (K : PySem.W.Frag) : Sp := Sp3 fun a b c H Q E => ∃ (k : Addr) (s : Vameta.State) (i : Int) (l : List Int), a = .ref k ∧ KpAt K H k s ∧ NumsAt H b [i] ∧ RowsAt H c l ∧ DeedEnd K k H s (.turned i l) Q E
theorem ok_turned (T : Txt K mg) (c_relation_of : CalX P w K mg base 5 "relation_of" (sp_relation_of K)) (c_row_of : CalX P w K mg base 4 "row_of" (sp_row_of K)) (c_outcome : Cal0 P w K mg base 5 "outcome" sp_outcome) :
    CalX P w K mg base 6 "turned" (sp_turned K) := by
  refine T.d_turned.okX (k := 5) sc_turned Sp3.len (fun f cdv A outer s H vs Q E hr h => ⟨_, (pss_cons (ps_set (i := 3) sc_turned.nd rfl (Or.inl rfl) (pe_cX c_relation_of hr (by decide) passD (pa_cons (pv 0) (pa_cons (pe_ix ix_list (pv 1) pe_int (fun _ _ => rfl)) pa_nil))))
      (pss_one (ps_ret (pe_c0 c_outcome hr (by decide) (pa_cons (pe_ix ix_tup (pv 3) pe_int (fun _ _ => rfl)) (pa_cons (pe_cX c_row_of hr (by decide) passD (pa_cons (pe_ix ix_list (pv 2) pe_int (fun _ _ => rfl)) pa_nil)) pa_nil)))))), ?_⟩)
  obtain ⟨_, _, _, rfl, k, s, i, l, rfl, hk, ⟨np, rfl, hnp⟩, ⟨rp, q, rfl, hrp, hl, hlz⟩, hq⟩ := h
  try dsimp only [cxOf]
  walk_at "rk"
  refine x_ixL (sqL hnp) (v := V.int i) rfl ?_
  walk_at "rk"
  refine ⟨_, _, rfl, k, s, i, rfl, rfl, hk, fun hn => hq.no hk (look_none hn), fun x hx hn => hq.no hk (rel_none hx hn), fun x r v hx hrx hrv => ?_⟩
  obtain ⟨pr, cv, iv, ov, rfl, hpr, hcv, hiv, hov⟩ := hrv
  walk_at "rk"
  refine x_ixT (sqT hpr) (v := iv) rfl ?_
  walk_at "rk"
  refine x_ixL (sqL hrp) (v := V.ref q) rfl ?_
  walk_at "rk"
  refine ⟨_, rfl, q, l, rfl, hl, by omega, fun hn => hq.no hk ((rel_some hx hrx).trans (by rw [row_none hn])), fun r2 hr2 H1 p1 e1 hn1 hd1 => ?_⟩
  walk_at "rk"
  refine ⟨_, _, rfl, p1, r2, r.input, rfl, hiv.ex e1, hd1, (Mo.row_small hr2).2.2, fun H2 p2 e2 hn2 hd2 => ?_⟩
  exact hq.ret hk ((rel_some hx hrx).trans (by rw [row_some hr2])) H2 p2 (e1.trans e2) (e1.back hn2) hd2

/-! ### sides -/
def sp_sides (K : PySem.W.Frag) : Sp := Sp3 fun a b c H Q E => ∃ (k : Addr) (s : Vameta.State) (i : Int) (l : List Int), a = .ref k ∧ KpAt K H k s ∧ NumsAt H b [i] ∧ RowsAt H c l ∧ DeedEnd K k H s (.sides i l) Q E
theorem ok_sides (T : Txt K mg) (c_relation_of : CalX P w K mg base 5 "relation_of" (sp_relation_of K)) (c_row_of : CalX P w K mg base 4 "row_of" (sp_row_of K)) (c_sides_at : Cal0 P w K mg base 5 "sides_at" sp_sides_at) (c_sides_numbers : Cal0 P w K mg base 2 "sides_numbers" sp_sides_numbers) :
    CalX P w K mg base 6 "sides" (sp_sides K) := by
  refine T.d_sides.okX (k := 5) sc_sides Sp3.len (fun f cdv A outer s H vs Q E hr h => ⟨_, (pss_cons (ps_set (i := 3) sc_sides.nd rfl (Or.inl rfl) (pe_cX c_relation_of hr (by decide) passD (pa_cons (pv 0) (pa_cons (pe_ix ix_list (pv 1) pe_int (fun _ _ => rfl)) pa_nil))))
      (pss_one (ps_ret (pe_c0 c_sides_numbers hr (by decide) (pa_cons (pe_c0 c_sides_at hr (by decide) (pa_cons (pe_ix ix_tup (pe_fld (pv 0) rfl) pe_int (fun _ _ => rfl)) (pa_cons (pv 3) (pa_cons (pe_cX c_row_of hr (by decide) passD (pa_cons (pe_ix ix_list (pv 2) pe_int (fun _ _ => rfl)) pa_nil)) pa_nil)))) pa_nil))))), ?_⟩)
  obtain ⟨_, _, _, rfl, k, s, i, l, rfl, hk, ⟨np, rfl, hnp⟩, ⟨rp, q, rfl, hrp, hl, hlz⟩, hq⟩ := h
  try dsimp only [cxOf]
  walk_at "rk"
  refine x_ixL (sqL hnp) (v := V.int i) rfl ?_
  walk_at "rk"
  refine ⟨_, _, rfl, k, s, i, rfl, rfl, hk, fun hn => hq.no hk (look_none hn), fun x hx hn => hq.no hk (rel_none hx hn), fun x r v hx hrx hrv => ?_⟩
  obtain ⟨dx, tv, bp, h1, ht⟩ := hk.text hx
  obtain ⟨pt, fv, qr, rvs, rfl, hpt, hf, _⟩ := ht
  walk_at "rk"
  refine ⟨_, _, _, _, _, rfl, h1, T.cl_Keeper, T.na_Keeper_text, rfl, ?_⟩
  walk_at "rk"
  refine x_ixT (sqT hpt) (v := fv) rfl ?_
  walk_at "rk"
  refine x_ixL (sqL hrp) (v := V.ref q) rfl ?_
  walk_at "rk"
  refine ⟨_, rfl, q, l, rfl, hl, by omega, fun hn => hq.no hk ((rel_some hx hrx).trans (by rw [row_none hn])), fun r2 hr2 H1 p1 e1 hn1 hd1 => ?_⟩
  walk_at "rk"
  refine ⟨_, _, _, rfl, p1, r2, x.program, r, rfl, hf.ex e1, hrv.ex e1, hd1, (Mo.row_small hr2).2.2, fun H2 v2 e2 hs2 => ?_⟩
  walk_at "rk"
  refine ⟨_, rfl, _, hs2, fun H3 p3 e3 hn3 hd3 => ?_⟩
  exact hq.ret hk ((rel_some hx hrx).trans (by rw [row_some hr2, Mo.sides_told])) H3 p3 ((e1.trans e2).trans e3) ((e1.trans e2).back hn3) hd3

/-! ### verdict -/
def sp_verdict (K : PySem.W.Frag) : Sp := Sp3 fun a b c H Q E => ∃ (k : Addr) (s : Vameta.State) (i : Int) (l : List Int), a = .ref k ∧ KpAt K H k s ∧ NumsAt H b [i] ∧ RowsAt H c l ∧ DeedEnd K k H s (.verdict i l) Q E
theorem ok_verdict (T : Txt K mg) (c_relation_of : CalX P w K mg base 5 "relation_of" (sp_relation_of K)) (c_row_of : CalX P w K mg base 4 "row_of" (sp_row_of K)) (c_sides_at : Cal0 P w K mg base 5 "sides_at" sp_sides_at) (c_verdict_of : Cal0 P w K mg base 2 "verdict_of" sp_verdict_of) :
    CalX P w K mg base 6 "verdict" (sp_verdict K) := by
  refine T.d_verdict.okX (k := 5) sc_verdict Sp3.len (fun f cdv A outer s H vs Q E hr h => ⟨_, (pss_cons (ps_set (i := 3) sc_verdict.nd rfl (Or.inl rfl) (pe_cX c_relation_of hr (by decide) passD (pa_cons (pv 0) (pa_cons (pe_ix ix_list (pv 1) pe_int (fun _ _ => rfl)) pa_nil))))
      (pss_one (ps_ret (pe_lst (pa_cons (pe_c0 c_verdict_of hr (by decide) (pa_cons (pv 3) (pa_cons (pe_c0 c_sides_at hr (by decide) (pa_cons (pe_ix ix_tup (pe_fld (pv 0) rfl) pe_int (fun _ _ => rfl)) (pa_cons (pv 3) (pa_cons (pe_cX c_row_of hr (by decide) passD (pa_cons (pe_ix ix_list (pv 2) pe_int (fun _ _ => rfl)) pa_nil)) pa_nil)))) pa_nil))) pa_nil))))), ?_⟩)
  obtain ⟨_, _, _, rfl, k, s, i, l, rfl, hk, ⟨np, rfl, hnp⟩, ⟨rp, q, rfl, hrp, hl, hlz⟩, hq⟩ := h
  try dsimp only [cxOf]
  walk_at "rk"
  refine x_ixL (sqL hnp) (v := V.int i) rfl ?_
  walk_at "rk"
  refine ⟨_, _, rfl, k, s, i, rfl, rfl, hk, fun hn => hq.no hk (look_none hn), fun x hx hn => hq.no hk (rel_none hx hn), fun x r v hx hrx hrv => ?_⟩
  obtain ⟨dx, tv, bp, h1, ht⟩ := hk.text hx
  obtain ⟨pt, fv, qr, rvs, rfl, hpt, hf, _⟩ := ht
  walk_at "rk"
  refine ⟨_, _, _, _, _, rfl, h1, T.cl_Keeper, T.na_Keeper_text, rfl, ?_⟩
  walk_at "rk"
  refine x_ixT (sqT hpt) (v := fv) rfl ?_
  walk_at "rk"
  refine x_ixL (sqL hrp) (v := V.ref q) rfl ?_
  walk_at "rk"
  refine ⟨_, rfl, q, l, rfl, hl, by omega, fun hn => hq.no hk ((rel_some hx hrx).trans (by rw [row_none hn])), fun r2 hr2 H1 p1 e1 hn1 hd1 => ?_⟩
  walk_at "rk"
  refine ⟨_, _, _, rfl, p1, r2, x.program, r, rfl, hf.ex e1, hrv.ex e1, hd1, (Mo.row_small hr2).2.2, fun H2 v2 e2 hs2 => ?_⟩
  walk_at "rk"
  refine ⟨_, _, rfl, r, _, hrv.ex (e1.trans e2), hs2, fun H3 e3 => ?_⟩
  walk_at "rk"
  intro p3 hp3
  have e13 := (e1.trans e2).trans e3
  refine hq.ret hk ((rel_some hx hrx).trans (by rw [row_some hr2, verdict_eq])) _ p3 (e13.add hp3) (e13.back hp3) ?_
  rw [upd_same]
  rfl

/-! ### one_input -/
def sp_one_input (K : PySem.W.Frag) : Sp := Sp3 fun a b c H Q E => ∃ (k : Addr) (s : Vameta.State) (i : Int), a = .ref k ∧ KpAt K H k s ∧ NumsAt H b [i] ∧ DeedEnd K k H s (.input i) Q E
theorem ok_one_input (T : Txt K mg) (c_numbered : CalX P w K mg base 4 "numbered" (sp_numbered K)) (c_as_numbers : Cal0 P w K mg base 1 "as_numbers" sp_as_numbers) :
    CalX P w K mg base 5 "one_input" (sp_one_input K) := by
  refine T.d_one_input.okX (k := 4) sc_one_input Sp3.len (fun f cdv A outer s H vs Q E hr h => ⟨_, (pss_one (ps_ret (pe_c0 c_as_numbers hr (by decide) (pa_cons (pe_cX c_numbered hr (by decide) passD (pa_cons (pv 0) (pa_cons (pe_ix ix_list (pv 1) pe_int (fun _ _ => rfl)) pa_nil))) pa_nil)))), ?_⟩)
  obtain ⟨_, _, _, rfl, k, s, i, rfl, hk, ⟨np, rfl, hnp⟩, hq⟩ := h
  have hok := okBound_iff hk.ok
  try dsimp only [cxOf]
  walk_at "rk"
  refine x_ixL (sqL hnp) (v := V.int i) rfl ?_
  walk_at "rk"
  have hst : Vameta.step s (.input i) = (s, if i < 0 ∨ (VametBase.inputCount s.bound : Int) ≤ i then [0 - 3] else VametBase.listedInts (VametBase.inputAt s.bound i.toNat)) := rfl
  refine ⟨_, _, rfl, k, s, i, rfl, rfl, hk, fun c => hq.no hk (by rw [hst, if_pos c]), fun c H1 p1 e1 hn1 hd1 => ?_⟩
  rw [if_neg c] at hst
  walk_at "rk"
  have hln := Mi.input_len s.bound i.toNat
  refine ⟨_, rfl, p1, _, rfl, hd1, by omega, fun H2 p2 e2 hn2 hd2 => ?_⟩
  exact hq.ret hk hst H2 p2 (e1.trans e2) (e1.back hn2) hd2

/-! ### at_input -/
def sp_at_input (K : PySem.W.Frag) : Sp := Sp3 fun a b c H Q E => ∃ (k : Addr) (s : Vameta.State) (i n : Int), a = .ref k ∧ KpAt K H k s ∧ NumsAt H b [i, n] ∧ DeedEnd K k H s (.at_ i n) Q E
theorem ok_at_input (T : Txt K mg) (c_relation_of : CalX P w K mg base 5 "relation_of" (sp_relation_of K)) (c_numbered : CalX P w K mg base 4 "numbered" (sp_numbered K)) (c_sides_at : Cal0 P w K mg base 5 "sides_at" sp_sides_at) (c_verdict_of : Cal0 P w K mg base 2 "verdict_of" sp_verdict_of) (c_sides_numbers : Cal0 P w K mg base 2 "sides_numbers" sp_sides_numbers) :
    CalX P w K mg base 6 "at_input" (sp_at_input K) := by
  refine T.d_at_input.okX (k := 5) sc_at_input Sp3.len (fun f cdv A outer s H vs Q E hr h => ⟨_, (pss_cons (ps_set (i := 3) sc_at_input.nd rfl (Or.inl rfl) (pe_cX c_relation_of hr (by decide) passD (pa_cons (pv 0) (pa_cons (pe_ix ix_list (pv 1) pe_int (fun _ _ => rfl)) pa_nil))))
      (pss_cons (ps_set (i := 4) sc_at_input.nd rfl (Or.inl rfl) (pe_c0 c_sides_at hr (by decide) (pa_cons (pe_ix ix_tup (pe_fld (pv 0) rfl) pe_int (fun _ _ => rfl)) (pa_cons (pv 3) (pa_cons (pe_cX c_numbered hr (by decide) passD (pa_cons (pv 0) (pa_cons (pe_ix ix_list (pv 1) pe_int (fun _ _ => rfl)) pa_nil))) pa_nil)))))
      (pss_one (ps_ret (pe_op op_cat (pe_lst (pa_cons (pe_c0 c_verdict_of hr (by decide) (pa_cons (pv 3) (pa_cons (pv 4) pa_nil))) pa_nil)) (pe_c0 c_sides_numbers hr (by decide) (pa_cons (pv 4) pa_nil))))))), ?_⟩)
  obtain ⟨_, _, _, rfl, k, s, i, n, rfl, hk, ⟨np, rfl, hnp⟩, hq⟩ := h
  have hok := okBound_iff hk.ok
  try dsimp only [cxOf]
  walk_at "rk"
  refine x_ixL (sqL hnp) (v := V.int i) rfl ?_
  walk_at "rk"
  refine ⟨_, _, rfl, k, s, i, rfl, rfl, hk, fun hn => hq.no hk (look_none hn), fun x hx hn => hq.no hk (rel_none hx hn), fun x r v hx hrx hrv => ?_⟩
  obtain ⟨dx, tv, bp, h1, ht⟩ := hk.text hx
  obtain ⟨pt, fv, qr, rvs, rfl, hpt, hf, _⟩ := ht
  have hst : Vameta.step s (.at_ i n) = (s, if n < 0 ∨ (VametBase.inputCount s.bound : Int) ≤ n then [0 - 3] else VametBase.verdictNumber (VametBase.verdict x.program r (VametBase.inputAt s.bound n.toNat)) :: Vameta.sidesTold x.program r (VametBase.inputAt s.bound n.toNat)) := rel_some hx hrx
  walk_at "rk"
  refine ⟨_, _, _, _, _, rfl, h1, T.cl_Keeper, T.na_Keeper_text, rfl, ?_⟩
  walk_at "rk"
  refine x_ixT (sqT hpt) (v := fv) rfl ?_
  walk_at "rk"
  refine x_ixL (sqL hnp) (v := V.int n) rfl ?_
  walk_at "rk"
  refine ⟨_, _, rfl, k, s, n, rfl, rfl, hk, fun c => hq.no hk (by rw [hst, if_pos c]), fun c H1 p1 e1 hn1 hd1 => ?_⟩
  rw [if_neg c] at hst
  walk_at "rk"
  have hln := Mi.input_len s.bound n.toNat
  have hwi : VametBase.within (VametBase.inputAt s.bound n.toNat) = true := Mx.within_iff.mpr ⟨by omega, fun y hy => by
    have := Mi.input_in hok.2.2.1 n.toNat y hy
    omega⟩
  refine ⟨_, _, _, rfl, p1, _, x.program, r, rfl, hf.ex e1, hrv.ex e1, hd1, hwi, fun H2 v2 e2 hs2 => ?_⟩
  walk_at "rk"
  have e12 := e1.trans e2
  refine ⟨_, _, rfl, r, _, hrv.ex e12, hs2, fun H3 e3 => ?_⟩
  walk_at "rk"
  intro p3 hp3
  have f3 := Ex.new (o := .lst [V.int (VametBase.verdictNumber (verdictBy r (VametBase.sides x.program r (VametBase.inputAt s.bound n.toNat))))]) hp3
  have e13 := (e12.trans e3).trans f3
  walk_at "rk"
  have hs3 := SidesAt.ex (e3.trans f3) hs2
  refine ⟨_, rfl, _, hs3, fun H4 p4 e4 hn4 hd4 => ?_⟩
  have hfl : (Mo.sidesFlat (VametBase.sides x.program r (VametBase.inputAt s.bound n.toNat))).length ≤ 100 := by
    cases hsd : VametBase.sides x.program r (VametBase.inputAt s.bound n.toNat) with
    | none => exact Nat.le_of_ble_eq_true rfl
    | some sd =>
      rw [hsd] at hs2
      obtain ⟨a1, a2, a3, b1, b2, b3, b4, b5, b6⟩ := hs2
      have h1 := (Mx.within_iff.mp b5).1
      have h2 := (Mx.within_iff.mp b6).1
      simp only [Mo.sidesFlat, VametBase.listedInts, List.length_append, List.length_cons]
      omega
  refine x_cat (e4 _ _ upd_same) hd4 (sz_of (by rw [List.length_map, List.length_singleton]; omega)) fun p5 hp5 => ?_
  refine hq.ret hk hst _ p5 ((e13.trans e4).add hp5) ((e13.trans e4).back hp5) ?_
  rw [upd_same, verdict_eq, Mo.sides_told]
  rfl
end
end RR
/-! part P18 -/
/-! The other deeds. -/
namespace RR
open PySem PySem.Spec PyProof.Rows L2
local macro_rules | `(tactic| walk_at "rd1") => `(tactic| (first
  | with_reducible refine x_seq ?_
  | with_reducible refine x_next ?_
  | with_reducible refine x_asg ?_
  | with_reducible refine x_name ?_
  | with_reducible refine x_ret ?_
  | with_reducible refine x_retN ?_
  | with_reducible refine x_drop ?_
  | with_reducible refine x_if ?_
  | ((with_reducible apply x_var); exact rfl)
  | ((with_reducible apply x_aug1); exact rfl)
  | with_reducible refine x_c ?_
  | with_reducible refine x_op ?_
  | with_reducible refine x_I0 ?_
  | with_reducible refine x_un ?_
  | with_reducible refine x_U ?_
  | with_reducible refine x_eqI ?_
  | with_reducible refine x_eqS ?_
  | with_reducible refine x_neI ?_
  | with_reducible refine x_test ?_
  | with_reducible refine x_tB ?_
  | with_reducible refine x_bl ?_
  | with_reducible refine x_and ?_
  | with_reducible refine x_or ?_
  | with_reducible refine x_not ?_
  | with_reducible refine x_andV ?_
  | with_reducible refine x_orV ?_
  | with_reducible refine x_notV ?_
  | with_reducible refine x_tIf ?_
  | with_reducible refine x_chain ?_
  | with_reducible refine x_cons ?_
  | with_reducible refine x_nil ?_
  | with_reducible refine x_tup ?_
  | with_reducible refine x_lst ?_
  | with_reducible refine x_tupF ?_
  | with_reducible refine x_cb ?_
  | with_reducible refine x_call ?_
  | with_reducible refine x_callS ?_
  | with_reducible refine x_meth ?_
  | with_reducible refine x_methS ?_
  | with_reducible refine x_make ?_
  | with_reducible refine x_ost ?_
  | with_reducible refine x_mkO ?_
  | with_reducible refine x_sFld ?_
  | with_reducible refine x_sFldAug ?_
  | with_reducible refine x_m1 ?_
  | with_reducible refine x_fld ?_
  | with_reducible refine x_bm ?_
  | with_reducible refine x_bmU ?_
  | with_reducible refine x_sl ?_
  | with_reducible refine x_part ?_
  | with_reducible refine x_noPart ?_
  | with_reducible refine x_revL ?_
  | with_reducible refine x_sz0 ?_
  | with_reducible refine x_sz1 ?_
  | with_reducible refine x_sz2 ?_
  | with_reducible refine x_sz3 ?_
  | with_reducible refine x_sz4 ?_
  | with_reducible refine x_sz5 ?_))
local macro_rules | `(tactic| walk_at "rd") => `(tactic| repeat walk_at "rd1")
local macro_rules | `(tactic| walk_at "rk") => `(tactic| repeat (first | walk_at "rd1" | with_reducible refine x_iteT (by decide) ?_ | with_reducible refine x_iteF (by decide) ?_))
theorem x_catI {H : Hp} {Q : VK} {p q : Addr} {a b : List Int} (h1 : H p = some (.lst (a.map V.int))) (h2 : H q = some (.lst (b.map V.int))) (hl : a.length + b.length ≤ 100000) (k : ∀ l, H l = none → Q (.ref l) (upd H l (.lst ((a ++ b).map V.int)))) : rCat (.ref p) (.ref q) H Q := by
  refine x_cat h1 h2 (sz_of (by rw [List.length_map, List.length_map]; omega)) fun l hl => ?_
  have := k l hl
  rw [List.map_append] at this
  exact this
theorem x_extI {H : Hp} {Q : VK} {l b : Addr} {xs zs : List Int} (h : H l = some (.lst (xs.map V.int))) (h2 : H b = some (.lst (zs.map V.int))) (hl : xs.length + zs.length ≤ 1000000) (q : Q .non (upd H l (.lst ((xs ++ zs).map V.int)))) : rExtend (.ref l) [.ref b] H Q := by
  refine x_extend h h2 (sz_of (by rw [List.length_map, List.length_map]; omega)) ?_
  rw [List.map_append] at q
  exact q
theorem x_chain3 {r r' r'' : R2} {ta tb tc td : TE} {σ : L2.St} {H : Hp} {Q : VK} (h : ta σ H fun x H1 => tb σ H1 fun y H2 => r x y H2 fun z H3 => ∃ k, z = .bl k ∧
  (if k = true then tc σ H3 fun w H4 => r' y w H4 fun z' H5 => ∃ k', z' = .bl k' ∧ (if k' = true then td σ H5 fun v H6 => r'' w v H6 Q else Q (.bl false) H5) else Q (.bl false) H3)) : tChain3 r r' r'' ta tb tc td σ H Q := h
theorem x_xf {a : Addr} {cls : Value} {d : Option Addr} {C : Addr} {f : Str} {te : TE} {σ : L2.St} {H : Hp} {Q : VK} (h : te σ H fun x H1 => x = .ref a ∧ cls = .ref C ∧ ∃ (dd : Addr) (fs : List (Str × V)) (v : V), d = some dd ∧ H1 dd = some (.xd fs) ∧ fs.lookup f = some v ∧ Q v H1) : tXf a cls d C f te σ H Q := h
theorem prog_len {H : Hp} {v : V} {f : VametBase.Program} (h : ProgAt H v f) : (VametBase.flatProgram f).length ≤ 17 := by
  have h8 := h.flat.2
  have := flat_len2 f
  show (f.flatMap VametBase.flatStep).length + 1 ≤ 17
  omega
theorem cond_len (c : VametBase.Cond) : (VametBase.flatCond c).length ≤ 2 := by cases c <;> exact Nat.le_of_ble_eq_true rfl
theorem rel_len {H : Hp} {v : V} {r : VametBase.Relation} (h : RelAt H v r) : (VametBase.flatRelation r).length ≤ 37 := by
  obtain ⟨p, cv, iv, ov, _, _, _, hi, ho⟩ := h
  have h1 := prog_len hi
  have h2 := prog_len ho
  have h3 := cond_len r.cond
  unfold VametBase.flatRelation
  rw [List.length_append, List.length_append, List.length_cons]
  omega
theorem rels_len : ∀ {rs : List VametBase.Relation}, (∀ r ∈ rs, (VametBase.flatRelation r).length ≤ 37) → (rs.flatMap VametBase.flatRelation).length ≤ 37 * rs.length
  | [], _ => Nat.zero_le _
  | r :: rs, h => by
    have h1 := h r List.mem_cons_self
    have h2 := rels_len (rs := rs) fun x hx => h x (List.mem_cons_of_mem _ hx)
    rw [List.flatMap_cons, List.length_append, List.length_cons]
    omega
theorem rows_len2 : ∀ {rs : List (List Int)}, (∀ r ∈ rs, r.length ≤ 40) → (rs.flatMap VametBase.listedInts).length ≤ 41 * rs.length
  | [], _ => Nat.zero_le _
  | r :: rs, h => by
    have h1 := h r List.mem_cons_self
    have h2 := rows_len2 (rs := rs) fun x hx => h x (List.mem_cons_of_mem _ hx)
    rw [List.flatMap_cons, List.length_append, List.length_cons]
    show r.length + 1 + _ ≤ _
    omega
section
variable {P : Program} {w : World} {K : PySem.W.Frag} {mg : Str → Option Value} {base : Heap}
/-! ### told -/
def sp_told (K : PySem.W.Frag) : Sp := Sp3 fun a b c H Q E => ∃ (k : Addr) (s : Vameta.State), a = .ref k ∧ KpAt K H k s ∧ DeedEnd K k H s .told Q E
theorem ok_told (T : Txt K mg) (c_require_text : CalX P w K mg base 4 "require_text" (sp_require_text K)) (c_steps_numbers : Cal0 P w K mg base 1 "steps_numbers" sp_steps_numbers) :
    CalX P w K mg base 5 "told" (sp_told K) := by
  refine T.d_told.okX (k := 4) sc_told Sp3.len (fun f cdv A outer s H vs Q E hr h => ⟨_, (pss_cons (ps_expr (pe_cX c_require_text hr (by decide) passD (pa_cons (pv 0) pa_nil)))
      (pss_cons (ps_set (i := 3) sc_told.nd rfl (Or.inl rfl) (pe_op op_cat (pe_c0 c_steps_numbers hr (by decide) (pa_cons (pe_ix ix_tup (pe_fld (pv 0) rfl) pe_int (fun _ _ => rfl)) pa_nil)) (pe_lst (pa_cons (pe_callB call_len_seq (by rfl) T.bi_len boot_len (pa_cons (pe_ix ix_tup (pe_fld (pv 0) rfl) pe_int (fun _ _ => rfl)) pa_nil)) pa_nil))))
      (pss_cons (ps_for ownD rfl (pi_tup (pe_ix ix_tup (pe_fld (pv 0) rfl) pe_int (fun _ _ => rfl))) (pg_tup rfl (pgs_cons (pg_name (i := 4) sc_told.nd rfl (Or.inl rfl)) (pgs_cons (pg_name (i := 5) sc_told.nd rfl (Or.inl rfl)) (pgs_cons (pg_name (i := 6) sc_told.nd rfl (Or.inl rfl)) (pgs_cons (pg_name (i := 7) sc_told.nd rfl (Or.inl rfl)) pgs_nil))))) (pss_one (ps_expr (pe_bm PySem.F.plainAttrs_list PySem.F.slot_list_extend PySem.F.type_list_extend mt_extend (pv 3) (pa_cons (pe_op op_cat (pe_op op_cat (pe_op op_cat (pe_callTy call_list_of (by rfl) T.bi_list (by decide +kernel) (pa_cons (pv 4) pa_nil)) (pe_c0 c_steps_numbers hr (by decide) (pa_cons (pv 5) pa_nil))) (pe_lst (pa_cons (pv 6) pa_nil))) (pe_c0 c_steps_numbers hr (by decide) (pa_cons (pv 7) pa_nil))) pa_nil)))))
      (pss_one (ps_ret (pv 3)))))), ?_⟩)
  obtain ⟨_, vb, vc, rfl, k, s, rfl, hk, hq⟩ := h
  try dsimp only [cxOf]
  walk_at "rk"
  refine ⟨_, rfl, k, s, rfl, hk, fun x hx => ?_, fun hn => hq.no hk (look_none hn)⟩
  obtain ⟨dx, tv, bp, h1, ht⟩ := hk.text hx
  have hq := hq.ret hk (look_some hx)
  obtain ⟨pt, fv, qr, rvs, rfl, hpt, hf, hqr, hrs, h12⟩ := ht
  have hrl : ∀ r ∈ x.relations, (VametBase.flatRelation r).length ≤ 37 := fun r hr => by
    obtain ⟨v, hv⟩ := hrs.mem hr
    exact rel_len hv
  walk_at "rk"
  refine ⟨_, _, _, _, _, rfl, h1, T.cl_Keeper, T.na_Keeper_text, rfl, ?_⟩
  walk_at "rk"
  refine x_ixT (sqT hpt) (v := fv) rfl ?_
  walk_at "rk"
  refine ⟨_, rfl, x.program, hf, fun H1 p1 e1 hn1 hd1 => ?_⟩
  walk_at "rk"
  refine ⟨_, _, _, _, _, rfl, e1 _ _ h1, T.cl_Keeper, T.na_Keeper_text, rfl, ?_⟩
  walk_at "rk"
  refine x_ixT (sqT (e1 _ _ hpt)) (v := V.ref qr) rfl ?_
  walk_at "rk"
  refine x_len (Or.inr (sqT (e1 _ _ hqr))) ?_
  walk_at "rk"
  rw [hrs.1]
  intro p2 hp2
  have f2 := Ex.new (o := .lst ([(x.relations.length : Int)].map V.int)) hp2
  have hpl := prog_len hf
  refine x_catI (b := [(x.relations.length : Int)]) (f2 _ _ hd1) upd_same (by rw [List.length_singleton]; omega) fun r hr => ?_
  have e2 := (e1.trans f2).add (o := .lst ((VametBase.flatProgram x.program ++ [(x.relations.length : Int)]).map V.int)) hr
  have hr0 := (e1.trans f2).back hr
  walk_at "rk"
  refine x_for (x_iTup ?_)
  walk_at "rk"
  refine ⟨_, _, _, _, _, rfl, e2 _ _ h1, T.cl_Keeper, T.na_Keeper_text, rfl, ?_⟩
  walk_at "rk"
  refine x_ixT (sqT (e2 _ _ hpt)) (v := V.ref qr) rfl ?_
  refine ⟨qr, rfl, ⟨_, sqT (e2 _ _ hqr)⟩, forT_core (xs := rvs) (fun i σ' H' => ∃ v4 v5 v6 v7 : Option V, σ' = [some (.ref k), some vb, some vc, some (.ref r), v4, v5, v6, v7] ∧ Ex H H' ∧ H' r = some (.lst ((VametBase.flatProgram x.program ++ ((x.relations.length : Int) :: (x.relations.take i).flatMap VametBase.flatRelation)).map V.int))) ⟨none, none, none, none, rfl, e2, upd_same⟩ (fun i σ' H' _ ⟨_, _, _, _, _, e', _⟩ => sqT (e' _ _ hqr)) ?_ ?_⟩
  · rintro i y σ' H' hy ⟨v4, v5, v6, v7, rfl, e', hd⟩
    obtain ⟨rl, hrl2, hrx⟩ := hrs.get hy
    have hi8 := (List.getElem?_eq_some_iff.mp hrl2).1
    have hlen := rels_len (rs := x.relations.take i) fun r hr => hrl r (List.mem_of_mem_take hr)
    rw [List.length_take] at hlen
    obtain ⟨pr, cv, iv, ov, rfl, hpr, ⟨pc, rfl, hpc, hcw⟩, hiv, hov⟩ := hrx
    have l1 := cond_len rl.cond
    have l2 := prog_len hiv
    have l3 := prog_len hov
    refine ⟨pr, _, rfl, sqT (e' _ _ hpr), rfl, _, _, rfl, x_name ⟨_, _, rfl, x_name ⟨_, _, rfl, x_name ⟨_, _, rfl, x_name ⟨rfl, ?_⟩⟩⟩⟩⟩
    walk_at "rk"
    refine ⟨x_tyL hd, ?_⟩
    walk_at "rk"
    refine ⟨pc, _, rfl, Or.inr (sqT (e' _ _ hpc)), fun a1 ha1 => ?_⟩
    have g1 := Ex.new (o := .lst ((VametBase.flatCond rl.cond).map V.int)) ha1
    walk_at "rk"
    refine ⟨_, rfl, rl.input, hiv.ex (e'.trans g1), fun H2 a2 e2 hn2 hd2 => ?_⟩
    have g2 := g1.trans e2
    refine x_catI (e2 _ _ upd_same) hd2 (by omega) fun a3 ha3 => ?_
    have g3 := g2.add (o := .lst ((VametBase.flatCond rl.cond ++ VametBase.flatProgram rl.input).map V.int)) ha3
    walk_at "rk"
    intro a4 ha4
    have f4 := Ex.new (o := .lst ([VametBase.relNumber rl.rel].map V.int)) ha4
    have g4 := g3.trans f4
    refine x_catI (b := [VametBase.relNumber rl.rel]) (f4 _ _ upd_same) upd_same (by rw [List.length_append, List.length_singleton]; omega) fun a5 ha5 => ?_
    have g5 := g4.add (o := .lst ((VametBase.flatCond rl.cond ++ VametBase.flatProgram rl.input ++ [VametBase.relNumber rl.rel]).map V.int)) ha5
    walk_at "rk"
    refine ⟨_, rfl, rl.output, hov.ex (e'.trans g5), fun H6 a6 e6 hn6 hd6 => ?_⟩
    have g6 := g5.trans e6
    refine x_catI (e6 _ _ upd_same) hd6 (by rw [List.length_append, List.length_append, List.length_singleton]; omega) fun a7 ha7 => ?_
    have g7 := g6.add (o := .lst ((VametBase.flatCond rl.cond ++ VametBase.flatProgram rl.input ++ [VametBase.relNumber rl.rel] ++ VametBase.flatProgram rl.output).map V.int)) ha7
    walk_at "rk"
    refine x_extI (g7 _ _ hd) upd_same (by simp only [List.length_append, List.length_cons, List.length_nil]; omega) ?_
    refine ⟨_, _, _, _, rfl, (e'.trans g7).mut hr0, ?_⟩
    rw [upd_same, take_more hrl2, List.flatMap_append, List.flatMap_cons, List.flatMap_nil, List.append_nil]
    unfold VametBase.flatRelation
    simp only [List.append_assoc, List.cons_append, List.nil_append]
  · rintro σ' H' ⟨v4, v5, v6, v7, rfl, e', hd⟩
    rw [hrs.1, List.take_length] at hd
    walk_at "rk"
    exact hq H' r e' hr0 hd

/-! ### all_rows -/
def sp_all_rows (K : PySem.W.Frag) : Sp := Sp3 fun a b c H Q E => ∃ (k : Addr) (s : Vameta.State) (l : List Int), a = .ref k ∧ KpAt K H k s ∧ RowsAt H c l ∧ DeedEnd K k H s (.rows l) Q E
theorem ok_all_rows (T : Txt K mg) (c_require_text : CalX P w K mg base 4 "require_text" (sp_require_text K)) (c_row_of : CalX P w K mg base 4 "row_of" (sp_row_of K)) (c_rows_on : Cal0 P w K mg base 4 "rows_on" sp_rows_on) (c_as_numbers : Cal0 P w K mg base 1 "as_numbers" sp_as_numbers) :
    CalX P w K mg base 5 "all_rows" (sp_all_rows K) := by
  refine T.d_all_rows.okX (k := 4) sc_all_rows Sp3.len (fun f cdv A outer s H vs Q E hr h => ⟨_, (pss_cons (ps_expr (pe_cX c_require_text hr (by decide) passD (pa_cons (pv 0) pa_nil)))
      (pss_cons (ps_set (i := 3) sc_all_rows.nd rfl (Or.inl rfl) (pe_c0 c_rows_on hr (by decide) (pa_cons (pe_ix ix_tup (pe_fld (pv 0) rfl) pe_int (fun _ _ => rfl)) (pa_cons (pe_cX c_row_of hr (by decide) passD (pa_cons (pe_ix ix_list (pv 2) pe_int (fun _ _ => rfl)) pa_nil)) pa_nil))))
      (pss_cons (ps_set (i := 4) sc_all_rows.nd rfl (Or.inl rfl) (pe_lst (pa_cons (pe_callB call_len_seq (by rfl) T.bi_len boot_len (pa_cons (pv 3) pa_nil)) pa_nil)))
      (pss_cons (ps_for ownD rfl (pi_list (pv 3)) (pg_name (i := 5) sc_all_rows.nd rfl (Or.inl rfl)) (pss_one (ps_expr (pe_bm PySem.F.plainAttrs_list PySem.F.slot_list_extend PySem.F.type_list_extend mt_extend (pv 4) (pa_cons (pe_c0 c_as_numbers hr (by decide) (pa_cons (pv 5) pa_nil)) pa_nil)))))
      (pss_one (ps_ret (pv 4))))))), ?_⟩)
  obtain ⟨_, vb, _, rfl, k, s, l, rfl, hk, ⟨rp, q, rfl, hrp, hl, hlz⟩, hq⟩ := h
  try dsimp only [cxOf]
  walk_at "rk"
  refine ⟨_, rfl, k, s, rfl, hk, fun x hx => ?_, fun hn => hq.no hk (look_none hn)⟩
  obtain ⟨dx, tv, bp, h1, ht⟩ := hk.text hx
  obtain ⟨pt, fv, qr, rvs, rfl, hpt, hf, _⟩ := ht
  walk_at "rk"
  refine ⟨_, _, _, _, _, rfl, h1, T.cl_Keeper, T.na_Keeper_text, rfl, ?_⟩
  walk_at "rk"
  refine x_ixT (sqT hpt) (v := fv) rfl ?_
  walk_at "rk"
  refine x_ixL (sqL hrp) (v := V.ref q) rfl ?_
  walk_at "rk"
  refine ⟨_, rfl, q, l, rfl, hl, by omega, fun hn => hq.no hk ((look_some hx).trans (by rw [row_none hn])), fun r hr2 H1 p1 e1 hn1 hd1 => ?_⟩
  have hq := hq.ret hk ((look_some hx).trans (by rw [row_some hr2]))
  have hwi := (Mo.row_small hr2).2.2
  have hrw : ∀ y ∈ Vameta.rowsOf x.program r, y.length ≤ 40 := fun y hy => (Mx.within_iff.mp (Mx.rows_within x.program r hwi y hy)).1
  have hrn := Mx.rows_len x.program r
  have h8 := hf.flat.2
  walk_at "rk"
  refine ⟨_, _, rfl, p1, r, x.program, rfl, hf.ex e1, hd1, hwi, fun H2 so ws e2 hn2 hd2 hws => ?_⟩
  have e12 := e1.trans e2
  walk_at "rk"
  refine x_len (Or.inl (sqL hd2)) ?_
  walk_at "rk"
  rw [hws.1]
  intro r3 hr3
  have f3 := Ex.new (o := .lst ([((Vameta.rowsOf x.program r).length : Int)].map V.int)) hr3
  have e3 := e12.trans f3
  have hr0 := e12.back hr3
  walk_at "rk"
  refine x_forL (a := so) (xs := ws) (fun i σ' H' => ∃ v : Option V, σ' = [some (.ref k), some vb, some (.ref rp), some (.ref so), some (.ref r3), v] ∧ Ex H2 H' ∧ H' r3 = some (.lst ((((Vameta.rowsOf x.program r).length : Int) :: ((Vameta.rowsOf x.program r).take i).flatMap VametBase.listedInts).map V.int))) (fun q h => by walk_at "rd"; exact h) (sqL (f3 _ _ hd2)) ⟨none, rfl, f3, upd_same⟩ (fun i σ' H' _ ⟨_, _, e', _⟩ => sqL (e' _ _ hd2)) ?_ ?_
  · rintro i y σ' H' hy ⟨v, rfl, e', hd⟩
    obtain ⟨rw1, hrw1, q1, rfl, hq1⟩ := hws.get hy
    have hlen := rows_len2 (rs := (Vameta.rowsOf x.program r).take i) fun r hr => hrw r (List.mem_of_mem_take hr)
    rw [List.length_take] at hlen
    have h40 := hrw rw1 (List.mem_of_getElem? hrw1)
    walk_at "rk"
    refine ⟨x_tyL hd, ?_⟩
    walk_at "rk"
    refine ⟨_, rfl, q1, rw1, rfl, e' _ _ hq1, by omega, fun H3 a3 e3 hn3 hd3 => ?_⟩
    walk_at "rk"
    refine x_extI (e3 _ _ hd) hd3 (by simp only [VametBase.listedInts, List.length_cons]; omega) ?_
    refine ⟨_, rfl, (e'.trans e3).mut hr3, ?_⟩
    rw [upd_same, take_more hrw1, List.flatMap_append, List.flatMap_cons, List.flatMap_nil, List.append_nil]
    rfl
  · rintro σ' H' ⟨v, rfl, e', hd⟩
    rw [hws.1, List.take_length] at hd
    walk_at "rk"
    exact hq H' r3 (e12.trans e') hr0 hd

/-! ### bound -/
def sp_bound (K : PySem.W.Frag) : Sp := Sp3 fun a b c H Q E => ∃ (k : Addr) (s : Vameta.State) (n lo hi : Int), a = .ref k ∧ KpAt K H k s ∧ NumsAt H b [n, lo, hi] ∧ DeedEnd K k H s (.bound n lo hi) Q E
theorem ok_bound (T : Txt K mg) (c_require : CalX P w K mg base 3 "require" (sp_require K)) (c_many_inputs : Cal0 P w K mg base 1 "many_inputs" (sp_many_inputs K)) (c_Keeper_hold_bound : Met0 P w K mg base 1 (He.ga K "Keeper") "hold_bound" (sp_Keeper_hold_bound K)) :
    CalX P w K mg base 4 "bound" (sp_bound K) := by
  refine T.d_bound.okX (k := 3) sc_bound Sp3.len (fun f cdv A outer s H vs Q E hr h => ⟨_, (pss_cons (ps_asg (pv 1) (pg_lst rfl (pgs_cons (pg_name (i := 3) sc_bound.nd rfl (Or.inl rfl)) (pgs_cons (pg_name (i := 4) sc_bound.nd rfl (Or.inl rfl)) (pgs_cons (pg_name (i := 5) sc_bound.nd rfl (Or.inl rfl)) pgs_nil)))))
      (pss_cons (ps_expr (pe_cX c_require hr (by decide) passD (pa_cons (pe_and (pe_chain op_le op_le pe_int (pv 3) (C8.pe_gc (by rfl) T.k_LONGEST)) (pe_one (pe_chain3 op_le op_le op_le (pe_op op_sub pe_int (C8.pe_gc (by rfl) T.k_FARTHEST_relations)) (pv 4) (pv 5) (C8.pe_gc (by rfl) T.k_FARTHEST_relations)))) (pa_cons (pe_op op_sub pe_int pe_int) pa_nil))))
      (pss_cons (ps_set (i := 6) sc_bound.nd rfl (Or.inl rfl) (pe_c0 c_many_inputs hr (by decide) (pa_cons (pv 1) pa_nil)))
      (pss_cons (ps_expr (pe_cX c_require hr (by decide) passD (pa_cons (pe_cmpR op_le (pv 6) (C8.pe_gc (by rfl) T.k_MOST_INPUTS) (by first | exact nomark _ | rfl)) (pa_cons (pe_op op_sub pe_int pe_int) pa_nil))))
      (pss_cons (ps_expr (pe_m0 c_Keeper_hold_bound T.cl_Keeper hr (by decide) (pv 0) (pa_cons (pe_tup (pa_cons (pv 3) (pa_cons (pv 4) (pa_cons (pv 5) pa_nil)))) pa_nil)))
      (pss_one (ps_ret (pe_lst (pa_cons (pv 6) pa_nil))))))))), ?_⟩)
  obtain ⟨_, _, vc, rfl, k, s, n, lo, hi, rfl, hk, ⟨np, rfl, hnp⟩, hq⟩ := h
  have hst : Vameta.step s (.bound n lo hi) = (match VametBase.whole VametBase.readBound [n, lo, hi] with
    | none => Vameta.refused s (-5)
    | some w => ({ s with bound := w }, [VametBase.int (VametBase.inputCount w)])) := rfl
  rw [Mo.bound_eq] at hst
  have no : ¬ ((0 ≤ n ∧ n ≤ 8) ∧ (-99 ≤ lo ∧ lo ≤ hi ∧ hi ≤ 99) ∧ VametBase.inputCount ⟨n.toNat, lo, hi⟩ ≤ 1500) → RefE K H E (0 - 5) := fun c => hq.no hk (by rw [hst, if_neg c]; rfl)
  try dsimp only [cxOf]
  walk_at "rk"
  refine ⟨np, _, rfl, sqL hnp, rfl, _, _, rfl, x_name ⟨_, _, rfl, x_name ⟨_, _, rfl, x_name ⟨rfl, ?_⟩⟩⟩⟩
  walk_at "rk"
  refine x_ite (fun c1 => ?_) (fun c1 => ?_)
  case refine_2 =>
    walk_at "rk"
    exact ⟨_, _, rfl, _, _, rfl, rfl, (fun z => nomatch z), fun _ => no fun z => c1 z.1.1⟩
  walk_at "rk"
  refine x_ite (fun c2 => ?_) (fun c2 => ?_)
  case refine_2 =>
    walk_at "rk"
    exact ⟨_, _, rfl, _, _, rfl, rfl, (fun z => nomatch z), fun _ => no fun z => c2 z.1.2⟩
  walk_at "rk"
  refine x_chain3 ?_
  walk_at "rk"
  refine x_ite (fun c3 => ?_) (fun c3 => ?_)
  case refine_2 =>
    walk_at "rk"
    exact ⟨_, _, rfl, _, _, rfl, rfl, (fun z => nomatch z), fun _ => no fun z => c3 (by omega)⟩
  walk_at "rk"
  refine x_ite (fun c4 => ?_) (fun c4 => ?_)
  case refine_2 =>
    walk_at "rk"
    exact ⟨_, _, rfl, _, _, rfl, rfl, (fun z => nomatch z), fun _ => no fun z => c4 z.2.1.2.1⟩
  walk_at "rk"
  refine ⟨_, _, rfl, _, _, rfl, rfl, fun c5 => ?_, fun c5 => no fun z => of_decide_eq_false c5 z.2.1.2.2⟩
  have c5 := of_decide_eq_true c5
  have hw := Mi.width_eq (b := ⟨n.toNat, lo, hi⟩) c4
  have hce := Mi.countTo_eq (w := VametBase.width ⟨n.toNat, lo, hi⟩) (by dsimp only at hw; omega) n.toNat
  have hce : VametBase.inputCount ⟨n.toNat, lo, hi⟩ = min 1501 (Mi.cnt (VametBase.width ⟨n.toNat, lo, hi⟩) n.toNat) := hce
  have hnn : ((n.toNat : Nat) : Int) = n := by omega
  walk_at "rk"
  refine ⟨_, rfl, ⟨n.toNat, lo, hi⟩, ⟨np, rfl, Or.inl ?_, by show n.toNat ≤ 8; omega, by show -99 ≤ lo; omega, c4, c5⟩, fun H1 e1 => ?_⟩
  · show SqL K H np [V.int (n.toNat : Nat), V.int lo, V.int hi]
    rw [hnn]
    exact sqL hnp
  walk_at "rk"
  refine ⟨_, _, rfl, _, _, rfl, rfl, fun c6 => ?_, fun c6 => RefE.ex e1 (no fun z => ?_)⟩
  case refine_2 =>
    have c6 := of_decide_eq_false c6
    have := z.2.2
    dsimp only at c6
    omega
  have c6 := of_decide_eq_true c6
  dsimp only at c6
  have c7 : VametBase.inputCount ⟨n.toNat, lo, hi⟩ = Mi.cnt (VametBase.width ⟨n.toNat, lo, hi⟩) n.toNat := by omega
  rw [if_pos ⟨⟨c1, c2⟩, ⟨by omega, c4, c5⟩, by omega⟩] at hst
  have hst : Vameta.step s (.bound n lo hi) = ({ s with bound := ⟨n.toNat, lo, hi⟩ }, [(VametBase.inputCount ⟨n.toNat, lo, hi⟩ : Int)]) := hst
  have hk1 := hk.e e1
  obtain ⟨dx, tv, bp, hk2, _⟩ := hk1.ex
  walk_at "rk"
  refine ⟨_, _, _, rfl, hk2, rfl, ?_⟩
  walk_at "rk"
  intro p hp
  have f1 := Ex.new (o := .tup [.int n, .int lo, .int hi]) hp
  have hokb : VametBase.okBound ⟨n.toNat, lo, hi⟩ = true := by
    unfold VametBase.okBound VametBase.TOLD VametBase.INPUTS
    simp only [Bool.and_eq_true, decide_eq_true_eq]
    exact ⟨by omega, by omega, c4, c5, by omega⟩
  refine ⟨_, _, rfl, k, p, s, ⟨n.toNat, lo, hi⟩, rfl, rfl, hk1.e f1, ?_, hokb, fun H2 e2 hk3 => ?_⟩
  · show upd H1 p _ p = some (.tup [V.int (n.toNat : Nat), V.int lo, V.int hi])
    rw [upd_same, hnn]
  walk_at "rk"
  intro r hr2
  have f2 := Ex.new (o := .lst [V.int (Mi.cnt (VametBase.width ⟨n.toNat, lo, hi⟩) n.toNat)]) hr2
  have eb : ExB k H H2 := (e1.trans f1).b.trans e2
  refine (hq _ (eb.trans f2.b) ?_).1 r ?_ ?_
  · rw [hst]
    exact hk3.e f2
  · cases h0 : H r with
    | none => rfl
    | some o =>
      by_cases ck : r = k
      · obtain ⟨_, _, _, hk4, _⟩ := hk3.ex
        rw [ck, hk4] at hr2
        cases hr2
      · rw [eb r o h0 ck] at hr2
        cases hr2
  · rw [hst, c7, upd_same]
    rfl

/-! ### load -/
abbrev tb_load (K : PySem.W.Frag) (W : WX) : TS := tAsg (tCallS (sp_read_text K) (WE W) (tCons (tOp (rIxL K) (tVar 2) (tC (.int 0))) tNil)) (gName 3)
abbrev ts_load (K : PySem.W.Frag) (a : Addr) (cls : Value) (d : Option Addr) : TS := tRet (tLst (tCons (tC (.int 1)) (tCons (tXf a cls d (He.ga K "Fault") "kind" (tVar 4)) (tCons (tXf a cls d (He.ga K "Fault") "place" (tVar 4)) tNil))))
def sp_load (K : PySem.W.Frag) : Sp := Sp3 fun a b c H Q E => ∃ (k : Addr) (s : Vameta.State) (rp q : Addr) (t : List Nat), a = .ref k ∧ KpAt K H k s ∧ c = .ref rp ∧ H rp = some (.lst [.ref q]) ∧ H q = some (.lst (tx t)) ∧ t.length ≤ 2000 ∧ DeedEnd K k H s (.load t) Q E
theorem ok_load (T : Txt K mg) (c_require : CalX P w K mg base 3 "require" (sp_require K)) (c_read_text : CalX P w K mg base 10 "read_text" (sp_read_text K)) (c_Keeper_hold_text : Met0 P w K mg base 1 (He.ga K "Keeper") "hold_text" (sp_Keeper_hold_text K)) :
    CalX P w K mg base 11 "load" (sp_load K) := by
  refine T.d_load.okX (k := 10) sc_load Sp3.len (fun f cdv A outer s H vs Q E hr h => ⟨_, (pss_cons (ps_expr (pe_cX c_require hr (by decide) passD (pa_cons (pe_cmpR op_le (pe_callB call_len_seq (by rfl) T.bi_len boot_len (pa_cons (pe_ix ix_list (pv 2) pe_int (fun _ _ => rfl)) pa_nil)) (C8.pe_gc (by rfl) T.k_MOST_BYTES) (by first | exact nomark _ | rfl)) (pa_cons (pe_op op_sub pe_int pe_int) pa_nil))))
      (pss_cons (ps_try_as (i := 4) (n := "e") (c := .ref (He.ga K "Fault")) (tb := fun W => tb_load K W) (ts := fun a cls d => ts_load K a cls d) (Wout := fun _ _ _ _ => False) rfl rfl sc_load.nd rfl rfl ⟨rfl, by decide, .inl T.g_Fault⟩ takes0 (fun W pn xe tk po => (pss_one (ps_set (i := 3) sc_load.nd rfl (Or.inl rfl) (pe_cX c_read_text hr (by decide) (fun σ => passAt tk σ) (pa_cons (pe_ix ix_list (pv 2) pe_int (fun _ _ => rfl)) pa_nil))))) (fun a oe cls d pn hz hf => (pss_one (ps_ret (pe_lst (pa_cons pe_int (pa_cons (pe_xf T.xf_Fault T.na_Fault_kind hz hf (pv 4)) (pa_cons (pe_xf T.xf_Fault T.na_Fault_place hz hf (pv 4)) pa_nil))))))))
      (pss_cons (ps_expr (pe_m0 c_Keeper_hold_text T.cl_Keeper hr (by decide) (pv 0) (pa_cons (pv 3) pa_nil)))
      (pss_one (ps_ret (pe_lst (pa_cons pe_int (pa_cons (pe_callB call_len_seq (by rfl) T.bi_len boot_len (pa_cons (pe_ix ix_tup (pv 3) pe_int (fun _ _ => rfl)) pa_nil)) (pa_cons (pe_callB call_len_seq (by rfl) T.bi_len boot_len (pa_cons (pe_ix ix_tup (pv 3) pe_int (fun _ _ => rfl)) pa_nil)) pa_nil))))))))), ?_⟩)
  obtain ⟨_, vb, _, rfl, k, s, rp, q, t, rfl, hk, rfl, hrp, hl, hlz, hq⟩ := h
  try dsimp only [cxOf]
  walk_at "rk"
  refine x_ixL (sqL hrp) (v := V.ref q) rfl ?_
  walk_at "rk"
  refine x_len (Or.inl (sqL hl)) ?_
  walk_at "rk"
  rw [tx_len]
  have hst : Vameta.step s (.load t) = if 1500 < t.length then Vameta.refused s (-1) else (match Vameta.read t with
    | .error f => (s, [1, VametBase.int f.kind, VametBase.int f.place])
    | .ok x => ({ s with source := some x }, [0, VametBase.int x.program.length, VametBase.int x.relations.length])) := rfl
  refine ⟨_, _, rfl, _, _, rfl, rfl, fun c => ?_, fun c => hq.no hk (n := 0 - 1) (by have := of_decide_eq_false c; rw [hst, if_pos (by omega)]; rfl)⟩
  have c := of_decide_eq_true c
  rw [if_neg (by omega)] at hst
  walk_at "rk"
  refine x_ixL (sqL hrp) (v := V.ref q) rfl ?_
  walk_at "rk"
  refine ⟨_, rfl, q, t, rfl, hl, by omega, ?_⟩
  cases hrd : Vameta.read t with
  | error f =>
    rw [hrd] at hst
    intro H1 d e1 hd
    refine ⟨true, T.em_Fault, fun _ a ha => ?_, fun z => nomatch z⟩
    walk_at "rk"
    refine x_xf ?_
    walk_at "rk"
    refine ⟨rfl, rfl, d, _, _, rfl, hd, rfl, ?_⟩
    walk_at "rk"
    refine x_xf ?_
    walk_at "rk"
    refine ⟨rfl, rfl, d, _, _, rfl, hd, rfl, ?_⟩
    walk_at "rk"
    intro r hr2
    refine hq.ret hk hst _ r (e1.add hr2) (e1.back hr2) ?_
    rw [upd_same]
    rfl
  | ok x =>
    rw [hrd] at hst
    have hst : Vameta.step s (.load t) = ({ s with source := some x }, [0, (x.program.length : Int), (x.relations.length : Int)]) := hst
    intro H1 v e1 hv
    have hk1 := hk.e e1
    obtain ⟨dx, tv, bp, hk2, _⟩ := hk1.ex
    obtain ⟨pt, fv, qr, rvs, rfl, hpt, ⟨pf, fvs, rfl, hpf, hfs, hf8⟩, hqr, hrs, h12⟩ := id hv
    walk_at "rk"
    refine ⟨_, _, _, rfl, hk2, rfl, ?_⟩
    walk_at "rk"
    refine ⟨_, _, rfl, k, s, x, rfl, hk1, hv, fun H2 e2 hk3 => ?_⟩
    have tk2 := e2.tk hk2
    walk_at "rk"
    refine x_ixT (sqT (tk2 _ _ hpt)) (v := V.ref pf) rfl ?_
    walk_at "rk"
    refine x_len (Or.inr (sqT (tk2 _ _ hpf))) ?_
    walk_at "rk"
    refine x_ixT (sqT (tk2 _ _ hpt)) (v := V.ref qr) rfl ?_
    walk_at "rk"
    refine x_len (Or.inr (sqT (tk2 _ _ hqr))) ?_
    walk_at "rk"
    rw [hfs.1, hrs.1]
    intro r hr2
    have f2 := Ex.new (o := .lst [V.int 0, V.int (x.program.length : Nat), V.int (x.relations.length : Nat)]) hr2
    have eb : ExB k H H2 := e1.b.trans e2
    refine (hq _ (eb.trans f2.b) ?_).1 r ?_ ?_
    · rw [hst]
      exact hk3.e f2
    · cases h0 : H r with
      | none => rfl
      | some o =>
        by_cases ck : r = k
        · obtain ⟨_, _, _, hk4, _⟩ := hk3.ex
          rw [ck, hk4] at hr2
          cases hr2
        · rw [eb r o h0 ck] at hr2
          cases hr2
    · rw [hst, upd_same]
      rfl
end
end RR
/-! part P19 -/
/-! The answer to one call. -/
namespace RR
open PySem PySem.Spec PyProof.Rows L2
local macro_rules | `(tactic| walk_at "rd1") => `(tactic| (first
  | with_reducible refine x_seq ?_
  | with_reducible refine x_next ?_
  | with_reducible refine x_asg ?_
  | with_reducible refine x_name ?_
  | with_reducible refine x_ret ?_
  | with_reducible refine x_retN ?_
  | with_reducible refine x_drop ?_
  | with_reducible refine x_if ?_
  | ((with_reducible apply x_var); exact rfl)
  | ((with_reducible apply x_aug1); exact rfl)
  | with_reducible refine x_c ?_
  | with_reducible refine x_op ?_
  | with_reducible refine x_I0 ?_
  | with_reducible refine x_un ?_
  | with_reducible refine x_U ?_
  | with_reducible refine x_eqI ?_
  | with_reducible refine x_eqS ?_
  | with_reducible refine x_neI ?_
  | with_reducible refine x_test ?_
  | with_reducible refine x_tB ?_
  | with_reducible refine x_bl ?_
  | with_reducible refine x_and ?_
  | with_reducible refine x_or ?_
  | with_reducible refine x_not ?_
  | with_reducible refine x_andV ?_
  | with_reducible refine x_orV ?_
  | with_reducible refine x_notV ?_
  | with_reducible refine x_tIf ?_
  | with_reducible refine x_chain ?_
  | with_reducible refine x_cons ?_
  | with_reducible refine x_nil ?_
  | with_reducible refine x_tup ?_
  | with_reducible refine x_lst ?_
  | with_reducible refine x_tupF ?_
  | with_reducible refine x_cb ?_
  | with_reducible refine x_call ?_
  | with_reducible refine x_callS ?_
  | with_reducible refine x_meth ?_
  | with_reducible refine x_methS ?_
  | with_reducible refine x_make ?_
  | with_reducible refine x_ost ?_
  | with_reducible refine x_mkO ?_
  | with_reducible refine x_sFld ?_
  | with_reducible refine x_sFldAug ?_
  | with_reducible refine x_m1 ?_
  | with_reducible refine x_fld ?_
  | with_reducible refine x_bm ?_
  | with_reducible refine x_bmU ?_
  | with_reducible refine x_sl ?_
  | with_reducible refine x_part ?_
  | with_reducible refine x_noPart ?_
  | with_reducible refine x_revL ?_
  | with_reducible refine x_sz0 ?_
  | with_reducible refine x_sz1 ?_
  | with_reducible refine x_sz2 ?_
  | with_reducible refine x_sz3 ?_
  | with_reducible refine x_sz4 ?_
  | with_reducible refine x_sz5 ?_))
local macro_rules | `(tactic| walk_at "rd") => `(tactic| repeat walk_at "rd1")
local macro_rules | `(tactic| walk_at "rk") => `(tactic| repeat (first | walk_at "rd1" | with_reducible refine x_iteT (by decide) ?_ | with_reducible refine x_iteF (by decide) ?_))
theorem exb_back {k r : Addr} {H H' : Hp} {o : HO} (e : ExB k H H') (hk : H' k = some o) (hr : H' r = none) : H r = none := by
  cases h0 : H r with
  | none => rfl
  | some u =>
    by_cases c : r = k
    · rw [c, hk] at hr
      cases hr
    · rw [e r u h0 c] at hr
      cases hr
section
variable {P : Program} {w : World} {K : PySem.W.Frag} {mg : Str → Option Value} {base : Heap}
def deedsV (K : PySem.W.Frag) : List V := [V.ref (He.ga K "load"), V.ref (He.ga K "shown"), V.ref (He.ga K "told"), V.ref (He.ga K "run"), V.ref (He.ga K "all_rows"), V.ref (He.ga K "turned"), V.ref (He.ga K "sides"), V.ref (He.ga K "verdict"), V.ref (He.ga K "bound"), V.ref (He.ga K "one_input"), V.ref (He.ga K "at_input")]
/-- the call's end: the list of its answer -/
def CallEnd (K : PySem.W.Frag) (k : Addr) (H : Hp) (s : Vameta.State) (c : Vameta.Call) (Q : VK) : Prop := ∀ H' p, ExB k H H' → KpAt K H' k (Vameta.step s c).1 → H p = none → H' p = some (.lst ((Vameta.step s c).2.map V.int)) → Q (.ref p) H'
structure DeedAt (P : Program) (w : World) (K : PySem.W.Frag) (mg : Str → Option Value) (base : Heap) (j : Nat) (sp : Sp) : Prop where
  ex : ∃ (lv : Nat) (fa : Addr) (fd : FuncData) (ps : List Str), (deedsV K)[j]? = some (.ref fa) ∧ FnOk P w K mg base (L2.CX P w) lv fa fd ps sp ∧ PySem.W.keepIn K (.ref fa) = true ∧ Binds K fd ps [] ∧ lv ≤ 11
theorem deedAt {x : Str} {j lv : Nat} {sp : Sp} (c : CalX P w K mg base lv x sp) (hg : mg x = some (.ref (He.ga K x))) (hj : (deedsV K)[j]? = some (.ref (He.ga K x))) (hlv : lv ≤ 11) : DeedAt P w K mg base j sp := by
  obtain ⟨f, fd, ps, F, hm, kp, b⟩ := c.ex
  rw [hg] at hm
  cases hm
  exact ⟨lv, _, fd, ps, hj, F, kp, b, hlv⟩
abbrev tb_answer_to (K : PySem.W.Frag) (fa : Addr) (sp : Sp) (W : WX) : TS := tRet (tCallL 4 fa sp (WE W) (tCons (tVar 0) (tCons (tVar 2) (tCons (tVar 3) tNil))))
abbrev ts_answer_to (K : PySem.W.Frag) (a : Addr) (cls : Value) (d : Option Addr) : TS := tRet (tLst (tCons (tXf a cls d (He.ga K "Refused") "code" (tVar 5)) tNil))
def sp_answer_to (P : Program) (w : World) (K : PySem.W.Frag) (mg : Str → Option Value) (base : Heap) : Sp := Sp4 fun a n b c H Q _ => ∃ (k : Addr) (s : Vameta.State) (j : Nat) (cl : Vameta.Call) (sp : Sp), a = .ref k ∧ n = .int j ∧ DeedAt P w K mg base j sp ∧ (∀ Q' E', DeedEnd K k H s cl Q' E' → sp [a, b, c] H Q' E') ∧ CallEnd K k H s cl Q
theorem ok_answer_to (T : Txt K mg) : Cal0 P w K mg base 12 "answer_to" (sp_answer_to P w K mg base) := by
  refine T.d_answer_to.ok0 (k := 11) sc_answer_to Sp4.len (fun f cdv A outer s H vs Q E hr h => ?_)
  obtain ⟨_, _, vb, vc, rfl, k, st, j, cl, sp, rfl, rfl, ⟨lv, fa, fd, ps, hj, c_deed, k_deed, b_deed, hlv⟩, hsp, hq⟩ := h
  refine ⟨_, (pss_cons (ps_set (i := 4) sc_answer_to.nd rfl (Or.inl rfl) (pe_ix ix_tup (C8.pe_gc (by rfl) T.k_DEEDS) (pv 1) (fun _ _ => rfl)))
      (pss_one (ps_try_as (i := 5) (n := "e") (c := .ref (He.ga K "Refused")) (tb := fun W => tb_answer_to K fa sp W) (ts := fun a cls d => ts_answer_to K a cls d) (Wout := fun _ _ _ _ => False) rfl rfl sc_answer_to.nd rfl rfl ⟨rfl, by decide, .inl T.g_Refused⟩ takes0 (fun W pn xe tk po => (pss_one (ps_ret (pe_cL c_deed b_deed k_deed hr hlv (fun σ => passAt tk σ) rfl (Or.inl rfl) (pa_cons (pv 0) (pa_cons (pv 2) (pa_cons (pv 3) pa_nil))))))) (fun a oe cls d pn hz hf => (pss_one (ps_ret (pe_lst (pa_cons (pe_xf T.xf_Refused T.na_Refused_code hz hf (pv 5)) pa_nil)))))))), ?_⟩
  try dsimp only [cxOf]
  walk_at "rk"
  refine x_ixT (T.q_DEEDS H) (v := V.ref fa) (atI_nat hj) ?_
  walk_at "rk"
  refine ⟨rfl, ?_⟩
  walk_at "rk"
  refine hsp _ _ fun H' e hk => ⟨fun p hn hd => hq H' p e hk hn hd, fun n d ha hd => ?_⟩
  refine ⟨true, T.em_Refused, fun _ a ha2 => ?_, fun z => nomatch z⟩
  walk_at "rk"
  refine x_xf ?_
  walk_at "rk"
  refine ⟨rfl, rfl, d, _, _, rfl, hd, rfl, ?_⟩
  walk_at "rk"
  intro r hr2
  have f2 := Ex.new (o := .lst [V.int n]) hr2
  obtain ⟨_, _, _, hk4, _⟩ := hk.ex
  refine hq _ r (e.trans f2.b) (hk.e f2) (exb_back e hk4 hr2) ?_
  rw [upd_same, ha]
  rfl
end
end RR
/-! part P20 -/
/-! The calls, one behind another. -/
namespace RR
open PySem PySem.Spec PyProof.Rows L2
local macro_rules | `(tactic| walk_at "rd1") => `(tactic| (first
  | with_reducible refine x_seq ?_
  | with_reducible refine x_next ?_
  | with_reducible refine x_asg ?_
  | with_reducible refine x_name ?_
  | with_reducible refine x_ret ?_
  | with_reducible refine x_retN ?_
  | with_reducible refine x_drop ?_
  | with_reducible refine x_if ?_
  | ((with_reducible apply x_var); exact rfl)
  | ((with_reducible apply x_aug1); exact rfl)
  | with_reducible refine x_c ?_
  | with_reducible refine x_op ?_
  | with_reducible refine x_I0 ?_
  | with_reducible refine x_un ?_
  | with_reducible refine x_U ?_
  | with_reducible refine x_eqI ?_
  | with_reducible refine x_eqS ?_
  | with_reducible refine x_neI ?_
  | with_reducible refine x_test ?_
  | with_reducible refine x_tB ?_
  | with_reducible refine x_bl ?_
  | with_reducible refine x_and ?_
  | with_reducible refine x_or ?_
  | with_reducible refine x_not ?_
  | with_reducible refine x_andV ?_
  | with_reducible refine x_orV ?_
  | with_reducible refine x_notV ?_
  | with_reducible refine x_tIf ?_
  | with_reducible refine x_chain ?_
  | with_reducible refine x_cons ?_
  | with_reducible refine x_nil ?_
  | with_reducible refine x_tup ?_
  | with_reducible refine x_lst ?_
  | with_reducible refine x_tupF ?_
  | with_reducible refine x_cb ?_
  | with_reducible refine x_call ?_
  | with_reducible refine x_callS ?_
  | with_reducible refine x_meth ?_
  | with_reducible refine x_methS ?_
  | with_reducible refine x_make ?_
  | with_reducible refine x_ost ?_
  | with_reducible refine x_mkO ?_
  | with_reducible refine x_sFld ?_
  | with_reducible refine x_sFldAug ?_
  | with_reducible refine x_m1 ?_
  | with_reducible refine x_fld ?_
  | with_reducible refine x_bm ?_
  | with_reducible refine x_bmU ?_
  | with_reducible refine x_sl ?_
  | with_reducible refine x_part ?_
  | with_reducible refine x_noPart ?_
  | with_reducible refine x_revL ?_
  | with_reducible refine x_sz0 ?_
  | with_reducible refine x_sz1 ?_
  | with_reducible refine x_sz2 ?_
  | with_reducible refine x_sz3 ?_
  | with_reducible refine x_sz4 ?_
  | with_reducible refine x_sz5 ?_))
local macro_rules | `(tactic| walk_at "rd") => `(tactic| repeat walk_at "rd1")
local macro_rules | `(tactic| walk_at "rk") => `(tactic| repeat (first | walk_at "rd1" | with_reducible refine x_iteT (by decide) ?_ | with_reducible refine x_iteF (by decide) ?_))
section
variable {P : Program} {w : World} {K : PySem.W.Frag} {mg : Str → Option Value} {base : Heap}
structure Deeds (P : Program) (w : World) (K : PySem.W.Frag) (mg : Str → Option Value) (base : Heap) : Prop where
  d0 : DeedAt P w K mg base 0 (sp_load K)
  d1 : DeedAt P w K mg base 1 (sp_shown K)
  d2 : DeedAt P w K mg base 2 (sp_told K)
  d3 : DeedAt P w K mg base 3 (sp_run K)
  d4 : DeedAt P w K mg base 4 (sp_all_rows K)
  d5 : DeedAt P w K mg base 5 (sp_turned K)
  d6 : DeedAt P w K mg base 6 (sp_sides K)
  d7 : DeedAt P w K mg base 7 (sp_verdict K)
  d8 : DeedAt P w K mg base 8 (sp_bound K)
  d9 : DeedAt P w K mg base 9 (sp_one_input K)
  d10 : DeedAt P w K mg base 10 (sp_at_input K)
/-- one call, ready to be asked -/
def Ready (P : Program) (w : World) (K : PySem.W.Frag) (mg : Str → Option Value) (base : Heap) (j : Nat) (c : List (List Int)) (k : Addr) (H : Hp) (s : Vameta.State) (b vc : V) : Prop :=
  ∃ (cl : Vameta.Call) (sp : Sp), VametaNeutral.callOf (PyVameta.whole c) = some cl ∧ DeedAt P w K mg base j sp ∧ ∀ Q' E', DeedEnd K k H s cl Q' E' → sp [.ref k, b, vc] H Q' E'
theorem len0 {l : List Int} (h : l.length = 0) : l = [] := List.length_eq_zero_iff.mp h
theorem len1 {l : List Int} (h : l.length = 1) : ∃ a, l = [a] := by
  match l, h with
  | [a], _ => exact ⟨a, rfl⟩
theorem len2 {l : List Int} (h : l.length = 2) : ∃ a b, l = [a, b] := by
  match l, h with
  | [a, b], _ => exact ⟨a, b, rfl⟩
theorem len3 {l : List Int} (h : l.length = 3) : ∃ a b c, l = [a, b, c] := by
  match l, h with
  | [a, b, c], _ => exact ⟨a, b, c, rfl⟩
theorem j_of {j : Nat} {x : Nat × Nat} (h : Mf.shapesN[j]? = some x) : j = 0 ∨ j = 1 ∨ j = 2 ∨ j = 3 ∨ j = 4 ∨ j = 5 ∨ j = 6 ∨ j = 7 ∨ j = 8 ∨ j = 9 ∨ j = 10 := by
  have : j < 11 := (List.getElem?_eq_some_iff.mp h).1
  omega
theorem ready0 (D : Deeds P w K mg base) {j n : Nat} (hj : Mf.shapesN[j]? = some (n, 0)) {ns : List Int} (hn : ns.length = n) {k : Addr} {H : Hp} {s : Vameta.State} {b vc : V} (hk : KpAt K H k s) (hb : NumsAt H b ns) : Ready P w K mg base j [(j : Int) :: ns] k H s b vc := by
  rcases j_of hj with rfl | rfl | rfl | rfl | rfl | rfl | rfl | rfl | rfl | rfl | rfl
  · cases hj
  · cases hj
    obtain rfl := len0 hn
    exact ⟨_, _, rfl, D.d1, fun Q' E' h => ⟨_, _, _, rfl, k, s, rfl, hk, h⟩⟩
  · cases hj
    obtain rfl := len0 hn
    exact ⟨_, _, rfl, D.d2, fun Q' E' h => ⟨_, _, _, rfl, k, s, rfl, hk, h⟩⟩
  · cases hj
  · cases hj
  · cases hj
  · cases hj
  · cases hj
  · cases hj
    obtain ⟨a1, a2, a3, rfl⟩ := len3 hn
    exact ⟨_, _, rfl, D.d8, fun Q' E' h => ⟨_, _, _, rfl, k, s, a1, a2, a3, rfl, hk, hb, h⟩⟩
  · cases hj
    obtain ⟨a1, rfl⟩ := len1 hn
    exact ⟨_, _, rfl, D.d9, fun Q' E' h => ⟨_, _, _, rfl, k, s, a1, rfl, hk, hb, h⟩⟩
  · cases hj
    obtain ⟨a1, a2, rfl⟩ := len2 hn
    exact ⟨_, _, rfl, D.d10, fun Q' E' h => ⟨_, _, _, rfl, k, s, a1, a2, rfl, hk, hb, h⟩⟩
theorem ready1 (D : Deeds P w K mg base) {j n : Nat} (hj : Mf.shapesN[j]? = some (n, 1)) {ns l : List Int} (hn : ns.length = n) {k rp q : Addr} {H : Hp} {s : Vameta.State} {b : V} (hk : KpAt K H k s) (hb : NumsAt H b ns) (hrp : H rp = some (.lst [.ref q])) (hq : Rw H q l)
    (ha : VametaNeutral.asked1 (PyVameta.whole [(j : Int) :: ns, l]) = true) : Ready P w K mg base j [(j : Int) :: ns, l] k H s b (.ref rp) := by
  rcases j_of hj with rfl | rfl | rfl | rfl | rfl | rfl | rfl | rfl | rfl | rfl | rfl
  · cases hj
    obtain rfl := len0 hn
    obtain ⟨h1, h2, h3⟩ := Mf.load_ok ha
    refine ⟨_, _, h1, D.d0, fun Q' E' h => ⟨_, _, _, rfl, k, s, rp, q, l.map Int.toNat, rfl, hk, rfl, hrp, ?_, by rw [List.length_map]; omega, h⟩⟩
    unfold Rw at hq
    rw [hq, ← h3, List.map_map]
    unfold tx
    rw [h3]
    rfl
  · cases hj
  · cases hj
  · cases hj
    obtain rfl := len0 hn
    have hl := Mf.list_ok (l := l) ha
    exact ⟨_, _, rfl, D.d3, fun Q' E' h => ⟨_, _, _, rfl, k, s, l, rfl, hk, ⟨rp, q, rfl, hrp, hq, hl⟩, h⟩⟩
  · cases hj
    obtain rfl := len0 hn
    have hl := Mf.list_ok (l := l) ha
    exact ⟨_, _, rfl, D.d4, fun Q' E' h => ⟨_, _, _, rfl, k, s, l, rfl, hk, ⟨rp, q, rfl, hrp, hq, hl⟩, h⟩⟩
  · cases hj
    obtain ⟨a1, rfl⟩ := len1 hn
    have ha : (VametaNeutral.whole60 a1 && VametaNeutral.listOk l 20) = true := ha
    have hl := Mf.list_ok (l := l) (Bool.and_eq_true_iff.mp ha).2
    exact ⟨_, _, rfl, D.d5, fun Q' E' h => ⟨_, _, _, rfl, k, s, a1, l, rfl, hk, hb, ⟨rp, q, rfl, hrp, hq, hl⟩, h⟩⟩
  · cases hj
    obtain ⟨a1, rfl⟩ := len1 hn
    have ha : (VametaNeutral.whole60 a1 && VametaNeutral.listOk l 20) = true := ha
    have hl := Mf.list_ok (l := l) (Bool.and_eq_true_iff.mp ha).2
    exact ⟨_, _, rfl, D.d6, fun Q' E' h => ⟨_, _, _, rfl, k, s, a1, l, rfl, hk, hb, ⟨rp, q, rfl, hrp, hq, hl⟩, h⟩⟩
  · cases hj
    obtain ⟨a1, rfl⟩ := len1 hn
    have ha : (VametaNeutral.whole60 a1 && VametaNeutral.listOk l 20) = true := ha
    have hl := Mf.list_ok (l := l) (Bool.and_eq_true_iff.mp ha).2
    exact ⟨_, _, rfl, D.d7, fun Q' E' h => ⟨_, _, _, rfl, k, s, a1, l, rfl, hk, hb, ⟨rp, q, rfl, hrp, hq, hl⟩, h⟩⟩
  · cases hj
  · cases hj
  · cases hj

/-! ### answers -/
def sp_answers (K : PySem.W.Frag) : Sp := Sp1 fun a H Q _ => ∃ (p : Addr) (l : List Int), a = .ref p ∧ SqL K H p (l.map V.int) ∧ l.length ≤ 17000 ∧ PyVameta.answers_asked l = true ∧ RetL H ((PyVameta.answers l).map V.int) Q
/-- Keeper() -/
theorem mk_Keeper {H : Hp} {Q : Addr → Hp → Prop} {E : XK} (hq : ∀ H' x, Ex H H' → H x = none → KpAt K H' x Vameta.start → Q x H') :
    ∀ x dx, H x = none → H dx = none → dx ≠ x → sp_Keeper___init__ K (.ref x :: ([] ++ [])) (upd (upd H dx (.own x)) x (.ins (He.ga K "Keeper") dx [])) (fun v H2 => v = .non ∧ Q x H2) E := by
  intro x dx hx hdx hne
  have e0 : Ex H (upd (upd H dx (.own x)) x (.ins (He.ga K "Keeper") dx [])) := fun b o hb => by
    rw [upd_ne (ne_of_none hb hx), upd_ne (ne_of_none hb hdx)]
    exact hb
  exact ⟨_, rfl, x, dx, rfl, upd_same, fun H' bp e h1 h2 => ⟨rfl, hq H' x (fun b o hb => e _ _ (e0 _ _ hb) (ne_of_none hb hx)) hx ⟨⟨dx, .non, bp, h1, rfl, h2⟩, by decide +kernel⟩⟩⟩
theorem paired_at {α β : Type} {F : α → β → Prop} : ∀ {xs : List α} {ys : List β}, Paired F xs ys → ∀ {i : Nat} {y : β}, ys[i]? = some y → ∃ x, xs[i]? = some x ∧ F x y
  | _, _, .nil, i, y, h => by simp at h
  | _, _, .cons r t, 0, y, h => by
    cases h
    exact ⟨_, rfl, r⟩
  | _, _, .cons r t, i + 1, y, h => by
    obtain ⟨x, h1, h2⟩ := paired_at t (i := i) (by simpa using h)
    exact ⟨x, by simpa using h1, h2⟩
theorem KpAt.lst {H : Hp} {k r : Addr} {s : Vameta.State} {ws : List V} (h : KpAt K H k s) (hr : H r = some (.lst ws)) (o : HO) : KpAt K (upd H r o) k s := by
  obtain ⟨⟨dx, tv, bp, h1, h2, h3⟩, ok⟩ := h
  refine ⟨⟨dx, tv, bp, (upd_ne fun z => by rw [z, hr] at h1; cases h1).trans h1, h2.tk (Tk.lst hr o), Tk.lst hr o _ _ h3⟩, ok⟩
theorem shapes_at (T : Txt K mg) {j n k : Nat} (hj : Mf.shapesN[j]? = some (n, k)) (H : Hp) : ∃ (ps : List Addr) (pa : Addr), SqT K H (He.ga K "SHAPES") (ps.map V.ref) ∧ (ps.map V.ref)[j]? = some (.ref pa) ∧ SqT K H pa [V.int n, V.int k] := by
  obtain ⟨ps, h1, h2⟩ := T.q_SHAPES
  have hm : ([(0, 1), (0, 0), (0, 0), (0, 1), (0, 1), (1, 1), (1, 1), (1, 1), (3, 0), (1, 0), (2, 0)] : List (Int × Int))[j]? = some ((n : Int), (k : Int)) := by
    rcases j_of hj with rfl | rfl | rfl | rfl | rfl | rfl | rfl | rfl | rfl | rfl | rfl <;> (cases hj; rfl)
  obtain ⟨pa, hpa, hF⟩ := paired_at (h2 H) hm
  exact ⟨ps, pa, h1 H, by rw [List.getElem?_map, hpa]; rfl, hF⟩
theorem ok_answers (T : Txt K mg) (D : Deeds P w K mg base) (c_Keeper___init__ : Mak0 P w K mg base 1 "Keeper" (He.ga K "Keeper") (sp_Keeper___init__ K)) (c_answer_to : Cal0 P w K mg base 12 "answer_to" (sp_answer_to P w K mg base))
    {fa : Addr} {fd : FuncData} (F : Fun K "answers" "answers" s_answers fa fd) : FnOk P w K mg base CX0 13 fa fd ["calls"] (sp_answers K) := by
  refine F.ok (k := 12) sc_answers Sp1.len (fun cdv A outer s H vs Q E hr h => ⟨_, (pss_cons (ps_set (i := 1) sc_answers.nd rfl (Or.inl rfl) (pe_k0n c_Keeper___init__ hr (by decide)))
      (pss_cons (ps_set (i := 2) sc_answers.nd rfl (Or.inl rfl) (pe_lst pa_nil))
      (pss_cons (ps_set (i := 3) sc_answers.nd rfl (Or.inl rfl) pe_int)
      (pss_cons (ps_while PassesOwn.never (pt_cmpR op_lt (pv 3) (pe_callB call_len_seq (by rfl) T.bi_len boot_len (pa_cons (pv 0) pa_nil)) (by first | exact nomark _ | rfl)) (pss_cons (ps_set (i := 4) sc_answers.nd rfl (Or.inl rfl) (pe_ix ix_list (pv 0) (pv 3) (fun _ _ => rfl)))
      (pss_cons (ps_asg (pe_ix ix_tup (C8.pe_gc (by rfl) T.k_SHAPES) (pv 4) (fun _ _ => rfl)) (pg_tup rfl (pgs_cons (pg_name (i := 5) sc_answers.nd rfl (Or.inl rfl)) (pgs_cons (pg_name (i := 6) sc_answers.nd rfl (Or.inl rfl)) pgs_nil))))
      (pss_cons (ps_set (i := 7) sc_answers.nd rfl (Or.inl rfl) (pe_slice sl_list (pv 0) (po_some (pe_op op_add (pv 3) pe_int)) (po_some (pe_op op_add (pe_op op_add (pv 3) pe_int) (pv 5)))))
      (pss_cons (ps_set (i := 3) sc_answers.nd rfl (Or.inl rfl) (pe_op op_add (pe_op op_add (pv 3) pe_int) (pv 5)))
      (pss_cons (ps_set (i := 8) sc_answers.nd rfl (Or.inl rfl) (pe_lst pa_nil))
      (pss_cons (ps_if (pt_cmpR op_eq (pv 6) pe_int (by first | exact nomark _ | rfl)) (pss_cons (ps_expr (pe_bm PySem.F.plainAttrs_list PySem.F.slot_list_append PySem.F.type_list_append mt_append (pv 8) (pa_cons (pe_slice sl_list (pv 0) (po_some (pe_op op_add (pv 3) pe_int)) (po_some (pe_op op_add (pe_op op_add (pv 3) pe_int) (pe_ix ix_list (pv 0) (pv 3) (fun _ _ => rfl))))) pa_nil)))
      (pss_one (ps_set (i := 3) sc_answers.nd rfl (Or.inl rfl) (pe_op op_add (pe_op op_add (pv 3) pe_int) (pe_ix ix_list (pv 0) (pv 3) (fun _ _ => rfl)))))) pss_nil)
      (pss_cons (ps_set (i := 9) sc_answers.nd rfl (Or.inl rfl) (pe_c0 c_answer_to hr (by decide) (pa_cons (pv 1) (pa_cons (pv 4) (pa_cons (pv 7) (pa_cons (pv 8) pa_nil))))))
      (pss_cons (ps_expr (pe_bm PySem.F.plainAttrs_list PySem.F.slot_list_append PySem.F.type_list_append mt_append (pv 2) (pa_cons (pe_callB call_len_seq (by rfl) T.bi_len boot_len (pa_cons (pv 9) pa_nil)) pa_nil)))
      (pss_one (ps_expr (pe_bm PySem.F.plainAttrs_list PySem.F.slot_list_extend PySem.F.type_list_extend mt_extend (pv 2) (pa_cons (pv 9) pa_nil)))))))))))))
      (pss_one (ps_ret (pv 2))))))), ?_⟩)
  obtain ⟨_, rfl, p, l, rfl, hp, hz, hask, hq⟩ := h
  obtain ⟨raw, hraw, hok, hans, hlen⟩ := Mf.asked_inv hask
  try dsimp only [cxOf]
  walk_at "rk"
  refine mk_Keeper fun H1 ka e1 hka hk1 => ?_
  walk_at "rk"
  intro r hr1
  have hr0 := e1.back hr1
  have f1 := Ex.new (o := .lst []) hr1
  walk_at "rk"
  refine x_while (fun m σ' H' => ∃ (at_ f : Nat) (st : Vameta.State) (raw' : List (List (List Int))) (out : List Int) (v4 v5 v6 v7 v8 v9 : Option V), σ' = [some (.ref p), some (.ref ka), some (.ref r), some (.int at_), v4, v5, v6, v7, v8, v9] ∧ Ex H H' ∧ KpAt K H' ka st ∧ H' r = some (.lst (out.map V.int)) ∧
    at_ ≤ l.length ∧ m = l.length - at_ ∧ PyFlat.calls PyVameta.shape f (l.drop at_) = some raw' ∧ (∀ c ∈ raw', VametaNeutral.asked1 (PyVameta.whole c) = true) ∧ PyVameta.answers l = out ++ PyFlat.told (PyFlat.played VametaNeutral.step st (raw'.map PyVameta.whole)))
    ⟨l.length, 0, l.length, Vameta.start, raw, [], none, none, none, none, none, none, rfl, e1.trans f1, hk1.e f1, upd_same, Nat.zero_le _, rfl, hraw, hok, hans⟩ ?_
  rintro m σ' H' ⟨at_, f, st, raw', out, v4, v5, v6, v7, v8, v9, rfl, e, hk, hr', hat, rfl, hcs, hok', hout⟩
  have hp' : SqL K H' p (l.map V.int) := e.l hp
  walk_at "rk"
  refine x_len (Or.inl hp') ?_
  rw [List.length_map]
  walk_at "rk"
  refine x_ite (fun c => ?_) (fun c => ?_)
  · refine x_turn ?_
    have c : at_ < l.length := by omega
    have hd : l.drop at_ = l[at_] :: l.drop (at_ + 1) := List.drop_eq_getElem_cons c
    rw [hd] at hcs
    obtain ⟨f, cc, t, cs', rfl, hcall, hcs', rfl⟩ := Mf.calls_cons hcs
    obtain ⟨j, n, k, hj, hjs, hn, hform⟩ := Mf.call_inv hcall
    obtain ⟨ps, pa, hps, hpa, hpa2⟩ := shapes_at T hjs H'
    have hn : at_ + 1 + n ≤ l.length := by
      rw [List.length_drop] at hn
      omega
    have hatv : ∀ (i : Nat) (x : Int), l[i]? = some x → atI (l.map V.int) (i : Int) = some (V.int x) := fun i x h => atI_nat (by rw [List.getElem?_map, h]; rfl)
    have hcut : ∀ a b : Nat, cutV (l.map V.int) (some (a : Int)) (some (b : Int)) = ((l.drop a).take (b - a)).map V.int := fun a b => by
      rw [cutV_mid, List.map_take, List.map_drop]
    walk_at "rk"
    refine x_ixL hp' (hatv _ _ (List.getElem?_eq_getElem c)) ?_
    rw [hj]
    walk_at "rk"
    refine x_ixT hps (atI_nat hpa) ?_
    refine ⟨pa, _, rfl, hpa2, rfl, _, _, rfl, x_name ⟨_, _, rfl, x_name ⟨rfl, ?_⟩⟩⟩
    walk_at "rk"
    refine x_int ?_
    walk_at "rk"
    refine x_int ?_
    rw [show ((at_ : Int) + 1) = ((at_ + 1 : Nat) : Int) from rfl, show ((at_ + 1 : Nat) : Int) + (n : Int) = ((at_ + 1 + n : Nat) : Int) from rfl]
    refine x_slL hp' fun np hnp => ?_
    rw [hcut, show at_ + 1 + n - (at_ + 1) = n by omega]
    have g1 := Ex.new (o := .lst (((l.drop (at_ + 1)).take n).map V.int)) hnp
    have hnl : ((l.drop (at_ + 1)).take n).length = n := by
      rw [List.length_take, List.length_drop]
      omega
    walk_at "rk"
    intro rp hrp
    have g2 := Ex.new (o := .lst []) hrp
    have g12 := g1.trans g2
    have hrn : np ≠ rp := ne_of_none upd_same hrp
    walk_at "rk"
    rcases hform with ⟨rfl, rfl, ht⟩ | ⟨rfl, m, r2, hr2d, hm, rfl, ht⟩
    · walk_at "rk"
      have g : Ex H' _ := g12
      have hrdy : Ready P w K mg base j [(j : Int) :: (l.drop (at_ + 1)).take n] ka _ st (.ref np) (.ref rp) := ready0 D hjs hnl (hk.e g) ⟨np, rfl, g2 _ _ upd_same⟩
      rw [List.drop_drop] at ht
      obtain ⟨cl, sp, hcl, hdeed, hsp⟩ := hrdy
      refine ⟨_, _, _, _, rfl, ka, st, j, cl, sp, rfl, rfl, hdeed, hsp, fun H3 ap e3 hk3 hn3 hd3 => ?_⟩
      walk_at "rk"
      have hr2 := g _ _ hr'
      have hkr : r ≠ ka := fun z => by
        obtain ⟨_, _, _, h1, _⟩ := hk.ex
        rw [z, h1] at hr'
        cases hr'
      have hr3 := e3 _ _ hr2 hkr
      have hst : VametaNeutral.step st (PyVameta.whole [(j : Int) :: (l.drop (at_ + 1)).take n]) = Vameta.step st cl := Mf.step_of hcl
      have hout2 : PyVameta.answers l = (out ++ (((Vameta.step st cl).2.length : Int) :: (Vameta.step st cl).2)) ++ PyFlat.told (PyFlat.played VametaNeutral.step (Vameta.step st cl).1 (cs'.map PyVameta.whole)) := by
        rw [hout, ← hst, List.append_assoc]
        rfl
      have hlen2 := hlen
      rw [hout2, List.length_append, List.length_append, List.length_cons] at hlen2
      refine ⟨x_tyL hr3, ?_⟩
      walk_at "rk"
      refine x_len (Or.inl (sqL hd3)) ?_
      walk_at "rk"
      refine x_append hr3 (sz_lt (by rw [List.length_map]; omega)) ?_
      walk_at "rk"
      refine ⟨x_tyL upd_same, ?_⟩
      walk_at "rk"
      have hapr : ap ≠ r := fun z => by rw [z, hr2] at hn3; cases hn3
      refine x_extend upd_same ((upd_ne hapr).trans hd3) (sz_of (by rw [List.length_append, List.length_map, List.length_map, List.length_singleton]; omega)) ?_
      have eH3 : Ex H H3 := fun b o hb => e3 _ _ (g _ _ (e _ _ hb)) (ne_of_none hb hka)
      refine ⟨l.length - (at_ + 1 + n), by omega, (at_ + 1 + n), f, (Vameta.step st cl).1, cs', out ++ (((Vameta.step st cl).2.length : Int) :: (Vameta.step st cl).2), _, _, _, _, _, _, rfl, (eH3.mut hr0).mut hr0, (hk3.lst hr3 _).lst upd_same _, ?_, by omega, rfl, ?_, fun c hc => hok' c (List.mem_cons_of_mem _ hc), hout2⟩
      · rw [upd_same, List.length_map, List.map_append, List.append_assoc]
        rfl
      · rw [← hcs', ht]
    · have hla : l[at_ + 1 + n]? = some (m : Int) := by
        have : (l.drop (at_ + 1 + n))[0]? = some (m : Int) := by
          rw [← List.drop_drop, hr2d]
          rfl
        rw [List.getElem?_drop] at this
        exact this
      have hr2e : r2 = l.drop (at_ + 1 + n + 1) := by
        rw [show at_ + 1 + n + 1 = (at_ + 1 + n) + 1 from rfl, ← List.drop_drop, ← List.drop_drop, hr2d]
        rfl
      have hltn : at_ + 1 + n < l.length := (List.getElem?_eq_some_iff.mp hla).1
      subst hr2e
      rw [List.length_drop] at hm
      walk_at "rk"
      refine ⟨x_tyL upd_same, ?_⟩
      walk_at "rk"
      refine x_int ?_
      walk_at "rk"
      rw [show ((at_ : Int) + 1 + (n : Int)) = ((at_ + 1 + n : Nat) : Int) from rfl]
      refine x_ixL (g12.l hp') (hatv _ _ hla) ?_
      walk_at "rk"
      refine x_int ?_
      rw [show (((at_ + 1 + n : Nat) : Int) + 1) = ((at_ + 1 + n + 1 : Nat) : Int) from rfl, show (((at_ + 1 + n + 1 : Nat) : Int) + (m : Int)) = ((at_ + 1 + n + 1 + m : Nat) : Int) from rfl]
      refine x_slL (g12.l hp') fun q hq2 => ?_
      rw [hcut, show at_ + 1 + n + 1 + m - (at_ + 1 + n + 1) = m by omega]
      have g3 := Ex.new (o := .lst (((l.drop (at_ + 1 + n + 1)).take m).map V.int)) hq2
      have hqr : rp ≠ q := ne_of_none upd_same hq2
      walk_at "rk"
      refine x_append ((upd_ne hqr).trans upd_same) (sz_lt (by decide)) ?_
      have g := (g12.trans g3).mut (o := .lst ([] ++ [V.ref q])) (g1.back hrp)
      walk_at "rk"
      refine x_ixL (g.l hp') (hatv _ _ hla) ?_
      rw [show (((at_ + 1 + n : Nat) : Int) + 1) = ((at_ + 1 + n + 1 : Nat) : Int) from rfl]
      walk_at "rk"
      rw [show (((at_ + 1 + n + 1 : Nat) : Int) + (m : Int)) = ((at_ + 1 + n + 1 + m : Nat) : Int) from rfl]
      have hrdy : Ready P w K mg base j [(j : Int) :: (l.drop (at_ + 1)).take n, (l.drop (at_ + 1 + n + 1)).take m] ka _ st (.ref np) (.ref rp) := ready1 D hjs hnl (hk.e g) ⟨np, rfl, (upd_ne hrn).trans (g3 _ _ (g2 _ _ upd_same))⟩ upd_same ((upd_ne (Ne.symm hqr)).trans upd_same) (hok' _ List.mem_cons_self)
      rw [List.drop_drop] at ht
      obtain ⟨cl, sp, hcl, hdeed, hsp⟩ := hrdy
      refine ⟨_, _, _, _, rfl, ka, st, j, cl, sp, rfl, rfl, hdeed, hsp, fun H3 ap e3 hk3 hn3 hd3 => ?_⟩
      walk_at "rk"
      have hr2 := g _ _ hr'
      have hkr : r ≠ ka := fun z => by
        obtain ⟨_, _, _, h1, _⟩ := hk.ex
        rw [z, h1] at hr'
        cases hr'
      have hr3 := e3 _ _ hr2 hkr
      have hst : VametaNeutral.step st (PyVameta.whole [(j : Int) :: (l.drop (at_ + 1)).take n, (l.drop (at_ + 1 + n + 1)).take m]) = Vameta.step st cl := Mf.step_of hcl
      have hout2 : PyVameta.answers l = (out ++ (((Vameta.step st cl).2.length : Int) :: (Vameta.step st cl).2)) ++ PyFlat.told (PyFlat.played VametaNeutral.step (Vameta.step st cl).1 (cs'.map PyVameta.whole)) := by
        rw [hout, ← hst, List.append_assoc]
        rfl
      have hlen2 := hlen
      rw [hout2, List.length_append, List.length_append, List.length_cons] at hlen2
      refine ⟨x_tyL hr3, ?_⟩
      walk_at "rk"
      refine x_len (Or.inl (sqL hd3)) ?_
      walk_at "rk"
      refine x_append hr3 (sz_lt (by rw [List.length_map]; omega)) ?_
      walk_at "rk"
      refine ⟨x_tyL upd_same, ?_⟩
      walk_at "rk"
      have hapr : ap ≠ r := fun z => by rw [z, hr2] at hn3; cases hn3
      refine x_extend upd_same ((upd_ne hapr).trans hd3) (sz_of (by rw [List.length_append, List.length_map, List.length_map, List.length_singleton]; omega)) ?_
      have eH3 : Ex H H3 := fun b o hb => e3 _ _ (g _ _ (e _ _ hb)) (ne_of_none hb hka)
      refine ⟨l.length - (at_ + 1 + n + 1 + m), by omega, (at_ + 1 + n + 1 + m), f, (Vameta.step st cl).1, cs', out ++ (((Vameta.step st cl).2.length : Int) :: (Vameta.step st cl).2), _, _, _, _, _, _, rfl, (eH3.mut hr0).mut hr0, (hk3.lst hr3 _).lst upd_same _, ?_, by omega, rfl, ?_, fun c hc => hok' c (List.mem_cons_of_mem _ hc), hout2⟩
      · rw [upd_same, List.length_map, List.map_append, List.append_assoc]
        rfl
      · rw [← hcs', ht]
  · have : at_ = l.length := by omega
    subst this
    rw [List.drop_length, Mf.calls_nil] at hcs
    cases hcs
    have hout : PyVameta.answers l = out := by
      rw [hout]
      exact List.append_nil out
    walk_at "rk"
    exact hq H' r e hr0 (by rw [hout]; exact hr')
end
end RR
/-! part HeadX -/
/-! What the top has written, read off its heap: looks (Bool) and what they tell. -/
namespace RR
open PySem PySem.Spec PyProof.Rows L2
theorem ba {a b : Bool} (h : (a && b) = true) : a = true ∧ b = true := Bool.and_eq_true_iff.mp h
section
variable {K : PySem.W.Frag}
def tupU (K : PySem.W.Frag) (x : Str) (vs : List He.Dv) : Bool := match K.lookup (He.ga K x) with
  | some ⟨.type c, none, .seq its _, _⟩ => decide (c = "tuple") && (decide (its.size ≤ sizeLine) && He.relAll (vs.map (He.Dv.v K)) its.toList)
  | _ => false
theorem tupU_ok {x : Str} {vs : List He.Dv} (h : tupU K x vs = true) : (∀ H, SqT K H (He.ga K x) (vs.map (He.Dv.v K))) ∧ ∀ H, TyU K (.ref (He.ga K x)) H := by
  unfold tupU at h
  cases q : K.lookup (He.ga K x) with
  | none =>
    rw [q] at h
    cases h
  | some o =>
    obtain ⟨oc, od, dt, osl⟩ := o
    rw [q] at h
    cases oc with
    | type c =>
      cases od with
      | none =>
        cases dt with
        | seq its n =>
          obtain ⟨h1, h2⟩ := ba (show (decide (c = "tuple") && (decide (its.size ≤ sizeLine) && He.relAll (vs.map (He.Dv.v K)) its.toList)) = true from h)
          obtain ⟨h3, h4⟩ := ba h2
          exact ⟨fun H => .inr ⟨_, its, n, q, congrArg Value.type (of_decide_eq_true h1), rfl, of_decide_eq_true h3, He.relAll_ok h4⟩, fun H => ⟨_, rfl, .inl ⟨_, q, congrArg Value.type (of_decide_eq_true h1), rfl⟩⟩⟩
        | _ => cases h
      | some a => cases dt <;> cases h
    | _ => cases od <;> cases dt <;> cases h
def entB (K : PySem.W.Frag) : List DictEntry → List (Int × He.Dv) → Bool
  | [], [] => true
  | e :: es, q :: qs => (match e.key with
    | .int i _ => decide (i = q.1)
    | _ => false) && (decide (e.hash = hashInt q.1) && (He.relB (q.2.v K) e.val && entB K es qs))
  | _, _ => false
theorem entB_ok : ∀ {es : List DictEntry} {qs : List (Int × He.Dv)}, entB K es qs = true → ∃ vs : List (Key × Value), (∀ (P : Program) (w : World), (∀ e ∈ es, ∃ k, (mixKind P w).is k e.key = true ∧ e.hash = (mixKind P w).hash k) ∧ Pairs (mixKind P w) es vs) ∧
    vs.map (·.1) = qs.map (fun q => (Sum.inl q.1 : Key)) ∧ KV ((qs.map fun q => (q.1, q.2.v K)).map fun q => ((Sum.inl q.1 : Key), q.2)) vs
  | [], [], _ => ⟨[], fun P w => ⟨fun e he => absurd he (by simp), .nil⟩, rfl, .nil⟩
  | [], _ :: _, h => by cases h
  | _ :: _, [], h => by cases h
  | e :: es, q :: qs, h => by
    obtain ⟨h1, h2⟩ := ba (show ((match e.key with
      | .int i _ => decide (i = q.1)
      | _ => false) && (decide (e.hash = hashInt q.1) && (He.relB (q.2.v K) e.val && entB K es qs))) = true from h)
    obtain ⟨h3, h4⟩ := ba h2
    obtain ⟨h5, h6⟩ := ba h4
    obtain ⟨vs, k1, k2, k3⟩ := entB_ok h6
    have hk : ∃ t, e.key = .int q.1 t := by
      cases ek : e.key with
      | int i t =>
        rw [ek] at h1
        have := of_decide_eq_true h1
        exact ⟨t, by rw [this]⟩
      | _ =>
        rw [ek] at h1
        cases h1
    obtain ⟨t, hk⟩ := hk
    refine ⟨(Sum.inl q.1, e.val) :: vs, fun P w => ⟨fun e' he => ?_, ?_⟩, ?_, ?_⟩
    · rcases List.mem_cons.mp he with rfl | he
      · exact ⟨Sum.inl q.1, by rw [hk]; exact mixKind_int P w q.1 t, of_decide_eq_true h3⟩
      · exact (k1 P w).1 e' he
    · exact .cons (by rw [hk]; exact mixKind_int P w q.1 t) rfl (k1 P w).2
    · rw [List.map_cons, List.map_cons, k2]
    · exact .cons ⟨rfl, He.relB_ok h5⟩ k3
def dicI (K : PySem.W.Frag) (x : Str) (kvs : List (Int × He.Dv)) : Bool := match K.lookup (He.ga K x) with
  | some ⟨.type c, none, .dict es _, sl⟩ => decide (c = "dict") && (sl.isEmpty && (!(He.ga K x == sysModules) && (decide ((kvs.map (·.1)).Nodup) && entB K es.toList kvs)))
  | _ => false
theorem dicI_ok {x : Str} {kvs : List (Int × He.Dv)} (h : dicI K x kvs = true) : KDi K (He.ga K x) (kvs.map fun q => (q.1, q.2.v K)) := by
  unfold dicI at h
  cases q : K.lookup (He.ga K x) with
  | none =>
    rw [q] at h
    cases h
  | some o =>
    obtain ⟨oc, od, dt, osl⟩ := o
    rw [q] at h
    cases oc with
    | type c =>
      cases od with
      | none =>
        cases dt with
        | dict es n =>
          obtain ⟨h1, h2⟩ := ba (show (decide (c = "dict") && (osl.isEmpty && (!(He.ga K x == sysModules) && (decide ((kvs.map (·.1)).Nodup) && entB K es.toList kvs)))) = true from h)
          obtain ⟨h3, h4⟩ := ba h2
          obtain ⟨h5, h6⟩ := ba h4
          obtain ⟨h7, h8⟩ := ba h6
          obtain ⟨vs, k1, k2, k3⟩ := entB_ok h8
          have e1 : c = "dict" := of_decide_eq_true h1
          have nd : (kvs.map (·.1)).Nodup := of_decide_eq_true h7
          refine ⟨⟨_, es, n, vs, q, ⟨congrArg Value.type e1, rfl, Array.isEmpty_iff.mp h3⟩, rfl, fun P w => ⟨fun e he => (k1 P w).1 e (by simpa using he), (k1 P w).2⟩, ?_, k3⟩, ?_⟩
          · rw [k2]
            have : (kvs.map fun q => (Sum.inl q.1 : Key)) = (kvs.map (·.1)).map Sum.inl := by rw [List.map_map]; rfl
            rw [this]
            exact List.Pairwise.map _ (fun a b hab e => hab (Sum.inl.inj e)) nd
          · cases y : He.ga K x == sysModules with
            | false => rfl
            | true =>
              rw [y] at h5
              cases h5
        | _ => cases h
      | some a => cases dt <;> cases h
    | _ => cases od <;> cases dt <;> cases h
def pairB (K : PySem.W.Frag) (v : Value) (q : Int × Int) : Bool := match v with
  | .ref p => (match K.lookup p with
    | some ⟨.type c, _, .seq its _, _⟩ => decide (c = "tuple") && (decide (its.size ≤ sizeLine) && He.relAll [V.int q.1, V.int q.2] its.toList)
    | _ => false)
  | _ => false
def pairsB (K : PySem.W.Frag) : List Value → List (Int × Int) → Bool
  | [], [] => true
  | v :: vs, q :: qs => pairB K v q && pairsB K vs qs
  | _, _ => false
theorem pairsB_ok : ∀ {vs : List Value} {qs : List (Int × Int)}, pairsB K vs qs = true → ∃ ps : List Addr, vs = ps.map Value.ref ∧ ∀ H, Paired (fun (p : Addr) (q : Int × Int) => SqT K H p [V.int q.1, V.int q.2]) ps qs
  | [], [], _ => ⟨[], rfl, fun _ => .nil⟩
  | [], _ :: _, h => by cases h
  | _ :: _, [], h => by cases h
  | v :: vs, q :: qs, h => by
    obtain ⟨h1, h2⟩ := ba (show (pairB K v q && pairsB K vs qs) = true from h)
    obtain ⟨ps, e, k⟩ := pairsB_ok h2
    cases v with
    | ref p =>
      have h3 : (match K.lookup p with
        | some ⟨.type c, _, .seq its _, _⟩ => decide (c = "tuple") && (decide (its.size ≤ sizeLine) && He.relAll [V.int q.1, V.int q.2] its.toList)
        | _ => false) = true := h1
      refine ⟨p :: ps, by rw [e]; rfl, fun H => .cons ?_ (k H)⟩
      cases z : K.lookup p with
      | none =>
        rw [z] at h3
        cases h3
      | some o =>
        obtain ⟨oc, od, dt, osl⟩ := o
        rw [z] at h3
        cases oc with
        | type c =>
          cases dt with
          | seq its n =>
            obtain ⟨h4, h5⟩ := ba (show (decide (c = "tuple") && (decide (its.size ≤ sizeLine) && He.relAll [V.int q.1, V.int q.2] its.toList)) = true from h3)
            obtain ⟨h6, h7⟩ := ba h5
            exact .inr ⟨_, its, n, z, congrArg Value.type (of_decide_eq_true h4), rfl, of_decide_eq_true h6, He.relAll_ok h7⟩
          | _ => cases h3
        | _ => cases dt <;> cases h3
    | _ => cases h1
def tup2B (K : PySem.W.Frag) (x : Str) (qs : List (Int × Int)) : Bool := match K.lookup (He.ga K x) with
  | some ⟨.type c, _, .seq its _, _⟩ => decide (c = "tuple") && (decide (its.size ≤ sizeLine) && pairsB K its.toList qs)
  | _ => false
theorem vals_refs : ∀ ps : List Addr, Vals (ps.map V.ref) (ps.map Value.ref)
  | [] => .nil
  | _ :: r => .cons rfl (vals_refs r)
theorem tup2B_ok {x : Str} {qs : List (Int × Int)} (h : tup2B K x qs = true) : ∃ ps : List Addr, (∀ H, SqT K H (He.ga K x) (ps.map V.ref)) ∧ ∀ H, Paired (fun (p : Addr) (q : Int × Int) => SqT K H p [V.int q.1, V.int q.2]) ps qs := by
  unfold tup2B at h
  cases q : K.lookup (He.ga K x) with
  | none =>
    rw [q] at h
    cases h
  | some o =>
    obtain ⟨oc, od, dt, osl⟩ := o
    rw [q] at h
    cases oc with
    | type c =>
      cases dt with
      | seq its n =>
        obtain ⟨h1, h2⟩ := ba (show (decide (c = "tuple") && (decide (its.size ≤ sizeLine) && pairsB K its.toList qs)) = true from h)
        obtain ⟨h3, h4⟩ := ba h2
        obtain ⟨ps, e, k⟩ := pairsB_ok h4
        exact ⟨ps, fun H => .inr ⟨_, its, n, q, congrArg Value.type (of_decide_eq_true h1), rfl, of_decide_eq_true h3, by rw [e]; exact vals_refs ps⟩, k⟩
      | _ => cases h
    | _ => cases dt <;> cases h
/-- an own error class over ValueError, whatever its __init__ -/
def oexB (K : PySem.W.Frag) (C : Addr) : Bool := (match K.lookup C with
  | some ⟨.type t, _, .cls cd, sl⟩ => (match cd.mro, sl.toList with
    | .ref C' :: bm, [_, _, _, _, some (.builtin n), _] => decide (t = "type") && (decide (C' = C) && (decide (n = "ValueError.__new__") && (!cd.hasDel && (cd.hasDict && PySem.HandSPX.refsVE bm))))
    | _, _ => false)
  | _ => false) && (decide (PySem.W.findIn K (.ref C) "__setattr__" = some (some (.builtin "object.__setattr__"))) && (decide (PySem.W.subIn K (.ref C) (.type "BaseException") = some true) && (decide (PySem.W.typeIn K (.ref C) = some (.type "type")) && PySem.W.keepIn K (.ref C))))
theorem oexB_ok {C : Addr} (h : oexB K C = true) : OexC K C := by
  obtain ⟨h1, h⟩ := ba h
  obtain ⟨h2, h⟩ := ba h
  obtain ⟨h3, h⟩ := ba h
  obtain ⟨h4, h5⟩ := ba h
  refine ⟨?_, of_decide_eq_true h2, of_decide_eq_true h3, of_decide_eq_true h4, h5⟩
  split at h1
  · rename_i t dd cd sl ho
    split at h1
    · rename_i C' bm k0 k1 k2 k3 n k5 hm hs
      obtain ⟨g1, g⟩ := ba h1
      obtain ⟨g2, g⟩ := ba g
      obtain ⟨g3, g⟩ := ba g
      obtain ⟨g4, g⟩ := ba g
      obtain ⟨g5, g6⟩ := ba g
      have e1 := of_decide_eq_true g1
      have e2 := of_decide_eq_true g2
      have e3 := of_decide_eq_true g3
      subst e1 e2 e3
      obtain ⟨nm, bs, mro, ns, qn, hd, sn, sub, ab, col, del⟩ := cd
      dsimp only at hm g4 g5
      have e4 : del = false := by simpa using g4
      subst hm e4 g5
      have hsl : sl = #[k0, k1, k2, k3, some (.builtin "ValueError.__new__"), k5] := by
        obtain ⟨l⟩ := sl
        simp only at hs
        rw [hs]
      subst hsl
      exact ⟨nm, qn, ns, bs, bm, sn, sub, ab, col, dd, k0, k1, k2, k3, k5, ho, g6⟩
    · cases h1
  · cases h1
def iniB (K : PySem.W.Frag) (C : Addr) : Bool := decide (PySem.W.findIn K (.ref C) "__init__" = some (some (.ref (He.ma K C "__init__")))) && decide (PySem.W.typeIn K (.ref (He.ma K C "__init__")) = some (.type "function"))
def noB (K : PySem.W.Frag) (C : Addr) (f : Str) : Bool := decide (PySem.W.findIn K (.ref C) f = some none)
/-! ### defs -/
abbrev FnP (K : PySem.W.Frag) (x qual : Str) (st : Stmt) (f : Addr) (fd : FuncData) : Prop := FunD K x qual (defArgs st) (defBody st) (defScope st) [] [] f fd
theorem fun_of {x qual : Str} {st : Stmt} {f : Addr} {fd : FuncData} (F : FnP K x qual st f fd) : Fun K x qual st f fd := by
  obtain ⟨oc, od, dV, kV, doc, pm, an, cdv, ct, osl, rfl, lk, hcd, hd, hk⟩ := F.ex
  have e : dV = .none := by
    rcases hd with ⟨_, e⟩ | ⟨e, _⟩
    · exact e
    · exact absurd rfl e
  subst e
  exact ⟨⟨oc, od, kV, doc, pm, an, cdv, ct, osl, rfl, lk, hcd⟩, F.kp⟩
section
variable {mg : Str → Option Value} {x qual : Str} {st : Stmt} {f C : Addr} {fd : FuncData} {ps : List Str}
abbrev BindsOk (x qual : Str) (st : Stmt) (ps : List Str) : Prop := ∀ (kV doc pm : Value) (an : Option Addr) (cdv ct : Value) (us : List Value), us.length = ps.length → bindArgs (PySem.W.fnOf x qual (defArgs st) (defBody st) (defScope st) .none kV doc pm an cdv ct) ⟨us, []⟩ = pure (ps.zip us)
theorem defAt_mk (F : ∃ fd, FnP K x x st (He.ga K x) fd) (hm : mg x = some (.ref (He.ga K x))) (hb : BindsOk x x st ps) : DefAt K mg x st ps := by
  obtain ⟨fd, F⟩ := F
  exact ⟨_, fd, fun_of F, hm, (fun_of F).binds hb⟩
theorem metAt_mk (F : ∃ fd, FnP K x qual st (He.ma K C x) fd) (hm : Meth K C x (He.ma K C x)) (hb : BindsOk x qual st ps) : MetAt K C x qual st ps := by
  obtain ⟨fd, F⟩ := F
  exact ⟨_, fd, fun_of F, hm, (fun_of F).binds hb⟩
theorem iniAt_mk {y : Str} (F : ∃ fd, FnP K "__init__" qual st (He.ma K C "__init__") fd) (hm : Mk K C (He.ma K C "__init__")) (hg : mg y = some (.ref C)) (hb : BindsOk "__init__" qual st ps) : IniAt K mg y C qual st ps := by
  obtain ⟨fd, F⟩ := F
  exact ⟨_, fd, fun_of F, hm, hg, (fun_of F).binds hb⟩
theorem iniE_mk {y : Str} (F : ∃ fd, FnP K "__init__" qual st (He.ma K C "__init__") fd) (ox : OexC K C) (hi : iniB K C = true) (hg : mg y = some (.ref C)) (hb : BindsOk "__init__" qual st ps) : IniE K mg y C qual st ps := by
  obtain ⟨fd, F⟩ := F
  obtain ⟨h1, h2⟩ := ba hi
  exact ⟨_, fd, fun_of F, ox, of_decide_eq_true h1, of_decide_eq_true h2, hg, (fun_of F).binds hb⟩
end
end
/-! ### the Hook: the part of the heap at written addresses, reckoned once -/
abbrev AlR : Type := He.AlD × Bool
def withK {α : Type} (g : Addr → Option Obj) : List Addr → PySem.W.Frag → (PySem.W.Frag → α) → α
  | [], acc, k => k acc
  | a :: as, acc, k => match g a with
    | some o => withK g as ((a, o) :: acc) k
    | none => withK g as acc k
theorem withK_is {α : Type} (g : Addr → Option Obj) (k : PySem.W.Frag → α) : ∀ (as : List Addr) (acc : PySem.W.Frag), ∃ K : PySem.W.Frag, withK g as acc k = k K ∧ ∀ a o, K.lookup a = some o → g a = some o ∨ acc.lookup a = some o
  | [], acc => ⟨acc, rfl, fun _ _ h => .inr h⟩
  | a :: as, acc => by
    cases e : g a with
    | none =>
      obtain ⟨K, h1, h2⟩ := withK_is g k as acc
      refine ⟨K, ?_, h2⟩
      show (match g a with
        | some o => withK g as ((a, o) :: acc) k
        | none => withK g as acc k) = k K
      rw [e]
      exact h1
    | some ob =>
      obtain ⟨K, h1, h2⟩ := withK_is g k as ((a, ob) :: acc)
      refine ⟨K, ?_, fun b o h => ?_⟩
      · show (match g a with
          | some o => withK g as ((a, o) :: acc) k
          | none => withK g as acc k) = k K
        rw [e]
        exact h1
      · rcases h2 b o h with h | h
        · exact .inl h
        · have h3 : (match b == a with | true => some ob | false => List.lookup b acc) = some o := h
          cases q : (b == a) with
          | true =>
            rw [q] at h3
            have e2 : ob = o := Option.some.inj h3
            rw [beq_iff_eq.mp q, e, e2]
            exact .inl rfl
          | false =>
            rw [q] at h3
            exact .inr h3
def obsR (as : List Addr) (fa : List He.Fa) (fn : List He.DefD) (ex : PySem.W.Frag → Bool) (g : Addr → Option Obj) : AlR := withK g as [] fun K => (He.obsD fa fn K, ex K)
structure SaysR (fa : List He.Fa) (fn : List He.DefD) (ex : PySem.W.Frag → Bool) (K : PySem.W.Frag) : Prop where
  d : He.SaysD fa fn K
  x : ex K = true
def hookR (as : List Addr) (fa : List He.Fa) (fn : List He.DefD) (ex : PySem.W.Frag → Bool) : PySem.W.Hook where
  α := AlR
  obs := fun s => obsR as fa fn ex s.heap.get?
  val := fun _ => (He.valD fn, true)
  says := fun _ h => ∃ K : PySem.W.Frag, K.In h ∧ SaysR fa fn ex K
  of := fun _ s e => by
    obtain ⟨K, h1, h2⟩ := withK_is s.heap.get? (fun K => (He.obsD fa fn K, ex K)) as []
    have e2 : (He.obsD fa fn K, ex K) = (He.valD fn, true) := h1.symm.trans e
    refine ⟨K, fun a o h => ?_, ⟨congrArg (fun z : AlR => z.1) e2, congrArg (fun z : AlR => z.2) e2⟩⟩
    rcases h2 a o h with h | h
    · exact h
    · exact nomatch (show (none : Option Obj) = some o from h)
  keeps := fun _ _ _ ⟨K, hK, c⟩ k => ⟨K, PySem.W.Frag.In.keeps hK k, c⟩
theorem obsR_eq {as : List Addr} {fa : List He.Fa} {fn : List He.DefD} {ex : PySem.W.Frag → Bool} {g : Addr → Option Obj} {s : Shared} (h : ∀ a, g a = s.heap.get? a) : obsR as fa fn ex g = (hookR as fa fn ex).obs s := by
  have e : g = s.heap.get? := funext h
  rw [e] <;> rfl
/-! ### the end of a Spec row, the written part by the head's word -/
theorem walk_specE {r : PySem.W.OpenSpec} {k : Nat} {q : Program} {loose : List Str} {XP : (Str → Option Value) → Heap → Prop} {YP : World → Heap → Prop} {d : DefRec} {ps : List Str}
    (hwell : r.wellSaid = true) (hlen : r.args.length = ps.length) (hr : Room k callerA)
    (F : ∀ (w : World) (mg : Str → Option Value) (fa : Addr) (h : Heap), YP w h → h.Ns mainGlobals mg → mg d.name = some (.ref fa) →
      ∃ (K : PySem.W.Frag) (fd : FuncData) (sp : Sp), K.In h ∧ (∀ (s : Shared) (us : List Value), us.length = ps.length → BindsTo s fd ⟨us, []⟩ (ps.zip us)) ∧
        (∀ base : Heap, K.In base → base.Ns mainGlobals mg → FnOk r.prog w K mg base CX0 k fa fd ps sp) ∧
        ∀ (H : Hp) (xs : List V) (a : PySem.W.Codec.denoteAll r.args), OnlyF H → PySem.W.Codec.withinAll r.args a = true → PySem.W.Codec.app r.args r.asked a = true → DwAll K H xs (PySem.W.Codec.encAll r.args a) →
          sp xs H (fun v H' => Dw K H' v (r.ret.enc (PySem.W.Codec.app r.args r.f a))) fun _ _ _ => False) :
    PySem.W.WalkOS q loose XP YP r d [] (fun f vs => PySem.call f vs) := by
  intro w s₀ s₁ mg mb G Y fa o pm cd doc dV kV ho hd hcd hD hmg hg args vals as hpre hlay hrd hwl hlo
  obtain ⟨a, e1, e2⟩ := PySem.W.os_pre_some hpre
  obtain ⟨e3, hwi⟩ := PySem.W.Codec.encAll_of_decAll r.args args a e1
  subst e3
  obtain ⟨K, fd, sp, KX, hb, hF, hsp⟩ := F w mg fa _ Y G.T.g hmg
  refine PySem.W.enter_call (codeAny_mono (spec_call (R := []) (cl := classAt s₀.heap) (d0 := r.ret.enc (PySem.W.Codec.app r.args r.f a)) KX G.T.g G.T.b G.T.builtins G.T.nolimit hg hwl (pl_encAll _ _) (layable_weight hlay) hr hF hb (by rw [encAll_len]; exact hlen)
    (fun H xs hO hS => hsp H xs a hO hwi e2 hS) fun H e s' z => z) fun r' s' hq => ?_)
  obtain ⟨u, as', rfl, h1, h2, h3, h4⟩ := hq
  exact ⟨.inl ⟨u, _, as', rfl, fun _ => rfl, h1, (PySem.W.OpenSpec.post_iff hwell hwi _ _).mpr rfl, fun z => Bool.noConfusion (show false = true from z)⟩, h2, h3, h4⟩
end RR
/-! part Head -/
/-! The head's facts by names (printed by gen.py). -/
namespace RR
open PySem PySem.Spec PyProof.Rows L2
def dd_turned_on : He.DefD := ⟨("turned_on", none), "turned_on", "turned_on", defArgs s_turned_on, defBody s_turned_on, defScope s_turned_on, [], []⟩
def dd_once_each : He.DefD := ⟨("once_each", none), "once_each", "once_each", defArgs s_once_each, defBody s_once_each, defScope s_once_each, [], []⟩
def dd_differences : He.DefD := ⟨("differences", none), "differences", "differences", defArgs s_differences, defBody s_differences, defScope s_differences, [], []⟩
def dd_running_sums : He.DefD := ⟨("running_sums", none), "running_sums", "running_sums", defArgs s_running_sums, defBody s_running_sums, defScope s_running_sums, [], []⟩
def dd_by_number : He.DefD := ⟨("by_number", none), "by_number", "by_number", defArgs s_by_number, defBody s_by_number, defScope s_by_number, [], []⟩
def dd_by_itself : He.DefD := ⟨("by_itself", none), "by_itself", "by_itself", defArgs s_by_itself, defBody s_by_itself, defScope s_by_itself, [], []⟩
def dd_stepped : He.DefD := ⟨("stepped", none), "stepped", "stepped", defArgs s_stepped, defBody s_stepped, defScope s_stepped, [], []⟩
def dd_run_on : He.DefD := ⟨("run_on", none), "run_on", "run_on", defArgs s_run_on, defBody s_run_on, defScope s_run_on, [], []⟩
def dd_rows_on : He.DefD := ⟨("rows_on", none), "rows_on", "rows_on", defArgs s_rows_on, defBody s_rows_on, defScope s_rows_on, [], []⟩
def dd_is_so : He.DefD := ⟨("is_so", none), "is_so", "is_so", defArgs s_is_so, defBody s_is_so, defScope s_is_so, [], []⟩
def dd_stands : He.DefD := ⟨("stands", none), "stands", "stands", defArgs s_stands, defBody s_stands, defScope s_stands, [], []⟩
def dd_sides_at : He.DefD := ⟨("sides_at", none), "sides_at", "sides_at", defArgs s_sides_at, defBody s_sides_at, defScope s_sides_at, [], []⟩
def dd_verdict_of : He.DefD := ⟨("verdict_of", none), "verdict_of", "verdict_of", defArgs s_verdict_of, defBody s_verdict_of, defScope s_verdict_of, [], []⟩
def dd_many_inputs : He.DefD := ⟨("many_inputs", none), "many_inputs", "many_inputs", defArgs s_many_inputs, defBody s_many_inputs, defScope s_many_inputs, [], []⟩
def dd_input_of : He.DefD := ⟨("input_of", none), "input_of", "input_of", defArgs s_input_of, defBody s_input_of, defScope s_input_of, [], []⟩
def dd_Fault___init__ : He.DefD := ⟨("Fault", some "__init__"), "__init__", "Fault.__init__", defArgs s_Fault___init__, defBody s_Fault___init__, defScope s_Fault___init__, [], []⟩
def dd_Token___init__ : He.DefD := ⟨("Token", some "__init__"), "__init__", "Token.__init__", defArgs s_Token___init__, defBody s_Token___init__, defScope s_Token___init__, [], []⟩
def dd_is_letter : He.DefD := ⟨("is_letter", none), "is_letter", "is_letter", defArgs s_is_letter, defBody s_is_letter, defScope s_is_letter, [], []⟩
def dd_is_digit : He.DefD := ⟨("is_digit", none), "is_digit", "is_digit", defArgs s_is_digit, defBody s_is_digit, defScope s_is_digit, [], []⟩
def dd_word_at : He.DefD := ⟨("word_at", none), "word_at", "word_at", defArgs s_word_at, defBody s_word_at, defScope s_word_at, [], []⟩
def dd_number_at : He.DefD := ⟨("number_at", none), "number_at", "number_at", defArgs s_number_at, defBody s_number_at, defScope s_number_at, [], []⟩
def dd_token_at : He.DefD := ⟨("token_at", none), "token_at", "token_at", defArgs s_token_at, defBody s_token_at, defScope s_token_at, [], []⟩
def dd_tokens_of : He.DefD := ⟨("tokens_of", none), "tokens_of", "tokens_of", defArgs s_tokens_of, defBody s_tokens_of, defScope s_tokens_of, [], []⟩
def dd_Reader___init__ : He.DefD := ⟨("Reader", some "__init__"), "__init__", "Reader.__init__", defArgs s_Reader___init__, defBody s_Reader___init__, defScope s_Reader___init__, [], []⟩
def dd_Reader_token : He.DefD := ⟨("Reader", some "token"), "token", "Reader.token", defArgs s_Reader_token, defBody s_Reader_token, defScope s_Reader_token, [], []⟩
def dd_Reader_step : He.DefD := ⟨("Reader", some "step"), "step", "Reader.step", defArgs s_Reader_step, defBody s_Reader_step, defScope s_Reader_step, [], []⟩
def dd_Reader_refuse : He.DefD := ⟨("Reader", some "refuse"), "refuse", "Reader.refuse", defArgs s_Reader_refuse, defBody s_Reader_refuse, defScope s_Reader_refuse, [], []⟩
def dd_Reader_is_sign : He.DefD := ⟨("Reader", some "is_sign"), "is_sign", "Reader.is_sign", defArgs s_Reader_is_sign, defBody s_Reader_is_sign, defScope s_Reader_is_sign, [], []⟩
def dd_Reader_take_sign : He.DefD := ⟨("Reader", some "take_sign"), "take_sign", "Reader.take_sign", defArgs s_Reader_take_sign, defBody s_Reader_take_sign, defScope s_Reader_take_sign, [], []⟩
def dd_Reader_take_word : He.DefD := ⟨("Reader", some "take_word"), "take_word", "Reader.take_word", defArgs s_Reader_take_word, defBody s_Reader_take_word, defScope s_Reader_take_word, [], []⟩
def dd_Reader_take_number : He.DefD := ⟨("Reader", some "take_number"), "take_number", "Reader.take_number", defArgs s_Reader_take_number, defBody s_Reader_take_number, defScope s_Reader_take_number, [], []⟩
def dd_Reader_take_signed : He.DefD := ⟨("Reader", some "take_signed"), "take_signed", "Reader.take_signed", defArgs s_Reader_take_signed, defBody s_Reader_take_signed, defScope s_Reader_take_signed, [], []⟩
def dd_Reader_take_step : He.DefD := ⟨("Reader", some "take_step"), "take_step", "Reader.take_step", defArgs s_Reader_take_step, defBody s_Reader_take_step, defScope s_Reader_take_step, [], []⟩
def dd_Reader_take_steps : He.DefD := ⟨("Reader", some "take_steps"), "take_steps", "Reader.take_steps", defArgs s_Reader_take_steps, defBody s_Reader_take_steps, defScope s_Reader_take_steps, [], []⟩
def dd_Reader_take_condition : He.DefD := ⟨("Reader", some "take_condition"), "take_condition", "Reader.take_condition", defArgs s_Reader_take_condition, defBody s_Reader_take_condition, defScope s_Reader_take_condition, [], []⟩
def dd_Reader_take_relation : He.DefD := ⟨("Reader", some "take_relation"), "take_relation", "Reader.take_relation", defArgs s_Reader_take_relation, defBody s_Reader_take_relation, defScope s_Reader_take_relation, [], []⟩
def dd_Reader_take_text : He.DefD := ⟨("Reader", some "take_text"), "take_text", "Reader.take_text", defArgs s_Reader_take_text, defBody s_Reader_take_text, defScope s_Reader_take_text, [], []⟩
def dd_read_text : He.DefD := ⟨("read_text", none), "read_text", "read_text", defArgs s_read_text, defBody s_read_text, defScope s_read_text, [], []⟩
def dd_worded : He.DefD := ⟨("worded", none), "worded", "worded", defArgs s_worded, defBody s_worded, defScope s_worded, [], []⟩
def dd_steps_words : He.DefD := ⟨("steps_words", none), "steps_words", "steps_words", defArgs s_steps_words, defBody s_steps_words, defScope s_steps_words, [], []⟩
def dd_text_rows : He.DefD := ⟨("text_rows", none), "text_rows", "text_rows", defArgs s_text_rows, defBody s_text_rows, defScope s_text_rows, [], []⟩
def dd_code_of : He.DefD := ⟨("code_of", none), "code_of", "code_of", defArgs s_code_of, defBody s_code_of, defScope s_code_of, [], []⟩
def dd_text_bytes : He.DefD := ⟨("text_bytes", none), "text_bytes", "text_bytes", defArgs s_text_bytes, defBody s_text_bytes, defScope s_text_bytes, [], []⟩
def dd_Refused___init__ : He.DefD := ⟨("Refused", some "__init__"), "__init__", "Refused.__init__", defArgs s_Refused___init__, defBody s_Refused___init__, defScope s_Refused___init__, [], []⟩
def dd_Keeper___init__ : He.DefD := ⟨("Keeper", some "__init__"), "__init__", "Keeper.__init__", defArgs s_Keeper___init__, defBody s_Keeper___init__, defScope s_Keeper___init__, [], []⟩
def dd_Keeper_hold_text : He.DefD := ⟨("Keeper", some "hold_text"), "hold_text", "Keeper.hold_text", defArgs s_Keeper_hold_text, defBody s_Keeper_hold_text, defScope s_Keeper_hold_text, [], []⟩
def dd_Keeper_hold_bound : He.DefD := ⟨("Keeper", some "hold_bound"), "hold_bound", "Keeper.hold_bound", defArgs s_Keeper_hold_bound, defBody s_Keeper_hold_bound, defScope s_Keeper_hold_bound, [], []⟩
def dd_require : He.DefD := ⟨("require", none), "require", "require", defArgs s_require, defBody s_require, defScope s_require, [], []⟩
def dd_require_text : He.DefD := ⟨("require_text", none), "require_text", "require_text", defArgs s_require_text, defBody s_require_text, defScope s_require_text, [], []⟩
def dd_relation_of : He.DefD := ⟨("relation_of", none), "relation_of", "relation_of", defArgs s_relation_of, defBody s_relation_of, defScope s_relation_of, [], []⟩
def dd_row_of : He.DefD := ⟨("row_of", none), "row_of", "row_of", defArgs s_row_of, defBody s_row_of, defScope s_row_of, [], []⟩
def dd_as_numbers : He.DefD := ⟨("as_numbers", none), "as_numbers", "as_numbers", defArgs s_as_numbers, defBody s_as_numbers, defScope s_as_numbers, [], []⟩
def dd_steps_numbers : He.DefD := ⟨("steps_numbers", none), "steps_numbers", "steps_numbers", defArgs s_steps_numbers, defBody s_steps_numbers, defScope s_steps_numbers, [], []⟩
def dd_outcome : He.DefD := ⟨("outcome", none), "outcome", "outcome", defArgs s_outcome, defBody s_outcome, defScope s_outcome, [], []⟩
def dd_sides_numbers : He.DefD := ⟨("sides_numbers", none), "sides_numbers", "sides_numbers", defArgs s_sides_numbers, defBody s_sides_numbers, defScope s_sides_numbers, [], []⟩
def dd_load : He.DefD := ⟨("load", none), "load", "load", defArgs s_load, defBody s_load, defScope s_load, [], []⟩
def dd_shown : He.DefD := ⟨("shown", none), "shown", "shown", defArgs s_shown, defBody s_shown, defScope s_shown, [], []⟩
def dd_told : He.DefD := ⟨("told", none), "told", "told", defArgs s_told, defBody s_told, defScope s_told, [], []⟩
def dd_run : He.DefD := ⟨("run", none), "run", "run", defArgs s_run, defBody s_run, defScope s_run, [], []⟩
def dd_all_rows : He.DefD := ⟨("all_rows", none), "all_rows", "all_rows", defArgs s_all_rows, defBody s_all_rows, defScope s_all_rows, [], []⟩
def dd_turned : He.DefD := ⟨("turned", none), "turned", "turned", defArgs s_turned, defBody s_turned, defScope s_turned, [], []⟩
def dd_sides : He.DefD := ⟨("sides", none), "sides", "sides", defArgs s_sides, defBody s_sides, defScope s_sides, [], []⟩
def dd_verdict : He.DefD := ⟨("verdict", none), "verdict", "verdict", defArgs s_verdict, defBody s_verdict, defScope s_verdict, [], []⟩
def dd_bound : He.DefD := ⟨("bound", none), "bound", "bound", defArgs s_bound, defBody s_bound, defScope s_bound, [], []⟩
def dd_numbered : He.DefD := ⟨("numbered", none), "numbered", "numbered", defArgs s_numbered, defBody s_numbered, defScope s_numbered, [], []⟩
def dd_one_input : He.DefD := ⟨("one_input", none), "one_input", "one_input", defArgs s_one_input, defBody s_one_input, defScope s_one_input, [], []⟩
def dd_at_input : He.DefD := ⟨("at_input", none), "at_input", "at_input", defArgs s_at_input, defBody s_at_input, defScope s_at_input, [], []⟩
def dd_answer_to : He.DefD := ⟨("answer_to", none), "answer_to", "answer_to", defArgs s_answer_to, defBody s_answer_to, defScope s_answer_to, [], []⟩
def dd_answers : He.DefD := ⟨("answers", none), "answers", "answers", defArgs s_answers, defBody s_answers, defScope s_answers, [], []⟩
def fnR0 : List He.DefD := [dd_turned_on, dd_once_each, dd_differences, dd_running_sums, dd_by_number, dd_by_itself, dd_stepped, dd_run_on, dd_rows_on, dd_is_so, dd_stands, dd_sides_at, dd_verdict_of, dd_many_inputs, dd_input_of, dd_Fault___init__, dd_Token___init__, dd_is_letter, dd_is_digit, dd_word_at, dd_number_at, dd_token_at, dd_tokens_of, dd_Reader___init__, dd_Reader_token, dd_Reader_step, dd_Reader_refuse, dd_Reader_is_sign, dd_Reader_take_sign, dd_Reader_take_word]
def fnR1 : List He.DefD := [dd_Reader_take_number, dd_Reader_take_signed, dd_Reader_take_step, dd_Reader_take_steps, dd_Reader_take_condition, dd_Reader_take_relation, dd_Reader_take_text, dd_read_text, dd_worded, dd_steps_words, dd_text_rows, dd_code_of, dd_text_bytes, dd_Refused___init__, dd_Keeper___init__, dd_Keeper_hold_text, dd_Keeper_hold_bound, dd_require, dd_require_text, dd_relation_of, dd_row_of, dd_as_numbers, dd_steps_numbers, dd_outcome, dd_sides_numbers, dd_load, dd_shown, dd_told, dd_run, dd_all_rows]
def fnR2 : List He.DefD := [dd_turned, dd_sides, dd_verdict, dd_bound, dd_numbered, dd_one_input, dd_at_input, dd_answer_to, dd_answers]
def fnR : List He.DefD := fnR0 ++ fnR1 ++ fnR2
def faR0 : List He.Fa := [.free "len", .free "set", .free "abs", .free "sum", .free "max", .free "min", .free "sorted", .free "any", .free "all", .free "list", .free "tuple", .free "str", .free "range", .free "zip", .int "MOST_NUMBERS" 40, .int "FARTHEST_running" 1000000, .int "KEPT" 0, .int "BROKEN" 1, .int "OFF" 2, .str "LETTERS" "abcdefghijklmnopqrstuvwxyz", .glo "SIGNS", .glo "BLANKS", .int "LONGEST_WORD" 8, .int "MOST_DIGITS" 2, .int "WORD" 0, .int "NUMBER" 1, .int "SIGN" 2, .int "END" 3, .glo "STEPS", .glo "SIGNED"]
def faR1 : List He.Fa := [.glo "COUNTED", .glo "CONDITIONS", .glo "STANDS", .int "MOST_STEPS" 8, .int "MOST_RELATIONS" 12, .int "MOST_COUNT" 9, .int "MOST_BYTES" 1500, .int "MOST_INPUTS" 1500, .int "LONGEST" 8, .int "FARTHEST_relations" 99, .glo "SHAPES", .glo "DEEDS", .cls "Token", .noat "Token" "kind", .noat "Token" "word", .noat "Token" "number", .noat "Token" "place", .cls "Reader", .noat "Reader" "tokens", .noat "Reader" "at", .cls "Keeper", .noat "Keeper" "text", .noat "Keeper" "bound", .glo "Fault", .exm "Fault" "Fault" true, .glo "Refused", .exm "Refused" "Refused" true, .exc "Beyond", .glo "Beyond", .exm "Beyond" "Beyond" true]
def faR2 : List He.Fa := [.exm "Beyond" "Refused" false, .glo "load", .glo "shown", .glo "told", .glo "run", .glo "all_rows", .glo "turned", .glo "sides", .glo "verdict", .glo "bound", .glo "one_input", .glo "at_input", .glo "turned_on", .glo "once_each", .glo "differences", .glo "running_sums", .glo "by_number", .glo "by_itself", .glo "stepped", .glo "run_on", .glo "rows_on", .glo "is_so", .glo "stands", .glo "sides_at", .glo "verdict_of", .glo "many_inputs", .glo "input_of", .mkr "Token", .glo "Token", .glo "is_letter"]
def faR3 : List He.Fa := [.glo "is_digit", .glo "word_at", .glo "number_at", .glo "token_at", .glo "tokens_of", .mkr "Reader", .glo "Reader", .meth "Reader" "token", .meth "Reader" "step", .meth "Reader" "refuse", .meth "Reader" "is_sign", .meth "Reader" "take_sign", .meth "Reader" "take_word", .meth "Reader" "take_number", .meth "Reader" "take_signed", .meth "Reader" "take_step", .meth "Reader" "take_steps", .meth "Reader" "take_condition", .meth "Reader" "take_relation", .meth "Reader" "take_text", .glo "read_text", .glo "worded", .glo "steps_words", .glo "text_rows", .glo "code_of", .glo "text_bytes", .mkr "Keeper", .glo "Keeper", .meth "Keeper" "hold_text", .meth "Keeper" "hold_bound"]
def faR4 : List He.Fa := [.glo "require", .glo "require_text", .glo "relation_of", .glo "row_of", .glo "as_numbers", .glo "steps_numbers", .glo "outcome", .glo "sides_numbers", .glo "numbered", .glo "answer_to", .glo "answers"]
def faR : List He.Fa := faR0 ++ faR1 ++ faR2 ++ faR3 ++ faR4
def exL (K : PySem.W.Frag) : List Bool := [dicI K "SIGNS" [(40, .str "("), (41, .str ")"), (59, .str ";"), (45, .str "-")], tupU K "BLANKS" [.int 32, .int 10], tupU K "STEPS" [.str "add", .str "times", .str "rest", .str "abs", .str "sort", .str "reverse", .str "rotate", .str "take", .str "drop", .str "above", .str "once", .str "sum", .str "greatest", .str "least", .str "count", .str "steps", .str "sums", .str "twice"], tupU K "SIGNED" [.str "add", .str "times", .str "above"], tupU K "COUNTED" [.str "rotate", .str "take", .str "drop"], tupU K "CONDITIONS" [.str "any", .str "some", .str "rising", .str "plus", .str "unlike", .str "atleast"], tupU K "STANDS" [.str "equal", .str "bag", .str "numbers", .str "most", .str "least", .str "begins", .str "long"], tup2B K "SHAPES" [(0, 1), (0, 0), (0, 0), (0, 1), (0, 1), (1, 1), (1, 1), (1, 1), (3, 0), (1, 0), (2, 0)], tupU K "DEEDS" [.glo "load", .glo "shown", .glo "told", .glo "run", .glo "all_rows", .glo "turned", .glo "sides", .glo "verdict", .glo "bound", .glo "one_input", .glo "at_input"], oexB K (He.ga K "Fault"), xfB K (He.ga K "Fault"), noB K (He.ga K "Fault") "kind", noB K (He.ga K "Fault") "place", oexB K (He.ga K "Refused"), xfB K (He.ga K "Refused"), noB K (He.ga K "Refused") "code", iniB K (He.ga K "Fault"), iniB K (He.ga K "Refused")]
def exR (K : PySem.W.Frag) : Bool := (exL K).all id
def namesR0 : List PySem.Str := ["MOST_NUMBERS", "FARTHEST_running", "Beyond", "turned_on", "once_each", "differences", "running_sums", "by_number", "by_itself", "stepped", "run_on", "rows_on", "KEPT", "BROKEN", "OFF", "is_so", "stands", "sides_at", "verdict_of", "many_inputs", "input_of", "LETTERS", "SIGNS", "BLANKS", "LONGEST_WORD", "MOST_DIGITS", "WORD", "NUMBER", "SIGN", "END"]
def namesR1 : List PySem.Str := ["Fault", "Token", "is_letter", "is_digit", "word_at", "number_at", "token_at", "tokens_of", "STEPS", "SIGNED", "COUNTED", "CONDITIONS", "STANDS", "MOST_STEPS", "MOST_RELATIONS", "MOST_COUNT", "Reader", "read_text", "worded", "steps_words", "text_rows", "code_of", "text_bytes", "MOST_BYTES", "MOST_INPUTS", "LONGEST", "FARTHEST_relations", "SHAPES", "Refused", "Keeper"]
def namesR2 : List PySem.Str := ["require", "require_text", "relation_of", "row_of", "as_numbers", "steps_numbers", "outcome", "sides_numbers", "load", "shown", "told", "run", "all_rows", "turned", "sides", "verdict", "bound", "numbered", "one_input", "at_input", "DEEDS", "answer_to"]
def namesR : List PySem.Str := namesR0 ++ namesR1 ++ namesR2
def placeR : Nat := 87
theorem exN {K : PySem.W.Frag} {fa : List He.Fa} {fn : List He.DefD} (i : Nat) (c : SaysR fa fn exR K) {b : Bool} (h : (exL K)[i]? = some b := by rfl) : b = true := by
  have := List.all_eq_true.mp (show (exL K).all id = true from c.x) b (List.mem_of_getElem? h)
  exact this
theorem int_rel {mg : Str → Option Value} {x : Str} {i : Int} (h : ∃ t, mg x = some (.int i t)) : ∃ u, mg x = some u ∧ RelV (V.int i) u := by
  obtain ⟨t, h⟩ := h
  exact ⟨_, h, t, rfl⟩
theorem str_rel {mg : Str → Option Value} {x z : Str} (h : ∃ t, mg x = some (.str z t)) : ∃ u, mg x = some u ∧ RelV (V.str z) u := by
  obtain ⟨t, h⟩ := h
  exact ⟨_, h, t, rfl⟩
theorem txt_mk {K : PySem.W.Frag} {h : Heap} {mg : Str → Option Value} (X : K.In h) (G : h.Ns mainGlobals mg) (c : SaysR faR fnR exR K) : Txt K mg where
  bi_len := He.free_ok X G (c.d.fact 0 (f := .free "len") rfl)
  bi_set := He.free_ok X G (c.d.fact 1 (f := .free "set") rfl)
  bi_abs := He.free_ok X G (c.d.fact 2 (f := .free "abs") rfl)
  bi_sum := He.free_ok X G (c.d.fact 3 (f := .free "sum") rfl)
  bi_max := He.free_ok X G (c.d.fact 4 (f := .free "max") rfl)
  bi_min := He.free_ok X G (c.d.fact 5 (f := .free "min") rfl)
  bi_sorted := He.free_ok X G (c.d.fact 6 (f := .free "sorted") rfl)
  bi_any := He.free_ok X G (c.d.fact 7 (f := .free "any") rfl)
  bi_all := He.free_ok X G (c.d.fact 8 (f := .free "all") rfl)
  bi_list := He.free_ok X G (c.d.fact 9 (f := .free "list") rfl)
  bi_tuple := He.free_ok X G (c.d.fact 10 (f := .free "tuple") rfl)
  bi_str := He.free_ok X G (c.d.fact 11 (f := .free "str") rfl)
  bi_range := He.free_ok X G (c.d.fact 12 (f := .free "range") rfl)
  bi_zip := He.free_ok X G (c.d.fact 13 (f := .free "zip") rfl)
  k_MOST_NUMBERS := int_rel (He.int_ok X G (c.d.fact 14 (f := .int "MOST_NUMBERS" 40) rfl))
  k_FARTHEST_running := int_rel (He.int_ok X G (c.d.fact 15 (f := .int "FARTHEST_running" 1000000) rfl))
  k_KEPT := int_rel (He.int_ok X G (c.d.fact 16 (f := .int "KEPT" 0) rfl))
  k_BROKEN := int_rel (He.int_ok X G (c.d.fact 17 (f := .int "BROKEN" 1) rfl))
  k_OFF := int_rel (He.int_ok X G (c.d.fact 18 (f := .int "OFF" 2) rfl))
  k_LETTERS := str_rel (He.str_ok X G (c.d.fact 19 (f := .str "LETTERS" "abcdefghijklmnopqrstuvwxyz") rfl))
  k_SIGNS := ⟨_, He.glo_ok X G (c.d.fact 20 (f := .glo "SIGNS") rfl), rfl⟩
  q_SIGNS := dicI_ok (exN 0 c)
  k_BLANKS := ⟨_, He.glo_ok X G (c.d.fact 21 (f := .glo "BLANKS") rfl), rfl⟩
  q_BLANKS := (tupU_ok (exN 1 c)).1
  y_BLANKS := (tupU_ok (exN 1 c)).2
  k_LONGEST_WORD := int_rel (He.int_ok X G (c.d.fact 22 (f := .int "LONGEST_WORD" 8) rfl))
  k_MOST_DIGITS := int_rel (He.int_ok X G (c.d.fact 23 (f := .int "MOST_DIGITS" 2) rfl))
  k_WORD := int_rel (He.int_ok X G (c.d.fact 24 (f := .int "WORD" 0) rfl))
  k_NUMBER := int_rel (He.int_ok X G (c.d.fact 25 (f := .int "NUMBER" 1) rfl))
  k_SIGN := int_rel (He.int_ok X G (c.d.fact 26 (f := .int "SIGN" 2) rfl))
  k_END := int_rel (He.int_ok X G (c.d.fact 27 (f := .int "END" 3) rfl))
  k_STEPS := ⟨_, He.glo_ok X G (c.d.fact 28 (f := .glo "STEPS") rfl), rfl⟩
  q_STEPS := (tupU_ok (exN 2 c)).1
  y_STEPS := (tupU_ok (exN 2 c)).2
  k_SIGNED := ⟨_, He.glo_ok X G (c.d.fact 29 (f := .glo "SIGNED") rfl), rfl⟩
  q_SIGNED := (tupU_ok (exN 3 c)).1
  y_SIGNED := (tupU_ok (exN 3 c)).2
  k_COUNTED := ⟨_, He.glo_ok X G (c.d.fact 30 (f := .glo "COUNTED") rfl), rfl⟩
  q_COUNTED := (tupU_ok (exN 4 c)).1
  y_COUNTED := (tupU_ok (exN 4 c)).2
  k_CONDITIONS := ⟨_, He.glo_ok X G (c.d.fact 31 (f := .glo "CONDITIONS") rfl), rfl⟩
  q_CONDITIONS := (tupU_ok (exN 5 c)).1
  y_CONDITIONS := (tupU_ok (exN 5 c)).2
  k_STANDS := ⟨_, He.glo_ok X G (c.d.fact 32 (f := .glo "STANDS") rfl), rfl⟩
  q_STANDS := (tupU_ok (exN 6 c)).1
  y_STANDS := (tupU_ok (exN 6 c)).2
  k_MOST_STEPS := int_rel (He.int_ok X G (c.d.fact 33 (f := .int "MOST_STEPS" 8) rfl))
  k_MOST_RELATIONS := int_rel (He.int_ok X G (c.d.fact 34 (f := .int "MOST_RELATIONS" 12) rfl))
  k_MOST_COUNT := int_rel (He.int_ok X G (c.d.fact 35 (f := .int "MOST_COUNT" 9) rfl))
  k_MOST_BYTES := int_rel (He.int_ok X G (c.d.fact 36 (f := .int "MOST_BYTES" 1500) rfl))
  k_MOST_INPUTS := int_rel (He.int_ok X G (c.d.fact 37 (f := .int "MOST_INPUTS" 1500) rfl))
  k_LONGEST := int_rel (He.int_ok X G (c.d.fact 38 (f := .int "LONGEST" 8) rfl))
  k_FARTHEST_relations := int_rel (He.int_ok X G (c.d.fact 39 (f := .int "FARTHEST_relations" 99) rfl))
  k_SHAPES := ⟨_, He.glo_ok X G (c.d.fact 40 (f := .glo "SHAPES") rfl), rfl⟩
  q_SHAPES := tup2B_ok (exN 7 c)
  k_DEEDS := ⟨_, He.glo_ok X G (c.d.fact 41 (f := .glo "DEEDS") rfl), rfl⟩
  q_DEEDS := (tupU_ok (exN 8 c)).1
  cl_Token := He.cls_ok (c.d.fact 42 (f := .cls "Token") rfl)
  na_Token_kind := He.noat_ok (c.d.fact 43 (f := .noat "Token" "kind") rfl)
  na_Token_word := He.noat_ok (c.d.fact 44 (f := .noat "Token" "word") rfl)
  na_Token_number := He.noat_ok (c.d.fact 45 (f := .noat "Token" "number") rfl)
  na_Token_place := He.noat_ok (c.d.fact 46 (f := .noat "Token" "place") rfl)
  cl_Reader := He.cls_ok (c.d.fact 47 (f := .cls "Reader") rfl)
  na_Reader_tokens := He.noat_ok (c.d.fact 48 (f := .noat "Reader" "tokens") rfl)
  na_Reader_at := He.noat_ok (c.d.fact 49 (f := .noat "Reader" "at") rfl)
  cl_Keeper := He.cls_ok (c.d.fact 50 (f := .cls "Keeper") rfl)
  na_Keeper_text := He.noat_ok (c.d.fact 51 (f := .noat "Keeper" "text") rfl)
  na_Keeper_bound := He.noat_ok (c.d.fact 52 (f := .noat "Keeper" "bound") rfl)
  ox_Fault := oexB_ok (exN 9 c)
  xf_Fault := xfB_ok (exN 10 c)
  g_Fault := He.glo_ok X G (c.d.fact 53 (f := .glo "Fault") rfl)
  em_Fault := He.exm_ok (c.d.fact 54 (f := .exm "Fault" "Fault" true) rfl)
  na_Fault_kind := of_decide_eq_true (exN 11 c)
  na_Fault_place := of_decide_eq_true (exN 12 c)
  ox_Refused := oexB_ok (exN 13 c)
  xf_Refused := xfB_ok (exN 14 c)
  g_Refused := He.glo_ok X G (c.d.fact 55 (f := .glo "Refused") rfl)
  em_Refused := He.exm_ok (c.d.fact 56 (f := .exm "Refused" "Refused" true) rfl)
  na_Refused_code := of_decide_eq_true (exN 15 c)
  xB := (He.exc_ok (c.d.fact 57 (f := .exc "Beyond") rfl)).1
  gB := He.glo_ok X G (c.d.fact 58 (f := .glo "Beyond") rfl)
  kB := (He.exc_ok (c.d.fact 57 (f := .exc "Beyond") rfl)).2.1
  bB := (He.exc_ok (c.d.fact 57 (f := .exc "Beyond") rfl)).2.2.1
  tB := (He.exc_ok (c.d.fact 57 (f := .exc "Beyond") rfl)).2.2.2
  em_Beyond := He.exm_ok (c.d.fact 59 (f := .exm "Beyond" "Beyond" true) rfl)
  em_Beyond_Refused := He.exm_ok (c.d.fact 60 (f := .exm "Beyond" "Refused" false) rfl)
  gd_load := He.glo_ok X G (c.d.fact 61 (f := .glo "load") rfl)
  gd_shown := He.glo_ok X G (c.d.fact 62 (f := .glo "shown") rfl)
  gd_told := He.glo_ok X G (c.d.fact 63 (f := .glo "told") rfl)
  gd_run := He.glo_ok X G (c.d.fact 64 (f := .glo "run") rfl)
  gd_all_rows := He.glo_ok X G (c.d.fact 65 (f := .glo "all_rows") rfl)
  gd_turned := He.glo_ok X G (c.d.fact 66 (f := .glo "turned") rfl)
  gd_sides := He.glo_ok X G (c.d.fact 67 (f := .glo "sides") rfl)
  gd_verdict := He.glo_ok X G (c.d.fact 68 (f := .glo "verdict") rfl)
  gd_bound := He.glo_ok X G (c.d.fact 69 (f := .glo "bound") rfl)
  gd_one_input := He.glo_ok X G (c.d.fact 70 (f := .glo "one_input") rfl)
  gd_at_input := He.glo_ok X G (c.d.fact 71 (f := .glo "at_input") rfl)
  d_turned_on := defAt_mk (c.d.def_ 0 (d := dd_turned_on) rfl) (He.glo_ok X G (c.d.fact 72 (f := .glo "turned_on") rfl)) (fun _ _ _ _ _ _ us hl => match us, hl with | [_, _], _ => rfl)
  d_once_each := defAt_mk (c.d.def_ 1 (d := dd_once_each) rfl) (He.glo_ok X G (c.d.fact 73 (f := .glo "once_each") rfl)) (fun _ _ _ _ _ _ us hl => match us, hl with | [_], _ => rfl)
  d_differences := defAt_mk (c.d.def_ 2 (d := dd_differences) rfl) (He.glo_ok X G (c.d.fact 74 (f := .glo "differences") rfl)) (fun _ _ _ _ _ _ us hl => match us, hl with | [_], _ => rfl)
  d_running_sums := defAt_mk (c.d.def_ 3 (d := dd_running_sums) rfl) (He.glo_ok X G (c.d.fact 75 (f := .glo "running_sums") rfl)) (fun _ _ _ _ _ _ us hl => match us, hl with | [_], _ => rfl)
  d_by_number := defAt_mk (c.d.def_ 4 (d := dd_by_number) rfl) (He.glo_ok X G (c.d.fact 76 (f := .glo "by_number") rfl)) (fun _ _ _ _ _ _ us hl => match us, hl with | [_, _, _], _ => rfl)
  d_by_itself := defAt_mk (c.d.def_ 5 (d := dd_by_itself) rfl) (He.glo_ok X G (c.d.fact 77 (f := .glo "by_itself") rfl)) (fun _ _ _ _ _ _ us hl => match us, hl with | [_, _], _ => rfl)
  d_stepped := defAt_mk (c.d.def_ 6 (d := dd_stepped) rfl) (He.glo_ok X G (c.d.fact 78 (f := .glo "stepped") rfl)) (fun _ _ _ _ _ _ us hl => match us, hl with | [_, _], _ => rfl)
  d_run_on := defAt_mk (c.d.def_ 7 (d := dd_run_on) rfl) (He.glo_ok X G (c.d.fact 79 (f := .glo "run_on") rfl)) (fun _ _ _ _ _ _ us hl => match us, hl with | [_, _], _ => rfl)
  d_rows_on := defAt_mk (c.d.def_ 8 (d := dd_rows_on) rfl) (He.glo_ok X G (c.d.fact 80 (f := .glo "rows_on") rfl)) (fun _ _ _ _ _ _ us hl => match us, hl with | [_, _], _ => rfl)
  d_is_so := defAt_mk (c.d.def_ 9 (d := dd_is_so) rfl) (He.glo_ok X G (c.d.fact 81 (f := .glo "is_so") rfl)) (fun _ _ _ _ _ _ us hl => match us, hl with | [_, _], _ => rfl)
  d_stands := defAt_mk (c.d.def_ 10 (d := dd_stands) rfl) (He.glo_ok X G (c.d.fact 82 (f := .glo "stands") rfl)) (fun _ _ _ _ _ _ us hl => match us, hl with | [_, _, _], _ => rfl)
  d_sides_at := defAt_mk (c.d.def_ 11 (d := dd_sides_at) rfl) (He.glo_ok X G (c.d.fact 83 (f := .glo "sides_at") rfl)) (fun _ _ _ _ _ _ us hl => match us, hl with | [_, _, _], _ => rfl)
  d_verdict_of := defAt_mk (c.d.def_ 12 (d := dd_verdict_of) rfl) (He.glo_ok X G (c.d.fact 84 (f := .glo "verdict_of") rfl)) (fun _ _ _ _ _ _ us hl => match us, hl with | [_, _], _ => rfl)
  d_many_inputs := defAt_mk (c.d.def_ 13 (d := dd_many_inputs) rfl) (He.glo_ok X G (c.d.fact 85 (f := .glo "many_inputs") rfl)) (fun _ _ _ _ _ _ us hl => match us, hl with | [_], _ => rfl)
  d_input_of := defAt_mk (c.d.def_ 14 (d := dd_input_of) rfl) (He.glo_ok X G (c.d.fact 86 (f := .glo "input_of") rfl)) (fun _ _ _ _ _ _ us hl => match us, hl with | [_, _], _ => rfl)
  d_Fault___init__ := iniE_mk (c.d.def_ 15 (d := dd_Fault___init__) rfl) (oexB_ok (exN 9 c)) (exN 16 c) (He.glo_ok X G (c.d.fact 53 (f := .glo "Fault") rfl)) (fun _ _ _ _ _ _ us hl => match us, hl with | [_, _, _], _ => rfl)
  d_Token___init__ := iniAt_mk (c.d.def_ 16 (d := dd_Token___init__) rfl) (He.mkr_ok (c.d.fact 87 (f := .mkr "Token") rfl)) (He.glo_ok X G (c.d.fact 88 (f := .glo "Token") rfl)) (fun _ _ _ _ _ _ us hl => match us, hl with | [_, _, _, _, _], _ => rfl)
  d_is_letter := defAt_mk (c.d.def_ 17 (d := dd_is_letter) rfl) (He.glo_ok X G (c.d.fact 89 (f := .glo "is_letter") rfl)) (fun _ _ _ _ _ _ us hl => match us, hl with | [_], _ => rfl)
  d_is_digit := defAt_mk (c.d.def_ 18 (d := dd_is_digit) rfl) (He.glo_ok X G (c.d.fact 90 (f := .glo "is_digit") rfl)) (fun _ _ _ _ _ _ us hl => match us, hl with | [_], _ => rfl)
  d_word_at := defAt_mk (c.d.def_ 19 (d := dd_word_at) rfl) (He.glo_ok X G (c.d.fact 91 (f := .glo "word_at") rfl)) (fun _ _ _ _ _ _ us hl => match us, hl with | [_, _], _ => rfl)
  d_number_at := defAt_mk (c.d.def_ 20 (d := dd_number_at) rfl) (He.glo_ok X G (c.d.fact 92 (f := .glo "number_at") rfl)) (fun _ _ _ _ _ _ us hl => match us, hl with | [_, _], _ => rfl)
  d_token_at := defAt_mk (c.d.def_ 21 (d := dd_token_at) rfl) (He.glo_ok X G (c.d.fact 93 (f := .glo "token_at") rfl)) (fun _ _ _ _ _ _ us hl => match us, hl with | [_, _], _ => rfl)
  d_tokens_of := defAt_mk (c.d.def_ 22 (d := dd_tokens_of) rfl) (He.glo_ok X G (c.d.fact 94 (f := .glo "tokens_of") rfl)) (fun _ _ _ _ _ _ us hl => match us, hl with | [_], _ => rfl)
  d_Reader___init__ := iniAt_mk (c.d.def_ 23 (d := dd_Reader___init__) rfl) (He.mkr_ok (c.d.fact 95 (f := .mkr "Reader") rfl)) (He.glo_ok X G (c.d.fact 96 (f := .glo "Reader") rfl)) (fun _ _ _ _ _ _ us hl => match us, hl with | [_, _], _ => rfl)
  d_Reader_token := metAt_mk (c.d.def_ 24 (d := dd_Reader_token) rfl) (He.meth_ok (c.d.fact 97 (f := .meth "Reader" "token") rfl)) (fun _ _ _ _ _ _ us hl => match us, hl with | [_], _ => rfl)
  d_Reader_step := metAt_mk (c.d.def_ 25 (d := dd_Reader_step) rfl) (He.meth_ok (c.d.fact 98 (f := .meth "Reader" "step") rfl)) (fun _ _ _ _ _ _ us hl => match us, hl with | [_], _ => rfl)
  d_Reader_refuse := metAt_mk (c.d.def_ 26 (d := dd_Reader_refuse) rfl) (He.meth_ok (c.d.fact 99 (f := .meth "Reader" "refuse") rfl)) (fun _ _ _ _ _ _ us hl => match us, hl with | [_, _], _ => rfl)
  d_Reader_is_sign := metAt_mk (c.d.def_ 27 (d := dd_Reader_is_sign) rfl) (He.meth_ok (c.d.fact 100 (f := .meth "Reader" "is_sign") rfl)) (fun _ _ _ _ _ _ us hl => match us, hl with | [_, _], _ => rfl)
  d_Reader_take_sign := metAt_mk (c.d.def_ 28 (d := dd_Reader_take_sign) rfl) (He.meth_ok (c.d.fact 101 (f := .meth "Reader" "take_sign") rfl)) (fun _ _ _ _ _ _ us hl => match us, hl with | [_, _], _ => rfl)
  d_Reader_take_word := metAt_mk (c.d.def_ 29 (d := dd_Reader_take_word) rfl) (He.meth_ok (c.d.fact 102 (f := .meth "Reader" "take_word") rfl)) (fun _ _ _ _ _ _ us hl => match us, hl with | [_, _], _ => rfl)
  d_Reader_take_number := metAt_mk (c.d.def_ 30 (d := dd_Reader_take_number) rfl) (He.meth_ok (c.d.fact 103 (f := .meth "Reader" "take_number") rfl)) (fun _ _ _ _ _ _ us hl => match us, hl with | [_, _, _], _ => rfl)
  d_Reader_take_signed := metAt_mk (c.d.def_ 31 (d := dd_Reader_take_signed) rfl) (He.meth_ok (c.d.fact 104 (f := .meth "Reader" "take_signed") rfl)) (fun _ _ _ _ _ _ us hl => match us, hl with | [_], _ => rfl)
  d_Reader_take_step := metAt_mk (c.d.def_ 32 (d := dd_Reader_take_step) rfl) (He.meth_ok (c.d.fact 105 (f := .meth "Reader" "take_step") rfl)) (fun _ _ _ _ _ _ us hl => match us, hl with | [_], _ => rfl)
  d_Reader_take_steps := metAt_mk (c.d.def_ 33 (d := dd_Reader_take_steps) rfl) (He.meth_ok (c.d.fact 106 (f := .meth "Reader" "take_steps") rfl)) (fun _ _ _ _ _ _ us hl => match us, hl with | [_], _ => rfl)
  d_Reader_take_condition := metAt_mk (c.d.def_ 34 (d := dd_Reader_take_condition) rfl) (He.meth_ok (c.d.fact 107 (f := .meth "Reader" "take_condition") rfl)) (fun _ _ _ _ _ _ us hl => match us, hl with | [_], _ => rfl)
  d_Reader_take_relation := metAt_mk (c.d.def_ 35 (d := dd_Reader_take_relation) rfl) (He.meth_ok (c.d.fact 108 (f := .meth "Reader" "take_relation") rfl)) (fun _ _ _ _ _ _ us hl => match us, hl with | [_], _ => rfl)
  d_Reader_take_text := metAt_mk (c.d.def_ 36 (d := dd_Reader_take_text) rfl) (He.meth_ok (c.d.fact 109 (f := .meth "Reader" "take_text") rfl)) (fun _ _ _ _ _ _ us hl => match us, hl with | [_], _ => rfl)
  d_read_text := defAt_mk (c.d.def_ 37 (d := dd_read_text) rfl) (He.glo_ok X G (c.d.fact 110 (f := .glo "read_text") rfl)) (fun _ _ _ _ _ _ us hl => match us, hl with | [_], _ => rfl)
  d_worded := defAt_mk (c.d.def_ 38 (d := dd_worded) rfl) (He.glo_ok X G (c.d.fact 111 (f := .glo "worded") rfl)) (fun _ _ _ _ _ _ us hl => match us, hl with | [_, _], _ => rfl)
  d_steps_words := defAt_mk (c.d.def_ 39 (d := dd_steps_words) rfl) (He.glo_ok X G (c.d.fact 112 (f := .glo "steps_words") rfl)) (fun _ _ _ _ _ _ us hl => match us, hl with | [_], _ => rfl)
  d_text_rows := defAt_mk (c.d.def_ 40 (d := dd_text_rows) rfl) (He.glo_ok X G (c.d.fact 113 (f := .glo "text_rows") rfl)) (fun _ _ _ _ _ _ us hl => match us, hl with | [_], _ => rfl)
  d_code_of := defAt_mk (c.d.def_ 41 (d := dd_code_of) rfl) (He.glo_ok X G (c.d.fact 114 (f := .glo "code_of") rfl)) (fun _ _ _ _ _ _ us hl => match us, hl with | [_], _ => rfl)
  d_text_bytes := defAt_mk (c.d.def_ 42 (d := dd_text_bytes) rfl) (He.glo_ok X G (c.d.fact 115 (f := .glo "text_bytes") rfl)) (fun _ _ _ _ _ _ us hl => match us, hl with | [_], _ => rfl)
  d_Refused___init__ := iniE_mk (c.d.def_ 43 (d := dd_Refused___init__) rfl) (oexB_ok (exN 13 c)) (exN 17 c) (He.glo_ok X G (c.d.fact 55 (f := .glo "Refused") rfl)) (fun _ _ _ _ _ _ us hl => match us, hl with | [_, _], _ => rfl)
  d_Keeper___init__ := iniAt_mk (c.d.def_ 44 (d := dd_Keeper___init__) rfl) (He.mkr_ok (c.d.fact 116 (f := .mkr "Keeper") rfl)) (He.glo_ok X G (c.d.fact 117 (f := .glo "Keeper") rfl)) (fun _ _ _ _ _ _ us hl => match us, hl with | [_], _ => rfl)
  d_Keeper_hold_text := metAt_mk (c.d.def_ 45 (d := dd_Keeper_hold_text) rfl) (He.meth_ok (c.d.fact 118 (f := .meth "Keeper" "hold_text") rfl)) (fun _ _ _ _ _ _ us hl => match us, hl with | [_, _], _ => rfl)
  d_Keeper_hold_bound := metAt_mk (c.d.def_ 46 (d := dd_Keeper_hold_bound) rfl) (He.meth_ok (c.d.fact 119 (f := .meth "Keeper" "hold_bound") rfl)) (fun _ _ _ _ _ _ us hl => match us, hl with | [_, _], _ => rfl)
  d_require := defAt_mk (c.d.def_ 47 (d := dd_require) rfl) (He.glo_ok X G (c.d.fact 120 (f := .glo "require") rfl)) (fun _ _ _ _ _ _ us hl => match us, hl with | [_, _], _ => rfl)
  d_require_text := defAt_mk (c.d.def_ 48 (d := dd_require_text) rfl) (He.glo_ok X G (c.d.fact 121 (f := .glo "require_text") rfl)) (fun _ _ _ _ _ _ us hl => match us, hl with | [_], _ => rfl)
  d_relation_of := defAt_mk (c.d.def_ 49 (d := dd_relation_of) rfl) (He.glo_ok X G (c.d.fact 122 (f := .glo "relation_of") rfl)) (fun _ _ _ _ _ _ us hl => match us, hl with | [_, _], _ => rfl)
  d_row_of := defAt_mk (c.d.def_ 50 (d := dd_row_of) rfl) (He.glo_ok X G (c.d.fact 123 (f := .glo "row_of") rfl)) (fun _ _ _ _ _ _ us hl => match us, hl with | [_], _ => rfl)
  d_as_numbers := defAt_mk (c.d.def_ 51 (d := dd_as_numbers) rfl) (He.glo_ok X G (c.d.fact 124 (f := .glo "as_numbers") rfl)) (fun _ _ _ _ _ _ us hl => match us, hl with | [_], _ => rfl)
  d_steps_numbers := defAt_mk (c.d.def_ 52 (d := dd_steps_numbers) rfl) (He.glo_ok X G (c.d.fact 125 (f := .glo "steps_numbers") rfl)) (fun _ _ _ _ _ _ us hl => match us, hl with | [_], _ => rfl)
  d_outcome := defAt_mk (c.d.def_ 53 (d := dd_outcome) rfl) (He.glo_ok X G (c.d.fact 126 (f := .glo "outcome") rfl)) (fun _ _ _ _ _ _ us hl => match us, hl with | [_, _], _ => rfl)
  d_sides_numbers := defAt_mk (c.d.def_ 54 (d := dd_sides_numbers) rfl) (He.glo_ok X G (c.d.fact 127 (f := .glo "sides_numbers") rfl)) (fun _ _ _ _ _ _ us hl => match us, hl with | [_], _ => rfl)
  d_load := defAt_mk (c.d.def_ 55 (d := dd_load) rfl) (He.glo_ok X G (c.d.fact 61 (f := .glo "load") rfl)) (fun _ _ _ _ _ _ us hl => match us, hl with | [_, _, _], _ => rfl)
  d_shown := defAt_mk (c.d.def_ 56 (d := dd_shown) rfl) (He.glo_ok X G (c.d.fact 62 (f := .glo "shown") rfl)) (fun _ _ _ _ _ _ us hl => match us, hl with | [_, _, _], _ => rfl)
  d_told := defAt_mk (c.d.def_ 57 (d := dd_told) rfl) (He.glo_ok X G (c.d.fact 63 (f := .glo "told") rfl)) (fun _ _ _ _ _ _ us hl => match us, hl with | [_, _, _], _ => rfl)
  d_run := defAt_mk (c.d.def_ 58 (d := dd_run) rfl) (He.glo_ok X G (c.d.fact 64 (f := .glo "run") rfl)) (fun _ _ _ _ _ _ us hl => match us, hl with | [_, _, _], _ => rfl)
  d_all_rows := defAt_mk (c.d.def_ 59 (d := dd_all_rows) rfl) (He.glo_ok X G (c.d.fact 65 (f := .glo "all_rows") rfl)) (fun _ _ _ _ _ _ us hl => match us, hl with | [_, _, _], _ => rfl)
  d_turned := defAt_mk (c.d.def_ 60 (d := dd_turned) rfl) (He.glo_ok X G (c.d.fact 66 (f := .glo "turned") rfl)) (fun _ _ _ _ _ _ us hl => match us, hl with | [_, _, _], _ => rfl)
  d_sides := defAt_mk (c.d.def_ 61 (d := dd_sides) rfl) (He.glo_ok X G (c.d.fact 67 (f := .glo "sides") rfl)) (fun _ _ _ _ _ _ us hl => match us, hl with | [_, _, _], _ => rfl)
  d_verdict := defAt_mk (c.d.def_ 62 (d := dd_verdict) rfl) (He.glo_ok X G (c.d.fact 68 (f := .glo "verdict") rfl)) (fun _ _ _ _ _ _ us hl => match us, hl with | [_, _, _], _ => rfl)
  d_bound := defAt_mk (c.d.def_ 63 (d := dd_bound) rfl) (He.glo_ok X G (c.d.fact 69 (f := .glo "bound") rfl)) (fun _ _ _ _ _ _ us hl => match us, hl with | [_, _, _], _ => rfl)
  d_numbered := defAt_mk (c.d.def_ 64 (d := dd_numbered) rfl) (He.glo_ok X G (c.d.fact 128 (f := .glo "numbered") rfl)) (fun _ _ _ _ _ _ us hl => match us, hl with | [_, _], _ => rfl)
  d_one_input := defAt_mk (c.d.def_ 65 (d := dd_one_input) rfl) (He.glo_ok X G (c.d.fact 70 (f := .glo "one_input") rfl)) (fun _ _ _ _ _ _ us hl => match us, hl with | [_, _, _], _ => rfl)
  d_at_input := defAt_mk (c.d.def_ 66 (d := dd_at_input) rfl) (He.glo_ok X G (c.d.fact 71 (f := .glo "at_input") rfl)) (fun _ _ _ _ _ _ us hl => match us, hl with | [_, _, _], _ => rfl)
  d_answer_to := defAt_mk (c.d.def_ 67 (d := dd_answer_to) rfl) (He.glo_ok X G (c.d.fact 129 (f := .glo "answer_to") rfl)) (fun _ _ _ _ _ _ us hl => match us, hl with | [_, _, _, _], _ => rfl)
  d_answers := defAt_mk (c.d.def_ 68 (d := dd_answers) rfl) (He.glo_ok X G (c.d.fact 130 (f := .glo "answers") rfl)) (fun _ _ _ _ _ _ us hl => match us, hl with | [_], _ => rfl)
def asR0 : List Addr := [33, 34, 40, 41, 45, 46, 52, 53, 57, 58, 62, 63, 67, 68, 74, 75, 81, 82, 86, 87, 91, 92, 98, 99, 105, 106, 112, 113, 119, 120]
def asR1 : List Addr := [121, 122, 135, 136, 155, 156, 169, 170, 176, 177, 181, 182, 188, 189, 195, 196, 202, 203, 204, 205, 206, 207, 208, 221, 222, 228, 229, 235, 236, 242]
def asR2 : List Addr := [243, 249, 250, 256, 257, 263, 264, 270, 271, 277, 278, 284, 285, 291, 292, 298, 299, 305, 306, 312, 313, 326, 327, 331, 332, 338, 339, 345, 346, 352]
def asR3 : List Addr := [353, 357, 358, 359, 360, 361, 362, 363, 364, 365, 366, 367, 368, 369, 370, 383, 384, 403, 404, 410, 411, 417, 418, 431, 432, 438, 439, 445, 446, 450]
def asR4 : List Addr := [451, 457, 458, 464, 465, 471, 472, 478, 479, 485, 486, 492, 493, 499, 500, 506, 507, 513, 514, 520, 521, 527, 528, 534, 535, 541, 542, 548, 549, 555]
def asR5 : List Addr := [556, 562, 563, 564, 570, 571, 577, 578, 23, 24, 138, 139, 158, 159, 315, 316, 386, 387, 420, 421, 3]
def asR : List Addr := asR0 ++ asR1 ++ asR2 ++ asR3 ++ asR4 ++ asR5
abbrev rwR : PySem.W.OpenSpec := PySem.Challenge.rw_runrelations_s01_answers
abbrev qvR : Program := PySem.W.view rwR.prog [placeR]
abbrev hkR : PySem.W.Hook := hookR asR faR fnR exR
def obR (s : PySem.W.SharedT) : AlR := obsR asR faR fnR exR (HeadRun.getT s)
theorem obR_eq (s : PySem.W.SharedT) : obR s = hkR.obs s.abs := obsR_eq (HeadRun.getT_eq s)
theorem runR (w : World) : HeadRun.RunEqS rwR qvR hkR obR 6000 namesR w :=
  PySem.W.byRow2 "special-get-raises" (P := fun w => HeadRun.RunEqS rwR qvR hkR obR 6000 namesR w) (fun w => by intro os; kernel_rfl) (fun w => by intro os; kernel_rfl) w
end RR
/-! part End -/
/-! All defs together; the end. -/
namespace RR
open PySem PySem.Spec PyProof.Rows L2
theorem all_ok {P : Program} {w : World} {K : PySem.W.Frag} {mg : Str → Option Value} {base : Heap} (T : Txt K mg) {fa : Addr} {fd : FuncData} (F : Fun K "answers" "answers" s_answers fa fd) : FnOk P w K mg base CX0 13 fa fd ["calls"] (sp_answers K) := by
  have c_turned_on := ok_turned_on (P := P) (w := w) (base := base) T
  have c_once_each := ok_once_each (P := P) (w := w) (base := base) T
  have c_differences := ok_differences (P := P) (w := w) (base := base) T
  have c_running_sums := ok_running_sums (P := P) (w := w) (base := base) T
  have c_is_so := ok_is_so (P := P) (w := w) (base := base) T
  have c_stands := ok_stands (P := P) (w := w) (base := base) T
  have c_many_inputs := ok_many_inputs (P := P) (w := w) (base := base) T
  have c_input_of := ok_input_of (P := P) (w := w) (base := base) T
  have c_Fault___init__ := ok_Fault___init__ (P := P) (w := w) (base := base) T
  have c_Token___init__ := ok_Token___init__ (P := P) (w := w) (base := base) T
  have c_is_letter := ok_is_letter (P := P) (w := w) (base := base) T
  have c_is_digit := ok_is_digit (P := P) (w := w) (base := base) T
  have c_Reader_token := ok_Reader_token (P := P) (w := w) (base := base) T
  have c_Reader_step := ok_Reader_step (P := P) (w := w) (base := base) T
  have c_worded := ok_worded (P := P) (w := w) (base := base) T
  have c_code_of := ok_code_of (P := P) (w := w) (base := base) T
  have c_Refused___init__ := ok_Refused___init__ (P := P) (w := w) (base := base) T
  have c_Keeper___init__ := ok_Keeper___init__ (P := P) (w := w) (base := base) T
  have c_Keeper_hold_text := ok_Keeper_hold_text (P := P) (w := w) (base := base) T
  have c_Keeper_hold_bound := ok_Keeper_hold_bound (P := P) (w := w) (base := base) T
  have c_as_numbers := ok_as_numbers (P := P) (w := w) (base := base) T
  have c_steps_numbers := ok_steps_numbers (P := P) (w := w) (base := base) T
  have c_by_number := ok_by_number (P := P) (w := w) (base := base) T (c_turned_on := c_turned_on)
  have c_by_itself := ok_by_itself (P := P) (w := w) (base := base) T (c_differences := c_differences) (c_once_each := c_once_each) (c_running_sums := c_running_sums)
  have c_verdict_of := ok_verdict_of (P := P) (w := w) (base := base) T (c_stands := c_stands)
  have c_Reader_is_sign := ok_Reader_is_sign (P := P) (w := w) (base := base) T (c_Reader_token := c_Reader_token)
  have c_steps_words := ok_steps_words (P := P) (w := w) (base := base) T (c_worded := c_worded)
  have c_sides_numbers := ok_sides_numbers (P := P) (w := w) (base := base) T (c_as_numbers := c_as_numbers)
  have c_stepped := ok_stepped (P := P) (w := w) (base := base) T (c_by_itself := c_by_itself) (c_by_number := c_by_number)
  have c_word_at := ok_word_at (P := P) (w := w) (base := base) T (c_Fault___init__ := c_Fault___init__) (c_Token___init__ := c_Token___init__) (c_is_letter := c_is_letter)
  have c_number_at := ok_number_at (P := P) (w := w) (base := base) T (c_Fault___init__ := c_Fault___init__) (c_Token___init__ := c_Token___init__) (c_is_digit := c_is_digit)
  have c_Reader_refuse := ok_Reader_refuse (P := P) (w := w) (base := base) T (c_Fault___init__ := c_Fault___init__) (c_Reader_token := c_Reader_token)
  have c_text_rows := ok_text_rows (P := P) (w := w) (base := base) T (c_steps_words := c_steps_words) (c_worded := c_worded)
  have c_require := ok_require (P := P) (w := w) (base := base) T (c_Refused___init__ := c_Refused___init__)
  have c_run_on := ok_run_on (P := P) (w := w) (base := base) T (c_stepped := c_stepped)
  have c_rows_on := ok_rows_on (P := P) (w := w) (base := base) T (c_stepped := c_stepped)
  have c_token_at := ok_token_at (P := P) (w := w) (base := base) T (c_Fault___init__ := c_Fault___init__) (c_Token___init__ := c_Token___init__) (c_is_digit := c_is_digit) (c_is_letter := c_is_letter) (c_number_at := c_number_at) (c_word_at := c_word_at)
  have c_Reader_take_sign := ok_Reader_take_sign (P := P) (w := w) (base := base) T (c_Reader_is_sign := c_Reader_is_sign) (c_Reader_refuse := c_Reader_refuse) (c_Reader_step := c_Reader_step)
  have c_Reader_take_word := ok_Reader_take_word (P := P) (w := w) (base := base) T (c_Reader_refuse := c_Reader_refuse) (c_Reader_step := c_Reader_step) (c_Reader_token := c_Reader_token)
  have c_Reader_take_number := ok_Reader_take_number (P := P) (w := w) (base := base) T (c_Reader_refuse := c_Reader_refuse) (c_Reader_step := c_Reader_step) (c_Reader_token := c_Reader_token)
  have c_text_bytes := ok_text_bytes (P := P) (w := w) (base := base) T (c_code_of := c_code_of) (c_text_rows := c_text_rows)
  have c_require_text := ok_require_text (P := P) (w := w) (base := base) T (c_require := c_require)
  have c_row_of := ok_row_of (P := P) (w := w) (base := base) T (c_require := c_require)
  have c_bound := ok_bound (P := P) (w := w) (base := base) T (c_Keeper_hold_bound := c_Keeper_hold_bound) (c_many_inputs := c_many_inputs) (c_require := c_require)
  have c_numbered := ok_numbered (P := P) (w := w) (base := base) T (c_input_of := c_input_of) (c_many_inputs := c_many_inputs) (c_require := c_require)
  have c_sides_at := ok_sides_at (P := P) (w := w) (base := base) T (c_is_so := c_is_so) (c_run_on := c_run_on)
  have c_tokens_of := ok_tokens_of (P := P) (w := w) (base := base) T (c_Token___init__ := c_Token___init__) (c_token_at := c_token_at)
  have c_Reader_take_signed := ok_Reader_take_signed (P := P) (w := w) (base := base) T (c_Fault___init__ := c_Fault___init__) (c_Reader_is_sign := c_Reader_is_sign) (c_Reader_step := c_Reader_step) (c_Reader_take_number := c_Reader_take_number)
  have c_Reader_take_condition := ok_Reader_take_condition (P := P) (w := w) (base := base) T (c_Reader_take_number := c_Reader_take_number) (c_Reader_take_word := c_Reader_take_word)
  have c_relation_of := ok_relation_of (P := P) (w := w) (base := base) T (c_require := c_require) (c_require_text := c_require_text)
  have c_outcome := ok_outcome (P := P) (w := w) (base := base) T (c_as_numbers := c_as_numbers) (c_run_on := c_run_on)
  have c_shown := ok_shown (P := P) (w := w) (base := base) T (c_as_numbers := c_as_numbers) (c_require_text := c_require_text) (c_text_bytes := c_text_bytes)
  have c_told := ok_told (P := P) (w := w) (base := base) T (c_require_text := c_require_text) (c_steps_numbers := c_steps_numbers)
  have c_all_rows := ok_all_rows (P := P) (w := w) (base := base) T (c_as_numbers := c_as_numbers) (c_require_text := c_require_text) (c_row_of := c_row_of) (c_rows_on := c_rows_on)
  have c_one_input := ok_one_input (P := P) (w := w) (base := base) T (c_as_numbers := c_as_numbers) (c_numbered := c_numbered)
  have c_Reader___init__ := ok_Reader___init__ (P := P) (w := w) (base := base) T (c_tokens_of := c_tokens_of)
  have c_Reader_take_step := ok_Reader_take_step (P := P) (w := w) (base := base) T (c_Reader_take_number := c_Reader_take_number) (c_Reader_take_signed := c_Reader_take_signed) (c_Reader_take_word := c_Reader_take_word)
  have c_run := ok_run (P := P) (w := w) (base := base) T (c_outcome := c_outcome) (c_require_text := c_require_text) (c_row_of := c_row_of)
  have c_turned := ok_turned (P := P) (w := w) (base := base) T (c_outcome := c_outcome) (c_relation_of := c_relation_of) (c_row_of := c_row_of)
  have c_sides := ok_sides (P := P) (w := w) (base := base) T (c_relation_of := c_relation_of) (c_row_of := c_row_of) (c_sides_at := c_sides_at) (c_sides_numbers := c_sides_numbers)
  have c_verdict := ok_verdict (P := P) (w := w) (base := base) T (c_relation_of := c_relation_of) (c_row_of := c_row_of) (c_sides_at := c_sides_at) (c_verdict_of := c_verdict_of)
  have c_at_input := ok_at_input (P := P) (w := w) (base := base) T (c_numbered := c_numbered) (c_relation_of := c_relation_of) (c_sides_at := c_sides_at) (c_sides_numbers := c_sides_numbers) (c_verdict_of := c_verdict_of)
  have c_Reader_take_steps := ok_Reader_take_steps (P := P) (w := w) (base := base) T (c_Reader_is_sign := c_Reader_is_sign) (c_Reader_refuse := c_Reader_refuse) (c_Reader_step := c_Reader_step) (c_Reader_take_sign := c_Reader_take_sign) (c_Reader_take_step := c_Reader_take_step) (c_Reader_token := c_Reader_token)
  have c_Reader_take_relation := ok_Reader_take_relation (P := P) (w := w) (base := base) T (c_Reader_take_condition := c_Reader_take_condition) (c_Reader_take_sign := c_Reader_take_sign) (c_Reader_take_steps := c_Reader_take_steps) (c_Reader_take_word := c_Reader_take_word)
  have c_Reader_take_text := ok_Reader_take_text (P := P) (w := w) (base := base) T (c_Reader_refuse := c_Reader_refuse) (c_Reader_take_relation := c_Reader_take_relation) (c_Reader_take_sign := c_Reader_take_sign) (c_Reader_take_steps := c_Reader_take_steps) (c_Reader_take_word := c_Reader_take_word) (c_Reader_token := c_Reader_token)
  have c_read_text := ok_read_text (P := P) (w := w) (base := base) T (c_Reader___init__ := c_Reader___init__) (c_Reader_take_text := c_Reader_take_text)
  have c_load := ok_load (P := P) (w := w) (base := base) T (c_Keeper_hold_text := c_Keeper_hold_text) (c_read_text := c_read_text) (c_require := c_require)
  have c_answer_to := ok_answer_to (P := P) (w := w) (base := base) T
  have D : Deeds P w K mg base := ⟨deedAt c_load T.gd_load rfl (by decide), deedAt c_shown T.gd_shown rfl (by decide), deedAt c_told T.gd_told rfl (by decide), deedAt c_run T.gd_run rfl (by decide), deedAt c_all_rows T.gd_all_rows rfl (by decide), deedAt c_turned T.gd_turned rfl (by decide), deedAt c_sides T.gd_sides rfl (by decide), deedAt c_verdict T.gd_verdict rfl (by decide), deedAt c_bound T.gd_bound rfl (by decide), deedAt c_one_input T.gd_one_input rfl (by decide), deedAt c_at_input T.gd_at_input rfl (by decide)⟩
  exact ok_answers T D c_Keeper___init__ c_answer_to F
end RR
open PySem PySem.W PySem.Calls PyProof.Rows
set_option maxRecDepth 100000 in
set_option maxHeartbeats 8000000 in
theorem PySem.Challenge.cw_runrelations_s01_answers_holds : PySem.Challenge.rw_runrelations_s01_answers.Holds := by
  w_on
  have hwell : PySem.Challenge.rw_runrelations_s01_answers.wellSaid = true := by decide +kernel
  refine HeadRun.head_spec (r := PySem.Challenge.rw_runrelations_s01_answers) (q := RR.qvR) (H := RR.hkR) (ob := RR.obR) (M := 6000) (loose := RR.namesR) (d := HeadRun.topDef RR.rwR.prog RR.placeR) (kwd := []) RR.obR_eq
    (by kernel_rfl) (fun s => by kernel_rfl) RR.runR (by kernel_rfl) (by kernel_rfl) (by kernel_rfl) os_shapes hwell (by decide +kernel) ⟨rfl, rfl, rfl, rfl, rfl, by decide +kernel⟩ ?hw ?hc
  case hw => exact ⟨[.list [.int 1]], by decide +kernel, by decide +kernel⟩
  case hc =>
    refine RR.walk_specE (r := PySem.Challenge.rw_runrelations_s01_answers) (k := 13) (ps := ["calls"]) hwell rfl ⟨rfl, by decide, by decide⟩ ?F
    intro w mg fa h Y G hmg0
    obtain ⟨K, KX, c⟩ := Y
    have hmg : mg ("answers" : PySem.Str) = some (.ref fa) := by
      have e : (HeadRun.topDef RR.rwR.prog RR.placeR).name = ("answers" : PySem.Str) := by kernel_rfl
      rw [← e]
      exact hmg0
    have T : RR.Txt K mg := RR.txt_mk KX G c
    obtain ⟨fb, fd, F, hm, _⟩ := T.d_answers.ex
    rw [hm] at hmg
    cases hmg
    have hb : ∀ (s : Shared) (us : List Value), us.length = (["calls"] : List PySem.Str).length → BindsTo s fd ⟨us, []⟩ ((["calls"] : List PySem.Str).zip us) := by
      obtain ⟨oc, od, kV, doc, pm, an, cdv, ct, osl, e, lk, hcd⟩ := F.ex
      subst e
      exact fun s us hl => match us, hl with | [_], _ => .of_eq rfl
    refine ⟨K, fd, RR.sp_answers K, KX, hb, fun base _ _ => RR.all_ok T F, fun H xs a hO hwi hask hx => ?_⟩
    cases hx with
    | cons h1 h2 =>
      cases h2
      cases h1 with
      | lst hs ha =>
        have e := L2.ints_dw a.1 _ ha
        subst e
        have q : ((Codec.inLen 0 17000 a.1 && a.1.all (Codec.inInt (Int.negSucc 999999999999999999) (Int.ofNat 1000000000000000000))) && true) = true := hwi
        rw [Bool.and_eq_true, Bool.and_eq_true] at q
        exact ⟨_, rfl, _, a.1, rfl, hs, (Codec.inNat_iff.mp q.1.1).2, hask, fun H' p e hn hd => .lst (RR.sqL hd) (L2.dw_ints _)⟩
