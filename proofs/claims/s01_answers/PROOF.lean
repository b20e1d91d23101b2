import PyProof.Rows.All
import Wide.All
import OpenK.AllK
import Wide.FinOn
import Open.SpecLaws
import KE.OsGo
import HandS.ForSpec
import HandS.Comp
import HandS.Iter
import HandS.Walk
import HandS.Conv
import HandS.ExcInit
import HandS.ExcField
import HandS.SortKw
import HandS.SetFor
import HandS.Strs
import PyProof.Rows.BitMore
import PySem.Challenge.RW_sailwardrobe_s01_answers
set_option Elab.async false
namespace Sw
open Uw29

/-! ### numbers in a set, sizes, masks -/
def numsIn (q n : Nat) : List Nat := (List.range n).filter fun i => q.testBit i
def sz (n q : Nat) : Nat := (numsIn q n).length

theorem filter_range_succ (p : Nat → Bool) (n : Nat) : (List.range (n + 1)).filter p = (List.range n).filter p ++ (if p n = true then [n] else []) := by
  rw [List.range_succ, List.filter_append]
  congr 1
  by_cases h : p n = true
  · rw [if_pos h, List.filter_cons_of_pos h]; rfl
  · rw [if_neg h, List.filter_cons_of_neg h]; rfl
theorem filter_range_congr {p p' : Nat → Bool} {n : Nat} (h : ∀ i, i < n → p i = p' i) : (List.range n).filter p = (List.range n).filter p' :=
  List.filter_congr fun i hi => h i (List.mem_range.mp hi)

theorem sum_append_nat (a b : List Nat) : (a ++ b).sum = a.sum + b.sum := by
  induction a with
  | nil => simp
  | cons x r ih => simp [List.sum_cons, ih]; omega

def maskOf (p : Nat → Bool) (n : Nat) : Nat := (((List.range n).filter p).map fun i => 2 ^ i).sum
theorem mask_succ (p : Nat → Bool) (n : Nat) : maskOf p (n + 1) = maskOf p n + (if p n = true then 2 ^ n else 0) := by
  unfold maskOf
  rw [filter_range_succ, List.map_append, sum_append_nat]
  congr 1
  by_cases h : p n = true
  · rw [if_pos h, if_pos h]; simp
  · rw [if_neg h, if_neg h]; rfl
theorem mask_lt (p : Nat → Bool) : ∀ n, maskOf p n < 2 ^ n
  | 0 => by simp [maskOf]
  | n + 1 => by
    have ih := mask_lt p n
    rw [mask_succ, Nat.pow_succ]
    split <;> omega
theorem testBit_add_pow {m n : Nat} (h : m < 2 ^ n) (i : Nat) : (m + 2 ^ n).testBit i = (decide (i = n) || m.testBit i) := by
  have e : m + 2 ^ n = 2 ^ n ||| m := by
    have z := Nat.two_pow_add_eq_or_of_lt h 1
    rw [Nat.mul_one] at z
    rw [Nat.add_comm]; exact z
  rw [e, Nat.testBit_or, Nat.testBit_two_pow]
  by_cases c : n = i
  · rw [decide_eq_true c, decide_eq_true c.symm]
  · rw [decide_eq_false c, decide_eq_false (fun z => c z.symm)]
theorem mask_bit (p : Nat → Bool) (i : Nat) : ∀ n, (maskOf p n).testBit i = (decide (i < n) && p i)
  | 0 => by simp [maskOf]
  | n + 1 => by
    have ih := mask_bit p i n
    rw [mask_succ]
    by_cases h : p n = true
    · rw [if_pos h, testBit_add_pow (mask_lt p n), ih]
      by_cases e : i = n
      · subst e; simp [h]
      · have : decide (i < n + 1) = decide (i < n) := by simp; omega
        rw [this]; simp [e]
    · rw [if_neg h, Nat.add_zero, ih]
      by_cases e : i = n
      · subst e; simp [h]
      · have : decide (i < n + 1) = decide (i < n) := by simp; omega
        rw [this]

def allSizes : Nat → List Nat
  | 0 => [0]
  | n + 1 => allSizes n ++ (allSizes n).map fun x => x + 1
def pricesFrom : List Nat → List Sail → List Nat
  | f, [] => f
  | f, x :: r => pricesFrom (f ++ f.map fun y => y + x.cost) r
def allPrices (ss : List Sail) : List Nat := ss.foldl (fun f x => f ++ f.map fun y => y + x.cost) [0]

theorem sizes_len : ∀ n, (allSizes n).length = 2 ^ n
  | 0 => rfl
  | n + 1 => by
    rw [allSizes, List.length_append, List.length_map, sizes_len n, Nat.pow_succ]; omega
/-- bits of a number below 2 ^ (n + 1) -/
theorem low_bits {q n : Nat} (h1 : 2 ^ n ≤ q) (h2 : q < 2 ^ (n + 1)) : q.testBit n = true ∧ ∀ i, i < n → (q - 2 ^ n).testBit i = q.testBit i := by
  have hlt : q - 2 ^ n < 2 ^ n := by rw [Nat.pow_succ] at h2; omega
  have e : q = (q - 2 ^ n) + 2 ^ n := by omega
  constructor
  · rw [e, testBit_add_pow hlt]; simp
  · intro i hi
    have : q.testBit i = ((q - 2 ^ n) + 2 ^ n).testBit i := by rw [← e]
    rw [this, testBit_add_pow hlt]
    have : ¬ i = n := by omega
    simp [this]
theorem nums_high {q n : Nat} (h1 : 2 ^ n ≤ q) (h2 : q < 2 ^ (n + 1)) : numsIn q (n + 1) = numsIn (q - 2 ^ n) n ++ [n] := by
  obtain ⟨a, b⟩ := low_bits h1 h2
  unfold numsIn
  rw [filter_range_succ, if_pos a]
  congr 1
  exact filter_range_congr fun i hi => (b i hi).symm
theorem nums_low {q n : Nat} (h : q < 2 ^ n) : numsIn q (n + 1) = numsIn q n := by
  unfold numsIn
  rw [filter_range_succ, Nat.testBit_lt_two_pow h]
  simp
theorem sizes_at : ∀ (n q : Nat), q < 2 ^ n → (allSizes n).getD q 0 = sz n q
  | 0, q, h => by
    have : q = 0 := by simp at h; exact h
    subst this; rfl
  | n + 1, q, h => by
    unfold allSizes sz
    by_cases c : q < 2 ^ n
    · rw [nums_low c, List.getD_eq_getElem?_getD, List.getElem?_append_left (by rw [sizes_len]; exact c), ← List.getD_eq_getElem?_getD]
      exact sizes_at n q c
    · have c' : 2 ^ n ≤ q := by omega
      have h' : q - 2 ^ n < 2 ^ n := by rw [Nat.pow_succ] at h; omega
      rw [nums_high c' h, List.getD_eq_getElem?_getD, List.getElem?_append_right (by rw [sizes_len]; exact c'), sizes_len, List.getElem?_map, List.length_append]
      have ih := sizes_at n (q - 2 ^ n) h'
      rw [List.getD_eq_getElem?_getD] at ih
      have hl : q - 2 ^ n < (allSizes n).length := by rw [sizes_len]; exact h'
      rw [List.getElem?_eq_getElem hl] at ih ⊢
      simp at ih ⊢
      exact ih

def noSail : Sail := ⟨1, 0, 0⟩
def costIn (ss : List Sail) (q : Nat) : Nat := ((numsIn q ss.length).map fun i => (ss.getD i noSail).cost).sum
theorem prices_append (ss : List Sail) (x : Sail) : allPrices (ss ++ [x]) = allPrices ss ++ (allPrices ss).map fun y => y + x.cost := by
  unfold allPrices
  rw [List.foldl_append]; rfl
theorem getD_append_lt {α : Type} (l r : List α) (d : α) {i : Nat} (h : i < l.length) : (l ++ r).getD i d = l.getD i d := by
  rw [List.getD_eq_getElem?_getD, List.getElem?_append_left h, ← List.getD_eq_getElem?_getD]
theorem getD_append_self {α : Type} (l : List α) (x d : α) : (l ++ [x]).getD l.length d = x := by
  rw [List.getD_eq_getElem?_getD, List.getElem?_append_right (Nat.le_refl _)]; simp
theorem mem_nums {q n i : Nat} (h : i ∈ numsIn q n) : i < n := by
  unfold numsIn at h
  exact List.mem_range.mp (List.mem_filter.mp h).1
theorem cost_low (ss : List Sail) (x : Sail) {q : Nat} (h : q < 2 ^ ss.length) : costIn (ss ++ [x]) q = costIn ss q := by
  unfold costIn
  rw [List.length_append, List.length_singleton, nums_low h]
  congr 1
  exact List.map_congr_left fun i hi => by rw [getD_append_lt _ _ _ (mem_nums hi)]
theorem cost_high (ss : List Sail) (x : Sail) {q : Nat} (h1 : 2 ^ ss.length ≤ q) (h2 : q < 2 ^ (ss.length + 1)) : costIn (ss ++ [x]) q = costIn ss (q - 2 ^ ss.length) + x.cost := by
  unfold costIn
  rw [List.length_append, List.length_singleton, nums_high h1 h2, List.map_append, sum_append_nat]
  congr 1
  · congr 1
    exact List.map_congr_left fun i hi => by rw [getD_append_lt _ _ _ (mem_nums hi)]
  · simp
theorem snoc_ind {α : Type} {P : List α → Prop} (h0 : P []) (hs : ∀ l x, P l → P (l ++ [x])) : ∀ l, P l := by
  intro l
  have : ∀ r : List α, P r.reverse := by
    intro r
    induction r with
    | nil => exact h0
    | cons a r ih => rw [List.reverse_cons]; exact hs _ _ ih
  have e := this l.reverse
  rwa [List.reverse_reverse] at e
theorem prices_len (ss : List Sail) : (allPrices ss).length = 2 ^ ss.length := by
  induction ss using snoc_ind with
  | h0 => rfl
  | hs l x ih => rw [prices_append, List.length_append, List.length_map, ih, List.length_append, List.length_singleton, Nat.pow_succ]; omega
theorem prices_at (ss : List Sail) : ∀ q, q < 2 ^ ss.length → (allPrices ss).getD q 0 = costIn ss q := by
  induction ss using snoc_ind with
  | h0 =>
    intro q h
    have : q = 0 := by simpa using h
    subst this; rfl
  | hs l x ih =>
    intro q h
    rw [List.length_append, List.length_singleton] at h
    rw [prices_append]
    by_cases c : q < 2 ^ l.length
    · rw [cost_low _ _ c, getD_append_lt _ _ _ (by rw [prices_len]; exact c)]
      exact ih q c
    · have c' : 2 ^ l.length ≤ q := by omega
      have h' : q - 2 ^ l.length < 2 ^ l.length := by rw [Nat.pow_succ] at h; omega
      rw [cost_high _ _ c' h, List.getD_eq_getElem?_getD, List.getElem?_append_right (by rw [prices_len]; exact c'), prices_len, List.getElem?_map]
      have i2 := ih _ h'
      have hl : q - 2 ^ l.length < (allPrices l).length := by rw [prices_len]; exact h'
      rw [List.getD_eq_getElem?_getD, List.getElem?_eq_getElem hl] at i2
      rw [List.getElem?_eq_getElem hl]
      simp at i2 ⊢
      exact i2

/-! ### standing -/
def standL (ss : List Sail) (w : Nat) : List Nat := (List.range ss.length).filter fun i => stands (ss.getD i noSail) w
def maskAt (ss : List Sail) (w : Nat) : Nat := maskOf (fun i => stands (ss.getD i noSail) w) ss.length
theorem maskAt_eq (ss : List Sail) (w : Nat) : maskAt ss w = ((standL ss w).map fun i => 2 ^ i).sum := rfl
theorem maskAt_lt (ss : List Sail) (w : Nat) : maskAt ss w < 2 ^ ss.length := mask_lt _ _
theorem and_lt {q m n : Nat} (h : q < 2 ^ n) : q &&& m < 2 ^ n := Nat.lt_of_le_of_lt Nat.and_le_left h
theorem nums_and (q : Nat) (p : Nat → Bool) (n : Nat) : numsIn (q &&& maskOf p n) n = (numsIn q n).filter p := by
  unfold numsIn
  rw [List.filter_filter]
  exact filter_range_congr fun i hi => by
    rw [Nat.testBit_and, mask_bit, decide_eq_true hi, Bool.true_and, Bool.and_comm]
theorem many_eq (s : Loft) (q w : Nat) : sz s.sails.length (q &&& maskAt s.sails w) = s.many q w := by
  unfold sz maskAt
  rw [nums_and]; rfl
/-- how many of a list stand: by places, by items -/
theorem standL_len (l : List Sail) (w : Nat) : (standL l w).length = (l.filter fun x => stands x w).length := by
  induction l using snoc_ind with
  | h0 => rfl
  | hs l x ih =>
    unfold standL
    rw [List.length_append, List.length_singleton, filter_range_succ, List.length_append, List.filter_append, List.length_append]
    have e1 : (List.range l.length).filter (fun i => stands ((l ++ [x]).getD i noSail) w) = standL l w :=
      filter_range_congr fun i hi => by rw [getD_append_lt _ _ _ hi]
    rw [e1, ih, getD_append_self]
    congr 1
    by_cases h : stands x w = true
    · rw [if_pos h, List.filter_cons_of_pos (p := fun x => stands x w) h]; rfl
    · rw [if_neg h, List.filter_cons_of_neg (p := fun x => stands x w) h]; rfl
def chosen (ss : List Sail) (q : Nat) : List Sail := (numsIn q ss.length).map fun i => ss.getD i noSail
theorem chosen_many (s : Loft) (q w : Nat) : (standL (chosen s.sails q) w).length = s.many q w := by
  rw [standL_len]
  unfold chosen Loft.many
  rw [List.filter_map, List.length_map]; rfl
theorem chosen_len (s : Loft) (q : Nat) : (chosen s.sails q).length = (s.members q).length := by
  unfold chosen
  rw [List.length_map]; rfl
theorem foldl_sum (l : List Nat) : ∀ a, l.foldl (fun a b => a + b) a = a + l.sum := by
  induction l with
  | nil => intro a; simp
  | cons x r ih => intro a; rw [List.foldl_cons, ih, List.sum_cons]; omega
theorem total_eq (l : List Nat) : total l = l.sum := by
  unfold total
  rw [foldl_sum]; omega
theorem cost_eq (s : Loft) (q : Nat) : costIn s.sails q = s.cost q := by
  unfold Loft.cost
  rw [total_eq]; rfl
theorem chosen_cost (s : Loft) (q : Nat) : ((chosen s.sails q).map fun x => x.cost).sum = s.cost q := by
  rw [← cost_eq]
  unfold chosen costIn
  rw [List.map_map]; rfl

/-! ### the winds -/
theorem winds_eq (s : Loft) (h : s.lo ≤ s.hi + 1) : s.winds = (List.range (s.hi + 1 - s.lo)).map fun i => s.lo + i := by
  unfold Loft.winds
  apply List.ext_getElem?
  intro i
  have e : ∀ n, s.lo ≤ n → (List.range n).filter (fun w => decide (s.lo ≤ w)) = (List.range (n - s.lo)).map fun i => s.lo + i := by
    intro n hn
    induction n with
    | zero => simp
    | succ n ih =>
      rw [filter_range_succ]
      by_cases c : s.lo ≤ n
      · rw [ih c, if_pos (decide_eq_true c), show n + 1 - s.lo = (n - s.lo) + 1 by omega, List.range_succ, List.map_append]
        congr 1
        simp; omega
      · have : s.lo = n + 1 := by omega
        rw [this]
        simp
        intro a ha; omega
  rw [e _ h]

/-! ### enough -/
theorem find_none_iff {α : Type} (p : α → Bool) (l : List α) : (l.find? p).isNone = l.all fun x => !p x := by
  induction l with
  | nil => rfl
  | cons a r ih =>
    rw [List.find?_cons, List.all_cons]
    cases h : p a with
    | true => simp
    | false => simpa using ih
theorem enough_eq (s : Loft) (k q : Nat) : s.enough k q = s.winds.all fun w => decide (k ≤ s.many q w) := by
  unfold Loft.enough Loft.gap
  rw [find_none_iff]
  congr 1
  funext w
  by_cases c : s.many q w < k
  · rw [decide_eq_true c]; have : ¬ k ≤ s.many q w := by omega
    simp [this]
  · rw [decide_eq_false c]; have : k ≤ s.many q w := by omega
    simp [this]
/-- by the wanted sets: any list of just the winds' masks -/
theorem enough_wanted (s : Loft) (k q : Nat) (hq : q < 2 ^ s.sails.length) (wanted : List Nat) (hw : ∀ x, x ∈ wanted ↔ x ∈ s.winds.map (maskAt s.sails)) :
    (wanted.all fun one => decide (k ≤ (allSizes s.sails.length).getD (q &&& one) 0)) = s.enough k q := by
  rw [enough_eq, Bool.eq_iff_iff, List.all_eq_true, List.all_eq_true]
  constructor
  · intro h w hm
    have := h (maskAt s.sails w) ((hw _).mpr (List.mem_map_of_mem hm))
    rw [sizes_at _ _ (and_lt hq), many_eq] at this
    exact this
  · intro h x hx
    obtain ⟨w, hm, rfl⟩ := List.mem_map.mp ((hw x).mp hx)
    rw [sizes_at _ _ (and_lt hq), many_eq]
    exact h w hm

/-! ### the best -/
/-- (price, size) of one set before another's -/
def lexLt (a b : Nat × Nat) : Prop := a.1 < b.1 ∨ (a.1 = b.1 ∧ a.2 < b.2)
instance (a b : Nat × Nat) : Decidable (lexLt a b) := inferInstanceAs (Decidable (_ ∨ _))
def minMark : List (Nat × Nat) → Nat × Nat
  | [] => (0, 0)
  | a :: r => r.foldl (fun m x => if lexLt x m then x else m) a
def markOf (s : Loft) (q : Nat) : Nat × Nat := (s.cost q, (s.members q).length)
def enoughSets (s : Loft) (k : Nat) : List Nat := (List.range (2 ^ s.sails.length)).filter (s.enough k)
def bestSets (s : Loft) (k : Nat) : List Nat := (enoughSets s k).filter fun q => decide (markOf s q = minMark ((enoughSets s k).map (markOf s)))

def bestStep (s : Loft) (b : Option Best) (q : Nat) : Option Best :=
  match b with
  | none => some ⟨s.cost q, (s.members q).length, 1, q⟩
  | some x => if s.cost q < x.cost ∨ (s.cost q = x.cost ∧ (s.members q).length < x.size) then some ⟨s.cost q, (s.members q).length, 1, q⟩ else if s.cost q = x.cost ∧ (s.members q).length = x.size then some { x with many := x.many + 1 } else some x
theorem best_fold (s : Loft) (k : Nat) : s.best k = (enoughSets s k).foldl (bestStep s) none := rfl

theorem minMark_snoc (l : List (Nat × Nat)) (x : Nat × Nat) (h : l ≠ []) : minMark (l ++ [x]) = if lexLt x (minMark l) then x else minMark l := by
  cases l with
  | nil => exact absurd rfl h
  | cons a r =>
    show (r ++ [x]).foldl _ a = _
    rw [List.foldl_append]; rfl
theorem minMark_le (l : List (Nat × Nat)) : ∀ x ∈ l, ¬ lexLt x (minMark l) := by
  induction l using snoc_ind with
  | h0 => intro x hx; simp at hx
  | hs l y ih =>
    intro x hx
    by_cases hl : l = []
    · subst hl
      simp at hx
      subst hx
      show ¬ lexLt x x
      unfold lexLt; omega
    · rw [minMark_snoc _ _ hl]
      rcases List.mem_append.mp hx with h | h
      · have := ih x h
        split
        · rename_i c
          unfold lexLt at *; omega
        · exact this
      · simp at h
        subst h
        split
        · unfold lexLt; omega
        · assumption
def asBest (s : Loft) (l : List Nat) : Option Best :=
  match l.filter (fun q => decide (markOf s q = minMark (l.map (markOf s)))) with
  | [] => none
  | q :: r => some ⟨s.cost q, (s.members q).length, r.length + 1, q⟩
theorem asBest_eq (s : Loft) (l : List Nat) : l.foldl (bestStep s) none = asBest s l ∧ (l ≠ [] → ∃ q r, l.filter (fun q => decide (markOf s q = minMark (l.map (markOf s)))) = q :: r) := by
  induction l using snoc_ind with
  | h0 => exact ⟨rfl, fun h => absurd rfl h⟩
  | hs l x ih =>
    obtain ⟨ih, ih2⟩ := ih
    by_cases hl : l = []
    · subst hl
      have e : ([x] : List Nat).filter (fun q => decide (markOf s q = minMark (([x] : List Nat).map (markOf s)))) = [x] := by
        simp [minMark]
      constructor
      · show bestStep s none x = asBest s [x]
        unfold asBest
        rw [e]; rfl
      · intro _
        exact ⟨x, [], e⟩
    · obtain ⟨q, r, e⟩ := ih2 hl
      have hml : l.map (markOf s) ≠ [] := by simpa using hl
      have hq : markOf s q = minMark (l.map (markOf s)) := by
        have : q ∈ l.filter (fun q => decide (markOf s q = minMark (l.map (markOf s)))) := by rw [e]; exact List.mem_cons_self
        exact of_decide_eq_true (List.mem_filter.mp this).2
      have hcur : l.foldl (bestStep s) none = some ⟨s.cost q, (s.members q).length, r.length + 1, q⟩ := by
        rw [ih]; unfold asBest; rw [e]
      have hmk : minMark ((l ++ [x]).map (markOf s)) = if lexLt (markOf s x) (minMark (l.map (markOf s))) then markOf s x else minMark (l.map (markOf s)) := by
        rw [List.map_append]; exact minMark_snoc _ _ hml
      have hstep : (l ++ [x]).foldl (bestStep s) none = bestStep s (some ⟨s.cost q, (s.members q).length, r.length + 1, q⟩) x := by
        rw [List.foldl_append, hcur]; rfl
      have hlex : lexLt (markOf s x) (markOf s q) ↔ s.cost x < s.cost q ∨ (s.cost x = s.cost q ∧ (s.members x).length < (s.members q).length) := Iff.rfl
      by_cases c : lexLt (markOf s x) (minMark (l.map (markOf s)))
      · rw [if_pos c] at hmk
        have hf : l.filter (fun q => decide (markOf s q = minMark ((l ++ [x]).map (markOf s)))) = [] := by
          rw [hmk, List.filter_eq_nil_iff]
          intro a ha
          have h1 := minMark_le (l.map (markOf s)) (markOf s a) (List.mem_map_of_mem ha)
          simp only [decide_eq_true_eq]
          intro h2
          rw [h2] at h1
          exact h1 c
        have hff : (l ++ [x]).filter (fun q => decide (markOf s q = minMark ((l ++ [x]).map (markOf s)))) = [x] := by
          rw [List.filter_append, hf, hmk]
          simp
        refine ⟨?_, fun _ => ⟨x, [], hff⟩⟩
        rw [hstep]
        unfold asBest
        rw [hff]
        show (if s.cost x < s.cost q ∨ (s.cost x = s.cost q ∧ (s.members x).length < (s.members q).length) then _ else _) = _
        rw [← hq] at c
        rw [if_pos (hlex.mp c)]; rfl
      · rw [if_neg c] at hmk
        have hfl : (l ++ [x]).filter (fun q => decide (markOf s q = minMark ((l ++ [x]).map (markOf s)))) = (q :: r) ++ [x].filter (fun q => decide (markOf s q = minMark (l.map (markOf s)))) := by
          rw [List.filter_append, hmk, e]
        rw [← hq] at c
        by_cases d : markOf s x = markOf s q
        · have hx1 : [x].filter (fun q => decide (markOf s q = minMark (l.map (markOf s)))) = [x] := by
            rw [← hq]; simp [d]
          rw [hx1] at hfl
          refine ⟨?_, fun _ => ⟨q, r ++ [x], hfl⟩⟩
          rw [hstep]
          unfold asBest
          rw [hfl]
          show (if s.cost x < s.cost q ∨ (s.cost x = s.cost q ∧ (s.members x).length < (s.members q).length) then _ else if s.cost x = s.cost q ∧ (s.members x).length = (s.members q).length then _ else _) = some (Best.mk (s.cost q) (s.members q).length ((r ++ [x]).length + 1) q)
          rw [if_neg (fun z => c (hlex.mpr z)), if_pos (And.intro (show s.cost x = s.cost q from congrArg Prod.fst d) (show (s.members x).length = (s.members q).length from congrArg Prod.snd d))]
          simp
        · have hx1 : [x].filter (fun q => decide (markOf s q = minMark (l.map (markOf s)))) = [] := by
            rw [← hq]; simp [d]
          rw [hx1, List.append_nil] at hfl
          refine ⟨?_, fun _ => ⟨q, r, hfl⟩⟩
          rw [hstep]
          unfold asBest
          rw [hfl]
          show (if s.cost x < s.cost q ∨ (s.cost x = s.cost q ∧ (s.members x).length < (s.members q).length) then _ else if s.cost x = s.cost q ∧ (s.members x).length = (s.members q).length then _ else _) = some (Best.mk (s.cost q) (s.members q).length (r.length + 1) q)
          rw [if_neg (fun z => c (hlex.mpr z)), if_neg (fun z => d (Prod.ext z.1 z.2))]
theorem best_none (s : Loft) (k : Nat) (h : bestSets s k = []) : s.best k = none := by
  rw [best_fold, (asBest_eq s _).1]
  unfold asBest
  have e : (enoughSets s k).filter (fun q => decide (markOf s q = minMark ((enoughSets s k).map (markOf s)))) = [] := h
  rw [e]
theorem best_some (s : Loft) (k q : Nat) (r : List Nat) (h : bestSets s k = q :: r) : s.best k = some ⟨s.cost q, (s.members q).length, (bestSets s k).length, q⟩ := by
  rw [best_fold, (asBest_eq s _).1]
  unfold asBest
  have e : (enoughSets s k).filter (fun q => decide (markOf s q = minMark ((enoughSets s k).map (markOf s)))) = q :: r := h
  rw [e, h]; rfl

/-! ### one after another -/
def farL (ss : List Sail) (l : List Nat) : Nat := l.foldl (fun f i => if (ss.getD f noSail).hi < (ss.getD i noSail).hi then i else f) (l.headD 0)
def farStep (s : Loft) (w : Nat) (b : Option Nat) (i : Nat) : Option Nat := if stands (s.sail i) w = true then match b with
  | none => some i
  | some k => if (s.sail k).hi < (s.sail i).hi then some i else some k else b
theorem far_fold (s : Loft) (w : Nat) : s.farthest w = (List.range s.sails.length).foldl (farStep s w) none := rfl
def farO (ss : List Sail) (b : Option Nat) (i : Nat) : Option Nat := match b with
  | none => some i
  | some k => if (ss.getD k noSail).hi < (ss.getD i noSail).hi then some i else some k
theorem far_filter (s : Loft) (w : Nat) : ∀ (l : List Nat) (b : Option Nat), l.foldl (farStep s w) b = (l.filter fun i => stands (s.sail i) w).foldl (farO s.sails) b := by
  intro l
  induction l with
  | nil => intro b; rfl
  | cons a r ih =>
    intro b
    rw [List.foldl_cons, ih]
    by_cases h : stands (s.sail a) w = true
    · rw [List.filter_cons_of_pos (p := fun i => stands (s.sail i) w) h, List.foldl_cons]
      congr 1
      unfold farStep
      rw [if_pos h]; rfl
    · rw [List.filter_cons_of_neg (p := fun i => stands (s.sail i) w) h]
      congr 1
      unfold farStep
      rw [if_neg h]
theorem farO_some (ss : List Sail) : ∀ (l : List Nat) (f : Nat), l.foldl (farO ss) (some f) = some (l.foldl (fun f i => if (ss.getD f noSail).hi < (ss.getD i noSail).hi then i else f) f) := by
  intro l
  induction l with
  | nil => intro f; rfl
  | cons a r ih =>
    intro f
    rw [List.foldl_cons, List.foldl_cons]
    have e : farO ss (some f) a = some (if (ss.getD f noSail).hi < (ss.getD a noSail).hi then a else f) := by
      show (if _ then _ else _) = _
      split <;> rfl
    rw [e, ih]
theorem farthest_eq (s : Loft) (w : Nat) : s.farthest w = if standL s.sails w = [] then none else some (farL s.sails (standL s.sails w)) := by
  rw [far_fold, far_filter]
  show (standL s.sails w).foldl (farO s.sails) none = _
  cases e : standL s.sails w with
  | nil => rfl
  | cons a r =>
    rw [if_neg (by simp), List.foldl_cons]
    show r.foldl (farO s.sails) (some a) = _
    rw [farO_some]
    unfold farL
    rw [List.foldl_cons]
    congr 2
    simp
theorem farL_mem (ss : List Sail) (l : List Nat) (h : l ≠ []) : farL ss l ∈ l := by
  have key : ∀ (r : List Nat) (f : Nat), f ∈ l → (∀ x ∈ r, x ∈ l) → r.foldl (fun f i => if (ss.getD f noSail).hi < (ss.getD i noSail).hi then i else f) f ∈ l := by
    intro r
    induction r with
    | nil => intro f hf _; exact hf
    | cons a r ih =>
      intro f hf hr
      rw [List.foldl_cons]
      refine ih _ ?_ fun x hx => hr x (List.mem_cons_of_mem _ hx)
      split
      · exact hr a List.mem_cons_self
      · exact hf
  unfold farL
  cases l with
  | nil => exact absurd rfl h
  | cons a r => exact key (a :: r) a List.mem_cons_self fun x hx => hx
theorem mem_standL {ss : List Sail} {w i : Nat} (h : i ∈ standL ss w) : i < ss.length ∧ stands (ss.getD i noSail) w = true := by
  unfold standL at h
  obtain ⟨a, b⟩ := List.mem_filter.mp h
  exact ⟨List.mem_range.mp a, b⟩
theorem stands_iff {x : Sail} {w : Nat} : stands x w = true ↔ x.lo ≤ w ∧ w ≤ x.hi := by
  unfold stands
  rw [Bool.and_eq_true, decide_eq_true_eq, decide_eq_true_eq]
/-- what fewest answers from a wind on, behind what is taken -/
def few (s : Loft) (f w : Nat) (taken : List Nat) : Except Nat (List Nat) := match s.plainFrom f w with
  | .error e => .error e
  | .ok l => .ok (taken ++ l)
theorem few_done (s : Loft) (f w : Nat) (t : List Nat) (h : s.hi < w) : few s f w t = .ok t := by
  unfold few
  cases f with
  | zero => show Except.ok (t ++ []) = _; rw [List.append_nil]
  | succ f =>
    have e : s.plainFrom (f + 1) w = .ok [] := by
      show (if s.hi < w then _ else _) = _
      rw [if_pos h]
    rw [e]; show Except.ok (t ++ []) = _; rw [List.append_nil]
theorem few_none (s : Loft) (f w : Nat) (t : List Nat) (h : ¬ s.hi < w) (hs : standL s.sails w = []) : few s (f + 1) w t = .error w := by
  unfold few
  have e : s.plainFrom (f + 1) w = .error w := by
    show (if s.hi < w then _ else match s.farthest w with | none => _ | some i => _) = _
    rw [if_neg h, farthest_eq, if_pos hs]
  rw [e]
theorem few_some (s : Loft) (f w : Nat) (t : List Nat) (h : ¬ s.hi < w) (hs : standL s.sails w ≠ []) :
    few s (f + 1) w t = few s f ((s.sails.getD (farL s.sails (standL s.sails w)) noSail).hi + 1) (t ++ [farL s.sails (standL s.sails w)]) := by
  have e : s.plainFrom (f + 1) w = match s.plainFrom f ((s.sail (farL s.sails (standL s.sails w))).hi + 1) with
      | .error e => .error e
      | .ok l => .ok (farL s.sails (standL s.sails w) :: l) := by
    show (if s.hi < w then _ else match s.farthest w with | none => _ | some i => _) = _
    rw [if_neg h, farthest_eq, if_neg hs] <;> rfl
  unfold few
  rw [e]
  show _ = (match s.plainFrom f ((s.sail (farL s.sails (standL s.sails w))).hi + 1) with | .error e => _ | .ok l => _)
  cases s.plainFrom f ((s.sail (farL s.sails (standL s.sails w))).hi + 1) with
  | error e => rfl
  | ok l => show Except.ok (t ++ _ :: l) = Except.ok ((t ++ [_]) ++ l); rw [List.append_assoc]; rfl
end Sw
set_option Elab.async false
set_option linter.all false
set_option maxRecDepth 100000
set_option maxHeartbeats 2000000
/-! The text by its places; how the objects lie; the promises. -/
namespace Sw
open PySem PySem.Spec PyProof.Rows L2
def topS (i : Nat) : Stmt := PySem.Challenge.pw_sailwardrobe_s01_answers.main.body.getD i (.Pass ⟨0, 0, 0, 0⟩)
abbrev sSailInit : Stmt := inClass (topS 1) 0
abbrev sStandsIn : Stmt := inClass (topS 1) 1
abbrev sStanding : Stmt := topS 2
abbrev sFarthest : Stmt := topS 3
abbrev sHas : Stmt := topS 5
abbrev sNumsIn : Stmt := topS 6
abbrev sAsSet : Stmt := topS 7
abbrev sSizes : Stmt := topS 8
abbrev sPrices : Stmt := topS 9
abbrev sStandSets : Stmt := topS 10
abbrev sIsEnough : Stmt := topS 11
abbrev sEnough : Stmt := topS 12
abbrev sBestSets : Stmt := topS 13
abbrev sRefInit : Stmt := inClass (topS 22) 0
abbrev sWant : Stmt := topS 23
abbrev sAreWinds : Stmt := topS 24
abbrev sLoftInit : Stmt := inClass (topS 25) 0
abbrev sWinds : Stmt := inClass (topS 25) 1
abbrev sBegin : Stmt := inClass (topS 25) 2
abbrev sPutSail : Stmt := inClass (topS 25) 3
abbrev sCheck : Stmt := inClass (topS 25) 4
abbrev sBest : Stmt := inClass (topS 25) 5
abbrev sFewest : Stmt := inClass (topS 25) 6
abbrev sTold : Stmt := topS 28
abbrev sAnswer : Stmt := topS 29
abbrev sAnswers : Stmt := topS 30
theorem scSailInit : FnScope ["self", "least", "greatest", "price"] ["self", "least", "greatest", "price"] (defScope sSailInit) := ⟨rfl, rfl, rfl, by decide +kernel, rfl, by decide +kernel, by decide +kernel⟩
theorem scStandsIn : FnScope ["self", "wind"] ["self", "wind"] (defScope sStandsIn) := ⟨rfl, rfl, rfl, by decide +kernel, rfl, by decide +kernel, by decide +kernel⟩
theorem scStanding : FnScope ["sails", "wind", "number", "sail"] ["sails", "wind"] (defScope sStanding) := ⟨rfl, rfl, rfl, by decide +kernel, rfl, by decide +kernel, by decide +kernel⟩
theorem scFarthest : FnScope ["sails", "numbers", "found", "number"] ["sails", "numbers"] (defScope sFarthest) := ⟨rfl, rfl, rfl, by decide +kernel, rfl, by decide +kernel, by decide +kernel⟩
theorem scHas : FnScope ["chosen", "number"] ["chosen", "number"] (defScope sHas) := ⟨rfl, rfl, rfl, by decide +kernel, rfl, by decide +kernel, by decide +kernel⟩
theorem scNumsIn : FnScope ["chosen", "many", "number"] ["chosen", "many"] (defScope sNumsIn) := ⟨rfl, rfl, rfl, by decide +kernel, rfl, by decide +kernel, by decide +kernel⟩
theorem scAsSet : FnScope ["numbers", "number"] ["numbers"] (defScope sAsSet) := ⟨rfl, rfl, rfl, by decide +kernel, rfl, by decide +kernel, by decide +kernel⟩
theorem scSizes : FnScope ["many", "found", "number", "size"] ["many"] (defScope sSizes) := ⟨rfl, rfl, rfl, by decide +kernel, rfl, by decide +kernel, by decide +kernel⟩
theorem scPrices : FnScope ["sails", "found", "sail", "price"] ["sails"] (defScope sPrices) := ⟨rfl, rfl, rfl, by decide +kernel, rfl, by decide +kernel, by decide +kernel⟩
theorem scStandSets : FnScope ["sails", "winds", "wind"] ["sails", "winds"] (defScope sStandSets) := ⟨rfl, rfl, rfl, by decide +kernel, rfl, by decide +kernel, by decide +kernel⟩
theorem scIsEnough : FnScope ["chosen", "sizes", "wanted", "k", "one"] ["chosen", "sizes", "wanted", "k"] (defScope sIsEnough) := ⟨rfl, rfl, rfl, by decide +kernel, rfl, by decide +kernel, by decide +kernel⟩
theorem scEnough : FnScope ["sails", "winds", "k", "sizes", "wanted", "chosen"] ["sails", "winds", "k"] (defScope sEnough) := ⟨rfl, rfl, rfl, by decide +kernel, rfl, by decide +kernel, by decide +kernel⟩
theorem scBestSets : FnScope ["sails", "winds", "k", "prices", "sizes", "some", "marks", "least", "chosen", "mark"] ["sails", "winds", "k"] (defScope sBestSets) := ⟨rfl, rfl, rfl, by decide +kernel, rfl, by decide +kernel, by decide +kernel⟩
theorem scRefInit : FnScope ["self", "answered"] ["self", "answered"] (defScope sRefInit) := ⟨rfl, rfl, rfl, by decide +kernel, rfl, by decide +kernel, by decide +kernel⟩
theorem scWant : FnScope ["truth", "answered"] ["truth", "answered"] (defScope sWant) := ⟨rfl, rfl, rfl, by decide +kernel, rfl, by decide +kernel, by decide +kernel⟩
theorem scAreWinds : FnScope ["least", "greatest"] ["least", "greatest"] (defScope sAreWinds) := ⟨rfl, rfl, rfl, by decide +kernel, rfl, by decide +kernel, by decide +kernel⟩
theorem scLoftInit : FnScope ["self"] ["self"] (defScope sLoftInit) := ⟨rfl, rfl, rfl, by decide +kernel, rfl, by decide +kernel, by decide +kernel⟩
theorem scWinds : FnScope ["self"] ["self"] (defScope sWinds) := ⟨rfl, rfl, rfl, by decide +kernel, rfl, by decide +kernel, by decide +kernel⟩
theorem scBegin : FnScope ["self", "least", "greatest"] ["self", "least", "greatest"] (defScope sBegin) := ⟨rfl, rfl, rfl, by decide +kernel, rfl, by decide +kernel, by decide +kernel⟩
theorem scPutSail : FnScope ["self", "least", "greatest", "price"] ["self", "least", "greatest", "price"] (defScope sPutSail) := ⟨rfl, rfl, rfl, by decide +kernel, rfl, by decide +kernel, by decide +kernel⟩
theorem scCheck : FnScope ["self", "k", "chosen", "some", "wind", "many", "number", "sail"] ["self", "k", "chosen"] (defScope sCheck) := ⟨rfl, rfl, rfl, by decide +kernel, rfl, by decide +kernel, by decide +kernel⟩
theorem scBest : FnScope ["self", "k", "found", "some", "number"] ["self", "k"] (defScope sBest) := ⟨rfl, rfl, rfl, by decide +kernel, rfl, by decide +kernel, by decide +kernel⟩
theorem scFewest : FnScope ["self", "taken", "wind", "some"] ["self"] (defScope sFewest) := ⟨rfl, rfl, rfl, by decide +kernel, rfl, by decide +kernel, by decide +kernel⟩
theorem scTold : FnScope ["loft", "call", "n"] ["loft", "call", "n"] (defScope sTold) := ⟨rfl, rfl, rfl, by decide +kernel, rfl, by decide +kernel, by decide +kernel⟩
theorem scAnswer : FnScope ["loft", "call", "n", "found", "e"] ["loft", "call", "n"] (defScope sAnswer) := ⟨rfl, rfl, rfl, by decide +kernel, rfl, by decide +kernel, by decide +kernel⟩
theorem scAnswers : FnScope ["calls", "loft", "found", "at", "behind", "one"] ["calls"] (defScope sAnswers) := ⟨rfl, rfl, rfl, by decide +kernel, rfl, by decide +kernel, by decide +kernel⟩

/-! ### an if whose test is known -/
theorem ite_t {c : Bool} {A B : Prop} (hc : c = true) (h : A) : if c = true then A else B := by
  rw [if_pos hc]
  exact h
theorem ite_f {c : Bool} {A B : Prop} (hc : c = false) (h : B) : if c = true then A else B := by
  rw [hc, if_neg Bool.false_ne_true]
  exact h
theorem dec_le (i j : Nat) : decide ((i : Int) ≤ (j : Int)) = decide (i ≤ j) := decide_eq_decide.mpr Int.ofNat_le
theorem dec_lt (i j : Nat) : decide ((i : Int) < (j : Int)) = decide (i < j) := decide_eq_decide.mpr Int.ofNat_lt
/-! ### lists of numbers as values -/
def nI (l : List Nat) : List Int := l.map fun (n : Nat) => (n : Int)
def vI (l : List Nat) : List V := (nI l).map V.int
theorem vI_length (l : List Nat) : (vI l).length = l.length := by
  unfold vI nI
  rw [List.length_map, List.length_map]
theorem nI_length (l : List Nat) : (nI l).length = l.length := List.length_map _
theorem vI_append (a b : List Nat) : vI (a ++ b) = vI a ++ vI b := by
  unfold vI nI
  rw [List.map_append, List.map_append]
theorem vI_get {l : List Nat} {i n : Nat} (h : l[i]? = some n) : (vI l)[i]? = some (V.int (n : Int)) := by
  unfold vI nI
  rw [List.getElem?_map, List.getElem?_map, h]; rfl
theorem vI_inv {l : List Nat} {i : Nat} {v : V} (h : (vI l)[i]? = some v) : ∃ n : Nat, l[i]? = some n ∧ v = V.int (n : Int) := by
  unfold vI nI at h
  rw [List.getElem?_map, List.getElem?_map] at h
  cases e : l[i]? with
  | none => rw [e] at h; cases h
  | some n => rw [e] at h; exact ⟨n, rfl, (Option.some.inj h).symm⟩
theorem nI_sum (l : List Nat) : (nI l).sum = ((l.sum : Nat) : Int) := by
  induction l with
  | nil => rfl
  | cons a r ih =>
    have e : nI (a :: r) = (a : Int) :: nI r := rfl
    rw [e, List.sum_cons, List.sum_cons, ih, Int.natCast_add]

/-! ### heaps -/
theorem same_new {H : Hp} {p : Addr} {o : HO} (h : H p = none) : Same H (upd H p o) := fun b x e => by
  rw [upd_ne (ne_of_none e h)]
  exact e
theorem Same.ne {H H' : Hp} {p b : Addr} {o : HO} (h : Same H H') (e : H b = some o) (n : H' p = none) : b ≠ p := ne_of_none (h b o e) n
/-- a list that is made at D goes on growing -/
theorem grow {H H4 : Hp} {D : Addr} {o : HO} (hD : H D = none) (s : Same H H4) : Same H (upd H4 D o) := fun b x e => by
  rw [upd_ne (ne_of_none e hD)]
  exact s b x e
def LAt (H : Hp) (p : Addr) (l : List Nat) : Prop := H p = some (.lst (vI l))
theorem LAt.sq {K : PySem.W.Frag} {H : Hp} {p : Addr} {l : List Nat} (h : LAt H p l) : SqL K H p (vI l) := .inl (.inl h)
theorem LAt.same {H H' : Hp} {p : Addr} {l : List Nat} (h : LAt H p l) (s : Same H H') : LAt H' p l := s _ _ h
theorem lk_here {k : Str} {v : V} {r : List (Str × V)} : List.lookup k ((k, v) :: r) = some v := by
  have e : (k == k) = true := beq_self_eq_true k
  simp only [List.lookup, e]
theorem lk_past {k g : Str} {v : V} {r : List (Str × V)} (h : (k == g) = false) : List.lookup k ((g, v) :: r) = List.lookup k r := by
  simp only [List.lookup, h]
theorem put_here {f : Str} {v x : V} {r : List (Str × V)} : putF f v ((f, x) :: r) = (f, v) :: r := if_pos rfl
theorem put_past {f g : Str} {v x : V} {r : List (Str × V)} (h : ¬ g = f) : putF f v ((g, x) :: r) = (g, x) :: putF f v r := if_neg h
/-- a sail -/
def sF (x : Uw29.Sail) : List (Str × V) := [("least", .int (x.lo : Nat)), ("greatest", .int (x.hi : Nat)), ("price", .int (x.cost : Nat))]
theorem sF_least (x : Uw29.Sail) : (sF x).lookup ("least" : Str) = some (.int (x.lo : Nat)) := lk_here
theorem sF_greatest (x : Uw29.Sail) : (sF x).lookup ("greatest" : Str) = some (.int (x.hi : Nat)) := (lk_past (by decide +kernel)).trans lk_here
theorem sF_price (x : Uw29.Sail) : (sF x).lookup ("price" : Str) = some (.int (x.cost : Nat)) := (lk_past (by decide +kernel)).trans ((lk_past (by decide +kernel)).trans lk_here)
theorem sF_stands (x : Uw29.Sail) : (sF x).lookup ("stands_in" : Str) = none := (lk_past (by decide +kernel)).trans ((lk_past (by decide +kernel)).trans ((lk_past (by decide +kernel)).trans rfl))
theorem sF_new (x : Uw29.Sail) : putF "price" (.int (x.cost : Nat)) (putF "greatest" (.int (x.hi : Nat)) (putF "least" (.int (x.lo : Nat)) [])) = sF x := by
  have e1 : putF "least" (.int (x.lo : Nat)) [] = [(("least" : Str), V.int (x.lo : Nat))] := rfl
  rw [e1, put_past (by decide +kernel)]
  have e2 : putF "greatest" (.int (x.hi : Nat)) [] = [(("greatest" : Str), V.int (x.hi : Nat))] := rfl
  rw [e2, put_past (by decide +kernel), put_past (by decide +kernel)]
  rfl
def SailAt (C : Addr) (H : Hp) (a : Addr) (x : Uw29.Sail) : Prop := ∃ dx, H a = some (.ins C dx (sF x))
theorem SailAt.same {C : Addr} {H H' : Hp} {a : Addr} {x : Uw29.Sail} (h : SailAt C H a x) (s : Same H H') : SailAt C H' a x := by
  obtain ⟨dx, e⟩ := h
  exact ⟨dx, s _ _ e⟩
/-- a list of sails: at l, the addresses as, the sails ss -/
structure SailsOf (C : Addr) (H : Hp) (l : Addr) (as : List Addr) (ss : List Uw29.Sail) : Prop where
  lst : H l = some (.lst (as.map V.ref))
  len : as.length = ss.length
  at_ : ∀ (i : Nat) (a : Addr), as[i]? = some a → SailAt C H a (ss.getD i noSail)
def SailsAt (C : Addr) (H : Hp) (l : Addr) (ss : List Uw29.Sail) : Prop := ∃ as, SailsOf C H l as ss
theorem SailsOf.same {C : Addr} {H H' : Hp} {l : Addr} {as : List Addr} {ss : List Uw29.Sail} (h : SailsOf C H l as ss) (s : Same H H') : SailsOf C H' l as ss :=
  ⟨s _ _ h.lst, h.len, fun i a e => (h.at_ i a e).same s⟩
theorem SailsAt.same {C : Addr} {H H' : Hp} {l : Addr} {ss : List Uw29.Sail} (h : SailsAt C H l ss) (s : Same H H') : SailsAt C H' l ss := by
  obtain ⟨as, h⟩ := h
  exact ⟨as, h.same s⟩
theorem SailsOf.sq {K : PySem.W.Frag} {C : Addr} {H : Hp} {l : Addr} {as : List Addr} {ss : List Uw29.Sail} (h : SailsOf C H l as ss) : SqL K H l (as.map V.ref) := .inl (.inl h.lst)
theorem SailsOf.vlen {C : Addr} {H : Hp} {l : Addr} {as : List Addr} {ss : List Uw29.Sail} (h : SailsOf C H l as ss) : (as.map V.ref).length = ss.length := by
  rw [List.length_map]; exact h.len
/-- the i-th item -/
theorem SailsOf.item {C : Addr} {H : Hp} {l : Addr} {as : List Addr} {ss : List Uw29.Sail} (h : SailsOf C H l as ss) {i : Nat} {v : V} (e : (as.map V.ref)[i]? = some v) : ∃ a, v = .ref a ∧ as[i]? = some a ∧ SailAt C H a (ss.getD i noSail) := by
  rw [List.getElem?_map] at e
  cases q : as[i]? with
  | none => rw [q] at e; cases e
  | some a => rw [q] at e; exact ⟨a, (Option.some.inj e).symm, rfl, h.at_ i a q⟩
theorem SailsOf.get {C : Addr} {H : Hp} {l : Addr} {as : List Addr} {ss : List Uw29.Sail} (h : SailsOf C H l as ss) {i : Nat} (hi : i < ss.length) : ∃ a, as[i]? = some a ∧ (as.map V.ref)[i]? = some (.ref a) ∧ SailAt C H a (ss.getD i noSail) := by
  have hi' : i < as.length := by rw [h.len]; exact hi
  refine ⟨as[i], List.getElem?_eq_getElem hi', ?_, h.at_ i _ (List.getElem?_eq_getElem hi')⟩
  rw [List.getElem?_map, List.getElem?_eq_getElem hi']; rfl
/-- the loft -/
def lF (s : Uw29.Loft) (L : Addr) : List (Str × V) := [("least", .int (s.lo : Nat)), ("greatest", .int (s.hi : Nat)), ("sails", .ref L)]
theorem lF_least (s : Uw29.Loft) (L : Addr) : (lF s L).lookup ("least" : Str) = some (.int (s.lo : Nat)) := lk_here
theorem lF_greatest (s : Uw29.Loft) (L : Addr) : (lF s L).lookup ("greatest" : Str) = some (.int (s.hi : Nat)) := (lk_past (by decide +kernel)).trans lk_here
theorem lF_sails (s : Uw29.Loft) (L : Addr) : (lF s L).lookup ("sails" : Str) = some (.ref L) := (lk_past (by decide +kernel)).trans ((lk_past (by decide +kernel)).trans lk_here)
theorem lF_none {m : Str} (s : Uw29.Loft) (L : Addr) (h1 : (m == ("least" : Str)) = false) (h2 : (m == ("greatest" : Str)) = false) (h3 : (m == ("sails" : Str)) = false) : (lF s L).lookup m = none :=
  (lk_past h1).trans ((lk_past h2).trans ((lk_past h3).trans rfl))
structure Good (s : Uw29.Loft) : Prop where
  hi : s.hi ≤ 40
  le : s.lo ≤ s.hi
  few : s.sails.length ≤ 9
structure LoftAt (CL CS : Addr) (H : Hp) (a L : Addr) (s : Uw29.Loft) : Prop where
  obj : ∃ dx, H a = some (.ins CL dx (lF s L))
  sails : SailsAt CS H L s.sails
  good : Good s
theorem LoftAt.same {CL CS : Addr} {H H' : Hp} {a L : Addr} {s : Uw29.Loft} (h : LoftAt CL CS H a L s) (m : Same H H') : LoftAt CL CS H' a L s := by
  obtain ⟨⟨dx, e⟩, q, g⟩ := h
  exact ⟨⟨dx, m _ _ e⟩, q.same m, g⟩

/-! ### promises -/
def spSailInit (CS : Addr) : Sp := fun vs H Q _ => ∃ (p dx : Addr) (x : Uw29.Sail), vs = [.ref p, .int (x.lo : Nat), .int (x.hi : Nat), .int (x.cost : Nat)] ∧ H p = some (.ins CS dx []) ∧
  ∀ H', SailAt CS H' p x → (∀ b o, H b = some o → b ≠ p → H' b = some o) → Q .non H'
def spStandsIn (CS : Addr) : Sp := fun vs H Q _ => ∃ (a : Addr) (x : Uw29.Sail) (n : Nat), vs = [.ref a, .int (n : Nat)] ∧ SailAt CS H a x ∧ Q (.bl (Uw29.stands x n)) H
/-- a new list of numbers -/
def NewL (H : Hp) (Q : VK) (l : List Nat) : Prop := ∀ H' p, Same H H' → H p = none → LAt H' p l → Q (.ref p) H'
def spStanding (CS : Addr) : Sp := fun vs H Q _ => ∃ (l : Addr) (ss : List Uw29.Sail) (n : Nat), vs = [.ref l, .int (n : Nat)] ∧ SailsAt CS H l ss ∧ ss.length ≤ 9 ∧ NewL H Q (standL ss n)
def spFarthest (CS : Addr) : Sp := fun vs H Q _ => ∃ (l q : Addr) (ss : List Uw29.Sail) (ns : List Nat), vs = [.ref l, .ref q] ∧ SailsAt CS H l ss ∧ LAt H q ns ∧ ns ≠ [] ∧ (∀ n ∈ ns, n < ss.length) ∧ Q (.int (farL ss ns : Nat)) H
def spHas : Sp := fun vs H Q _ => ∃ q i : Nat, vs = [.int (q : Nat), .int (i : Nat)] ∧ Q (.bl (q.testBit i)) H
def spNumsIn : Sp := fun vs H Q _ => ∃ q n : Nat, vs = [.int (q : Nat), .int (n : Nat)] ∧ n ≤ 9 ∧ NewL H Q (numsIn q n)
def spAsSet : Sp := fun vs H Q _ => ∃ (l : Addr) (ns : List Nat), vs = [.ref l] ∧ LAt H l ns ∧ ns.length ≤ 9 ∧ (∀ n ∈ ns, n ≤ 9) ∧ ∀ H', Same H H' → Q (.int ((ns.map fun i => 2 ^ i).sum : Nat)) H'
def spSizes : Sp := fun vs H Q _ => ∃ n : Nat, vs = [.int (n : Nat)] ∧ n ≤ 9 ∧ NewL H Q (allSizes n)
def spPrices (CS : Addr) : Sp := fun vs H Q _ => ∃ (l : Addr) (ss : List Uw29.Sail), vs = [.ref l] ∧ SailsAt CS H l ss ∧ ss.length ≤ 9 ∧ NewL H Q (allPrices ss)
def spStandSets (CS : Addr) : Sp := fun vs H Q _ => ∃ (l q : Addr) (ss : List Uw29.Sail) (ws : List Nat), vs = [.ref l, .ref q] ∧ SailsAt CS H l ss ∧ ss.length ≤ 9 ∧ LAt H q ws ∧ ws.length ≤ 41 ∧ NewL H Q (ws.map (maskAt ss))
def spIsEnough : Sp := fun vs H Q _ => ∃ (q k n : Nat) (z m : Addr) (ws : List Nat), vs = [.int (q : Nat), .ref z, .ref m, .int (k : Nat)] ∧ n ≤ 9 ∧ q < 2 ^ n ∧ LAt H z (allSizes n) ∧ LAt H m ws ∧ ws.length ≤ 41 ∧
  ∀ H', Same H H' → Q (.bl (ws.all fun one => decide (k ≤ (allSizes n).getD (q &&& one) 0))) H'
def spEnough (CS : Addr) : Sp := fun vs H Q _ => ∃ (l m : Addr) (s : Uw29.Loft) (k : Nat), vs = [.ref l, .ref m, .int (k : Nat)] ∧ SailsAt CS H l s.sails ∧ Good s ∧ LAt H m s.winds ∧ NewL H Q (enoughSets s k)
def spBestSets (CS : Addr) : Sp := fun vs H Q _ => ∃ (l m : Addr) (s : Uw29.Loft) (k : Nat), vs = [.ref l, .ref m, .int (k : Nat)] ∧ SailsAt CS H l s.sails ∧ Good s ∧ LAt H m s.winds ∧ NewL H Q (bestSets s k)
def spRefInit (CR : Addr) : Sp := fun vs H Q _ => ∃ (a : Addr) (v : V), vs = [.ref a, v] ∧ H a = some (exo a CR none) ∧ ∀ d, H d = none → d ≠ a → Q .non (upd (upd H d (exd d [("answered", v)])) a (exo a CR (some d)))
/-- a refusal that tells v -/
def Ref (CR : Addr) (H : Hp) (E : XK) (v : V) : Prop := ∀ H' d, Same H H' → H' d = some (.xd [("answered", v)]) → E (.ref CR) (some d) H'
def spWant (CR : Addr) : Sp := fun vs H Q E => ∃ (t : Bool) (v : V), vs = [.bl t, v] ∧ (t = true → Q .non H) ∧ (t = false → Ref CR H E v)
def spAreWinds : Sp := fun vs H Q _ => ∃ lo hi : Nat, vs = [.int (lo : Nat), .int (hi : Nat)] ∧ Q (.bl (decide (lo ≤ hi) && decide (hi ≤ 40))) H
def spLoftInit (CL CS : Addr) : Sp := fun vs H Q _ => ∃ (p dx : Addr), vs = [.ref p] ∧ H p = some (.ins CL dx []) ∧
  ∀ H' L, LoftAt CL CS H' p L Uw29.init → (∀ b o, H b = some o → b ≠ p → H' b = some o) → H L = none → Q .non H'
def spWinds (CL CS : Addr) : Sp := fun vs H Q _ => ∃ (a L : Addr) (s : Uw29.Loft), vs = [.ref a] ∧ LoftAt CL CS H a L s ∧ NewL H Q s.winds
/-- behind a call: the loft is s, at p is what is answered, all else is as it was -/
structure Done (CL CS : Addr) (H : Hp) (a L : Addr) (H' : Hp) (p : Addr) (s : Uw29.Loft) (l : List Int) : Prop where
  loft : ∃ L', LoftAt CL CS H' a L' s ∧ (L' = L ∨ H L' = none)
  ans : H' p = some (.lst (l.map V.int))
  new : H p = none
  keep : ∀ b o, H b = some o → b ≠ a → b ≠ L → H' b = some o
/-- both ways out of a method -/
structure Outs (CL CS CR : Addr) (H : Hp) (a L : Addr) (Q : VK) (E : XK) (r : Uw29.Loft × Uw29.Ans) : Prop where
  good : ∀ H' p, Done CL CS H a L H' p r.1 (Uw29Neutral.out r.2) → Q (.ref p) H'
  bad : ∀ H' p d, Done CL CS H a L H' p r.1 (Uw29Neutral.out r.2) → H' d = some (.xd [("answered", .ref p)]) → E (.ref CR) (some d) H'
def spMeth (CL CS CR : Addr) (arg : List Nat → Option Uw29.Call) : Sp := fun vs H Q E => ∃ (a L : Addr) (s : Uw29.Loft) (ns : List Nat) (c : Uw29.Call), vs = .ref a :: vI ns ∧ arg ns = some c ∧ LoftAt CL CS H a L s ∧ Outs CL CS CR H a L Q E (Uw29.step s c)
def aBegin : List Nat → Option Uw29.Call
  | [a, b] => some (.begins a b)
  | _ => none
def aSail : List Nat → Option Uw29.Call
  | [a, b, c] => some (.sail ⟨a, b, c⟩)
  | _ => none
def aCheck : List Nat → Option Uw29.Call
  | [k, q] => some (.check k q)
  | _ => none
def aBest : List Nat → Option Uw29.Call
  | [k] => some (.best k)
  | _ => none
def aFewest : List Nat → Option Uw29.Call
  | [] => some .fewest
  | _ => none
def spTold (CL CS CR : Addr) : Sp := fun vs H Q E => ∃ (a L m : Addr) (s : Uw29.Loft) (i : Nat) (ns : List Nat) (c : Uw29.Call), vs = [.ref a, .int (i : Nat), .ref m] ∧ LAt H m ns ∧ Uw29Neutral.callIn (i :: ns) = some c ∧ LoftAt CL CS H a L s ∧ Outs CL CS CR H a L Q E (Uw29.step s c)
def spAnswer (CL CS : Addr) : Sp := fun vs H Q _ => ∃ (a L m : Addr) (s : Uw29.Loft) (i : Nat) (ns : List Nat) (c : Uw29.Call), vs = [.ref a, .int (i : Nat), .ref m] ∧ LAt H m ns ∧ Uw29Neutral.callIn (i :: ns) = some c ∧ LoftAt CL CS H a L s ∧
  ∀ H' p, Done CL CS H a L H' p (Uw29.step s c).1 (Uw29Neutral.out (Uw29.step s c).2) → Q (.ref p) H'
def spAnswers (K : PySem.W.Frag) : Sp := fun vs H Q _ => ∃ (a : Addr) (ns : List Int), vs = [.ref a] ∧ SqL K H a (ns.map V.int) ∧ PyUw29.answers_asked ns = true ∧
  ∀ (H' : Hp) (p : Addr), H' p = some (.lst ((PyUw29.answers ns).map V.int)) → Q (.ref p) H'

/-! ### what the top has written -/
structure Txt (K : PySem.W.Frag) (mg : Str → Option Value) (CS CL CR : Addr) : Prop where
  clS : Cls K CS
  clL : Cls K CL
  nSl : NoAttr K CS "least"
  nSg : NoAttr K CS "greatest"
  nSp : NoAttr K CS "price"
  nLl : NoAttr K CL "least"
  nLg : NoAttr K CL "greatest"
  nLs : NoAttr K CL "sails"
  gS : mg "Sail" = some (.ref CS)
  gL : mg "Loft" = some (.ref CL)
  gR : mg "Refused" = some (.ref CR)
  oex : OexC K CR
  xf : XfC K CR
  noA : PySem.W.findIn K (.ref CR) "answered" = some none
  eR : PySem.W.exmOne K (.ref CR) (.ref CR) = some true
  vV : PySem.W.findCls K (.type "ValueError") (.type "type") "__init__" = some (.val (.builtin "ValueError.__init__"))
  range : mg "range" = none
  enumerate : mg "enumerate" = none
  zip : mg "zip" = none
  list : mg "list" = none
  sum : mg "sum" = none
  len : mg "len" = none
  all : mg "all" = none
  min : mg "min" = none
  sorted : mg "sorted" = none
  set : mg "set" = none
  ve : mg "ValueError" = none
  bad : ∃ t, mg "BAD" = some (.int (-1) t)
  tooMany : ∃ t, mg "TOO_MANY" = some (.int (-5) t)
  lacking : ∃ t, mg "LACKING" = some (.int (-6) t)
  mostWind : ∃ t, mg "MOST_WIND" = some (.int 40 t)
  mostPrice : ∃ t, mg "MOST_PRICE" = some (.int 1000 t)
  mostSails : ∃ t, mg "MOST_SAILS" = some (.int 9 t)
  mostTimes : ∃ t, mg "MOST_TIMES" = some (.int 3 t)
end Sw
set_option Elab.async false
set_option linter.all false
set_option maxRecDepth 100000
set_option maxHeartbeats 4000000
/-! min(xs, default=d), xs a list of pairs of whole numbers. -/
namespace Sw
open PySem PySem.Spec PyProof.Rows L2
theorem args_minD (a d : Value) : argsOk "min" ⟨[a], [(Str.ofString "default", d)]⟩ := by unfold argsOk; kernel_rfl
theorem old_ne {h : Heap} {b : Addr} {o : Obj} (e : h.get? b = some o) : b ≠ h.objs.size := Nat.ne_of_lt (Heap.lt_size e)
theorem old_ne2 {h : Heap} {b : Addr} {o : Obj} (e : h.get? b = some o) : b ≠ h.objs.size + 1 := Nat.ne_of_lt (Nat.lt_succ_of_lt (Heap.lt_size e))
section
variable {prog : Program} {w : World} {A : Around} {R : Result → Shared → Prop} {E : Value → Shared → Prop} {I : Addr} {fp wr : List Addr} {n : Nat} {P : Nat → Value → Prop} {St : Nat → Heap → Prop}
theorem callKw_tree {s : Shared} {id : String} {b : Builtin} {args : List Value} {kw : List (Str × Value)} {Q : Value → Shared → Prop} (hk : builtinKind id = none) (hp : plainId id = true)
    (hb : entryFor table id = some b) (ha : argsOk id ⟨args, kw⟩)
    (hc : wpAny (model prog w) A.in1 (b ⟨args, kw⟩) (fun fin s' => match fin with
      | .done f => (match (Except.ok f : Result) with | .ok (.ret v) => Q v s' | .ok _ => False | .error e => E e s')
      | .again c' => c'.quiet = true ∧ codeAny (model prog w) A c' (fun r s' => match r with | .ok (.ret v) => Q v s' | .ok _ => False | .error e => E e s') s') E s) :
    wpAny (model prog w) A (call (.builtin id) args kw) Q E s := by
  refine wpAny_call (codeAny_call_builtin hp hb ?_)
  simp only [checkBuiltinCall, hk]
  cases hsig : Manifest.signature? id with
  | none => exact wpAny_pure hc
  | some sig =>
    have ha' : Bind.checkArgs id sig ⟨args, kw⟩ = pure () := by simpa only [argsOk, hsig] using ha
    simp only [ha']
    exact wpAny_pure hc
/-- what stands while the loop goes: Keep; the comparison of two items asks it -/
structure MinOk (prog : Program) (w : World) (A : Around) (P : Nat → Value → Prop) (bt : Nat → Nat → Bool) (out : List Addr) (Keep : Heap → Prop) : Prop where
  stays : ∀ h h', Keep h → (∀ b o, b ∉ out → h.get? b = some o → h'.get? b = some o) → Keep h'
  cmp : ∀ i j vi vj (s : Shared) (Q : Value → Shared → Prop) (E : Value → Shared → Prop), Keep s.heap → P i vi → P j vj → Q (.bool (bt i j)) s → wpAny (model prog w) A (richCompare .Lt vi vj) Q E s
theorem min_turns {kw : List (Str × Value)} (W : Walks prog w A.in1 I fp wr n P St) (bt : Nat → Nat → Bool) (S : Addr) (hSf : S ∉ fp) {Keep : Heap → Prop} (O : MinOk prog w A.in1 P bt (S :: wr) Keep) :
    ∀ (k j : Nat) (s : Shared) (vb : Value) (c : Nat), n - (j + 1) = k → j + 1 ≤ n → St (j + 1) s.heap → P (argBest bt j) vb → Keep s.heap →
    s.heap.get? S = some { cls := .type "list", dict := none, data := .seq #[vb, vb] c, slots := #[] } →
    (∀ v h' tk, P (argBest bt (n - 1)) v → (∀ b o, b ∉ S :: wr → s.heap.get? b = some o → h'.get? b = some o) → R (.ok (.ret v)) { s with heap := h', toks := tk }) →
    codeAny (model prog w) A (.builtin "min.loop" ⟨[.ref I, .none, .ref S], kw⟩) R s := by
  have hSw : S ∉ wr := fun h => hSf (W.sub _ h)
  have hname : (toString "min" ++ toString ".loop" : String) = "min.loop" := by decide
  have inw : ∀ {b}, b ∉ S :: wr → b ∉ wr ∧ b ≠ S := fun hb => ⟨fun h => hb (List.mem_cons_of_mem _ h), fun h => hb (by rw [h]; exact List.mem_cons_self)⟩
  intro k
  induction k with
  | zero =>
    intro j s vb c hk hj hst hPb hK hS hR
    have hin : j + 1 = n := by omega
    refine codeAny_builtin F.entry_min_loop ?_
    rw [Around.under_plainId F.plain_min_loop _]
    show wpAny _ A.in1 (seqItems? (.ref S) >>= _) _ _ s
    refine wpAny_bind (wpAny_seqItems hS rfl ?_)
    show wpAny _ A.in1 (tryCatch (pyNext (.ref I)) _ >>= _) _ _ s
    refine wpAny_bind (wpAny_tryCatch (W.done s _ _ (hin ▸ hst) fun h' tk hk' => ?_))
    have hS' := hk' S _ hSw hS
    show wpAny _ A.in1 (updateSeq S (fun _ => #[]) >>= _) _ _ _
    refine wpAny_bind ?_
    refine wpAny_updateSeq hS' rfl (wpAny_bind (wpAny_letGo (wpAny_pure ?_)))
    refine hR vb _ tk (by rw [← hin]; exact hPb) fun b o hb e => ?_
    exact (Heap.get?_update_other _ _ (Ne.symm (inw hb).2)).trans (hk' b o (inw hb).1 e)
  | succ k ih =>
    intro j s vb c hk hj hst hPb hK hS hR
    have hlt : j + 1 < n := by omega
    refine codeAny_builtin F.entry_min_loop ?_
    rw [Around.under_plainId F.plain_min_loop _]
    show wpAny _ A.in1 (seqItems? (.ref S) >>= _) _ _ s
    refine wpAny_bind (wpAny_seqItems hS rfl ?_)
    show wpAny _ A.in1 (tryCatch (pyNext (.ref I)) _ >>= _) _ _ s
    refine wpAny_bind (wpAny_tryCatch (W.item (j + 1) s _ _ hlt hst fun v h' tk hP hst' hk' => ?_))
    have hS' := hk' S _ hSw hS
    have hK' : Keep h' := O.stays _ _ hK fun b o hb e => hk' b o (inw hb).1 e
    show wpAny _ A.in1 (tryCatch (holding [v, v] (richCompare .Lt v vb >>= _)) _ >>= _) _ _ _
    refine wpAny_bind (wpAny_tryCatch (wpAny_holding (wpAny_bind (O.cmp (j + 1) (argBest bt j) v vb _ _ _ hK' hP hPb ?_))))
    refine wpAny_bind (wpAny_holding (wpAny_truthy_bool ?_))
    refine wpAny_bind (wpAny_letGo (wpAny_pure ?_))
    cases hb : bt (j + 1) (argBest bt j) with
    | true =>
      simp only [if_true]
      refine wpAny_bind ?_
      refine wpAny_updateSeq hS' rfl (wpAny_bind (wpAny_letGo ?_))
      rw [hname]
      refine wpAny_pure ⟨plainId_quiet F.plain_min_loop _, ih (j + 1) _ v _ (by omega) hlt (W.frame _ _ _ hst' fun b hbf o e => ?_) (by simp only [argBest, hb, if_true]; exact hP)
        (O.stays _ _ hK' fun b o hbn e => (Heap.get?_update_other _ _ (Ne.symm (inw hbn).2)).trans e) (Heap.get?_update_self _ hS' rfl) fun v' h'' tk'' hP' hk'' => ?_⟩
      · exact (Heap.get?_update_other _ _ (fun h : S = b => hSf (by rw [h]; exact hbf))).trans e
      · exact hR v' h'' tk'' hP' fun b o hbn e => hk'' b o hbn ((Heap.get?_update_other _ _ (Ne.symm (inw hbn).2)).trans (hk' b o (inw hbn).1 e))
    | false =>
      simp only [Bool.false_eq_true, if_false]
      refine wpAny_bind (wpAny_letGo ?_)
      rw [hname]
      refine wpAny_pure ⟨plainId_quiet F.plain_min_loop _, ih (j + 1) _ vb c (by omega) hlt hst' (by simp only [argBest, hb, Bool.false_eq_true, if_false]; exact hPb) hK' hS' fun v' h'' tk'' hP' hk'' => ?_⟩
      exact hR v' h'' tk'' hP' fun b o hbn e => hk'' b o hbn (hk' b o (inw hbn).1 e)
theorem min_first {d : Value} (W : Walks prog w A.in1 I fp wr n P St) (bt : Nat → Nat → Bool) (S : Addr) (hSf : S ∉ fp) {Keep : Heap → Prop} (O : MinOk prog w A.in1 P bt (S :: wr) Keep) {s : Shared} {c : Nat} (hst : St 0 s.heap) (hK : Keep s.heap)
    (hS : s.heap.get? S = some { cls := .type "list", dict := none, data := .seq #[] c, slots := #[] })
    (h0 : ∀ h' tk, n = 0 → (∀ b o, b ∉ S :: wr → s.heap.get? b = some o → h'.get? b = some o) → R (.ok (.ret d)) { s with heap := h', toks := tk })
    (hR : ∀ v h' tk, 0 < n → P (argBest bt (n - 1)) v → (∀ b o, b ∉ S :: wr → s.heap.get? b = some o → h'.get? b = some o) → R (.ok (.ret v)) { s with heap := h', toks := tk }) :
    codeAny (model prog w) A (.builtin "min.loop" ⟨[.ref I, .none, .ref S], [(Str.ofString "default", d)]⟩) R s := by
  have hSw : S ∉ wr := fun h => hSf (W.sub _ h)
  have hname : (toString "min" ++ toString ".loop" : String) = "min.loop" := by decide
  have inw : ∀ {b}, b ∉ S :: wr → b ∉ wr ∧ b ≠ S := fun hb => ⟨fun h => hb (List.mem_cons_of_mem _ h), fun h => hb (by rw [h]; exact List.mem_cons_self)⟩
  refine codeAny_builtin F.entry_min_loop ?_
  rw [Around.under_plainId F.plain_min_loop _]
  show wpAny _ A.in1 (seqItems? (.ref S) >>= _) _ _ s
  refine wpAny_bind (wpAny_seqItems hS rfl ?_)
  show wpAny _ A.in1 (tryCatch (pyNext (.ref I)) _ >>= _) _ _ s
  by_cases hn : 0 < n
  · refine wpAny_bind (wpAny_tryCatch (W.item 0 s _ _ hn hst fun v h' tk hP hst' hk' => ?_))
    have hS' := hk' S _ hSw hS
    show wpAny _ A.in1 (updateSeq S (fun _ => #[v, v]) >>= _) _ _ _
    refine wpAny_bind ?_
    refine wpAny_updateSeq hS' rfl ?_
    rw [hname]
    have hK' : Keep h' := O.stays _ _ hK fun b o hb e => hk' b o (inw hb).1 e
    refine wpAny_pure ⟨plainId_quiet F.plain_min_loop _, min_turns W bt S hSf O _ 0 _ v _ rfl hn (W.frame _ _ _ hst' fun b hbf o e => ?_) hP
      (O.stays _ _ hK' fun b o hbn e => (Heap.get?_update_other _ _ (Ne.symm (inw hbn).2)).trans e) (Heap.get?_update_self _ hS' rfl) fun v' h'' tk'' hP' hk'' => ?_⟩
    · exact (Heap.get?_update_other _ _ (fun h : S = b => hSf (by rw [h]; exact hbf))).trans e
    · exact hR v' h'' tk'' hn hP' fun b o hbn e => hk'' b o hbn ((Heap.get?_update_other _ _ (Ne.symm (inw hbn).2)).trans (hk' b o (inw hbn).1 e))
  · have hz : n = 0 := by omega
    subst hz
    refine wpAny_bind (wpAny_tryCatch (W.done s _ _ hst fun h' tk hk' => ?_))
    dsimp only
    wp_walk
    exact h0 h' _ rfl fun b o hb e => hk' b o (inw hb).1 e
theorem min_call {x d : Value} {s : Shared} {Q : Value → Shared → Prop}
    (h : wpAny (model prog w) A.in1 (pyIter x) (fun it s₂ => ∃ I fp wr n P St bt Keep, it = .ref I ∧ Walks prog w A.in1 I fp wr n P St ∧ St 0 s₂.heap ∧ (∀ b ∈ fp, b < s₂.heap.objs.size) ∧ Keep s₂.heap ∧
      MinOk prog w A.in1 P bt (s₂.heap.objs.size :: wr) Keep ∧
      (∀ h' tk, n = 0 → (∀ b o, b ∉ wr → s₂.heap.get? b = some o → h'.get? b = some o) → Q d { s₂ with heap := h', toks := tk }) ∧
      ∀ v h' tk, 0 < n → P (argBest bt (n - 1)) v → (∀ b o, b ∉ wr → s₂.heap.get? b = some o → h'.get? b = some o) → Q v { s₂ with heap := h', toks := tk }) E s) :
    wpAny (model prog w) A (call (.builtin "min") [x] [(Str.ofString "default", d)]) Q E s := by
  have hname : (toString "min" ++ toString ".loop" : String) = "min.loop" := by decide
  refine callKw_tree F.kind_min F.plain_min F.entry_min (args_minD _ _) ?_
  show wpAny _ A.in1 (Builtin.Builtins.bindParams "min" ["key", "default"] 0 ⟨[], [(Str.ofString "default", d)]⟩ >>= _) _ _ s
  refine wpAny_bind (wpAny_of_eq (show Builtin.Builtins.bindParams "min" ["key", "default"] 0 ⟨[], [(Str.ofString "default", d)]⟩ = pure [none, some d] by kernel_rfl) ?_)
  refine wpAny_bind (wpAny_pure ?_)
  refine wpAny_bind (wpAny_mono h (fun it s₂ h₂ => ?_) fun _ _ e => e)
  obtain ⟨I, fp, wr, n, P, St, bt, Keep, rfl, W, hst, hfp, hK, O, q0, q1⟩ := h₂
  refine wpAny_bind (wpAny_newObj_type ?_)
  have hSf : s₂.heap.objs.size ∉ fp := fun hm => Nat.lt_irrefl _ (hfp _ hm)
  rw [hname]
  have old : ∀ {h' : Heap} {b o}, (∀ b o, b ∉ s₂.heap.objs.size :: wr → (s₂.heap.push { cls := .type "list", data := .seq ([] : List Value).toArray }).get? b = some o → h'.get? b = some o) → b ∉ wr → s₂.heap.get? b = some o → h'.get? b = some o := fun {h' b o} hk hb e =>
    hk b o (fun hm => by
      rcases List.mem_cons.mp hm with z | z
      · exact absurd z (Nat.ne_of_lt (Heap.lt_size e))
      · exact hb z) (Heap.get?_push_of_some _ e)
  refine wpAny_pure ⟨plainId_quiet F.plain_min_loop _, min_first W bt s₂.heap.objs.size hSf O (W.frame _ _ _ hst fun b _ o e => Heap.get?_push_of_some _ e)
    (O.stays _ _ hK fun b o _ e => Heap.get?_push_of_some _ e) (Heap.get?_push_size _ rfl) (fun h' tk hz hk => ?_) fun v h' tk hn hP hk => ?_⟩
  · exact q0 h' tk hz fun b o hb e => old hk hb e
  · exact q1 v h' tk hn hP fun b o hb e => old hk hb e
end
/-! ### which one it is -/
def mk2 (m : Nat × Nat) : List Int := [(m.1 : Int), (m.2 : Int)]
def btOf (ms : List (Nat × Nat)) (i j : Nat) : Bool := HT.lexLt (mk2 (ms.getD i (0, 0))) (mk2 (ms.getD j (0, 0)))
theorem lex_mk2 (a b : Nat × Nat) : HT.lexLt (mk2 a) (mk2 b) = decide (lexLt a b) := by
  unfold mk2 lexLt
  rw [HT.lexLt_cons, HT.lexLt_cons, HT.lexLt_nil_nil]
  obtain ⟨a1, a2⟩ := a
  obtain ⟨b1, b2⟩ := b
  dsimp only
  by_cases c : a1 = b1
  · rw [if_pos (by rw [c])]
    by_cases d : a2 = b2
    · rw [if_pos (by rw [d])]
      refine (decide_eq_false ?_).symm
      show ¬ (a1 < b1 ∨ (a1 = b1 ∧ a2 < b2))
      omega
    · rw [if_neg (by omega)]
      refine decide_eq_decide.mpr ?_
      omega
  · rw [if_neg (by omega)]
    refine decide_eq_decide.mpr ?_
    omega
theorem min_at (ms : List (Nat × Nat)) : ∀ k, k < ms.length → argBest (btOf ms) k ≤ k ∧ ms.getD (argBest (btOf ms) k) (0, 0) = minMark (ms.take (k + 1))
  | 0, h => by
    cases ms with
    | nil => simp at h
    | cons a r => exact ⟨Nat.le_refl _, rfl⟩
  | k + 1, h => by
    obtain ⟨ih1, ih2⟩ := min_at ms k (by omega)
    have ht : ms.take (k + 1 + 1) = ms.take (k + 1) ++ [ms.getD (k + 1) (0, 0)] := by
      rw [List.take_add_one, List.getD_eq_getElem?_getD, List.getElem?_eq_getElem h]; rfl
    have hne : ms.take (k + 1) ≠ [] := by
      intro z
      have := congrArg List.length z
      rw [List.length_take, List.length_nil] at this
      omega
    rw [ht, minMark_snoc _ _ hne, ← ih2]
    have ea : argBest (btOf ms) (k + 1) = if btOf ms (k + 1) (argBest (btOf ms) k) = true then k + 1 else argBest (btOf ms) k := rfl
    rw [ea]
    have e : btOf ms (k + 1) (argBest (btOf ms) k) = decide (lexLt (ms.getD (k + 1) (0, 0)) (ms.getD (argBest (btOf ms) k) (0, 0))) := lex_mk2 _ _
    rw [e]
    by_cases c : lexLt (ms.getD (k + 1) (0, 0)) (ms.getD (argBest (btOf ms) k) (0, 0))
    · rw [if_pos (decide_eq_true c), if_pos c]
      exact ⟨Nat.le_refl _, rfl⟩
    · rw [if_neg (by rw [decide_eq_false c]; exact Bool.false_ne_true), if_neg c]
      exact ⟨by omega, rfl⟩
section
variable {X : Cx}
/-- min(xs, default=d), xs a list of pairs: d of none; else one of the least -/
def rMinD (K : PySem.W.Frag) : List V → List V → Hp → VK → Prop := fun vs zs H Q => ∃ (l : Addr) (ps : List (Addr × (Nat × Nat))) (d : V), vs = [V.ref l] ∧ zs = [d] ∧ SqL K H l (ps.map fun p => V.ref p.1) ∧
  (∀ p ∈ ps, SqT K H p.1 ((mk2 p.2).map V.int)) ∧ (ps = [] → Q d H) ∧ ∀ p ∈ ps, p.2 = minMark (ps.map (·.2)) → Q (.ref p.1) H
theorem cr_minD (hc : X.calm = true) (hu : X.A.units + 64 < cLine) : CallRK X (.builtin "min") [Str.ofString "default"] (rMinD X.K) := by
  intro pins s σ H vs zs us ws Q I r rz h
  obtain ⟨l, ps, d, rfl, rfl, hs, ht, q0, q1⟩ := h
  obtain rfl := Vals.ref1 r
  obtain ⟨w1, rfl, e1⟩ := vals1 rz
  obtain ⟨its, rv, hl, _⟩ := I.list hs
  have hlen : its.length = ps.length := by
    have e := rv.length
    rw [List.length_map] at e
    exact e.symm
  have hval : ∀ (i : Nat) (v : Value), its.toArray[i]? = some v → ∃ p, ps[i]? = some p ∧ v = .ref p.1 := fun i v hv => by
    rw [List.getElem?_toArray] at hv
    have hi : i < ps.length := by rw [← hlen]; exact (List.getElem?_eq_some_iff.mp hv).1
    refine ⟨ps[i], List.getElem?_eq_getElem hi, ?_⟩
    have hx : (ps.map fun p => V.ref p.1)[i]? = some (V.ref ps[i].1) := by rw [List.getElem?_map, List.getElem?_eq_getElem hi]; rfl
    obtain ⟨u, hu1, hu2⟩ := paired_get rv hx
    rw [hv] at hu1
    cases hu1
    exact hu2
  have hd := I.ok.hd hc
  have hlS : l < s.heap.objs.size := by
    obtain ⟨o, ho, _⟩ := hl.isList
    exact Heap.lt_size ho
  refine min_call (wpAny_pyIter_list hl.isList ?_)
  have hz : (s.heap.push { cls := .type "list_iterator", data := .fields #[.ref l, .int 0 0] }).objs.size = s.heap.objs.size + 1 := Heap.size_push ..
  refine ⟨s.heap.objs.size, [s.heap.objs.size, l], [s.heap.objs.size], its.toArray.size, (fun i v => its.toArray[i]? = some v), _, btOf (ps.map (·.2)),
    (fun h => ∀ b o, s.heap.get? b = some o → h.get? b = some o), rfl, Walks.list (A := X.A.in1) hd s.heap.objs.size l (Nat.ne_of_lt hlS) its.toArray,
    ⟨⟨_, Heap.get?_push_size _ rfl, rfl, rfl⟩, hl.isList.push _⟩, fun b hb => ?_, fun b o e => Heap.get?_push_of_some _ e, ⟨fun h h' k1 k2 b o e => k2 b o (fun hm => ?_) (k1 b o e), ?_⟩, fun h' tk hz0 hk => ?_, fun v h' tk hn hP hk => ?_⟩
  · show b < (s.heap.push _).objs.size
    rw [hz]
    rcases List.mem_cons.mp hb with e | hb
    · rw [e]; exact Nat.lt_succ_self _
    · rw [List.mem_singleton.mp hb]; exact Nat.lt_succ_of_lt hlS
  · rw [hz] at hm
    rcases List.mem_cons.mp hm with z | z
    · exact old_ne2 e z
    · exact old_ne e (List.mem_singleton.mp z)
  · intro i j vi vj s' Q' E' hk hi hj hQ
    obtain ⟨p, hp, rfl⟩ := hval i vi hi
    obtain ⟨p', hp', rfl⟩ := hval j vj hj
    obtain ⟨t1, r1, ⟨o1, g1, c1, n1, d1⟩, _⟩ := I.tuple (ht p (List.mem_of_getElem? hp))
    obtain ⟨t2, r2, ⟨o2, g2, c2, n2, d2⟩, _⟩ := I.tuple (ht p' (List.mem_of_getElem? hp'))
    have i1 : IntsAre t1.toArray.toList (mk2 p.2) := r1.ints
    have i2 : IntsAre t2.toArray.toList (mk2 p'.2) := r2.ints
    refine HT.lt_tupInts ⟨o1, hk _ _ g1, c1, n1, d1⟩ ⟨o2, hk _ _ g2, c2, n2, d2⟩ i1 i2 (by show X.A.units + 1 < cLine; omega) ?_
    have e : btOf (ps.map (·.2)) i j = HT.lexLt (mk2 p.2) (mk2 p'.2) := by
      unfold btOf
      rw [List.getD_eq_getElem?_getD, List.getD_eq_getElem?_getD, List.getElem?_map, List.getElem?_map, hp, hp']; rfl
    rw [← e]
    exact hQ
  · have hps : ps = [] := by
      rw [List.size_toArray, hlen] at hz0
      exact List.length_eq_zero_iff.mp hz0
    refine ⟨d, H, I.kept (t' := tk) fun b u e => hk b u (fun hm => ?_) (Heap.get?_push_of_some _ e), e1, q0 hps⟩
    exact old_ne e (List.mem_singleton.mp hm)
  · obtain ⟨p, hp, rfl⟩ := hval _ v hP
    rw [List.size_toArray, hlen] at hn hp
    have hz2 := min_at (ps.map (·.2)) (ps.length - 1) (by rw [List.length_map]; omega)
    have hm : p.2 = minMark (ps.map (·.2)) := by
      have h2 := hz2.2
      rw [List.getD_eq_getElem?_getD, List.getElem?_map, hp] at h2
      rw [List.take_of_length_le (by rw [List.length_map]; omega)] at h2
      exact h2
    refine ⟨.ref p.1, H, I.kept (t' := tk) fun b u e => hk b u (fun hm => ?_) (Heap.get?_push_of_some _ e), rfl, q1 p (List.mem_of_getElem? hp) hm⟩
    exact old_ne e (List.mem_singleton.mp hm)
end
end Sw
set_option Elab.async false
set_option linter.all false
set_option maxRecDepth 100000
set_option maxHeartbeats 4000000
/-! set(xs), xs a list of whole numbers: the rule of HandS.SetFor for a tuple, turned to a list. -/
namespace Sw
open PySem PySem.Spec PyProof.Rows L2
/-- a set that is just made -/
abbrev newS (w : World) : Obj := { cls := .type "set", dict := none, data := .set #[] 0 (.fresh 0 0 (!w.params.followText "set-order")) }
section
variable {P : Program} {w : World} {A : Around} {E : Value → Shared → Prop} {s : Shared}
theorem set_of_list {l : Addr} {items : Array Value} (ns : List Int) {Q : Value → Shared → Prop}
    (hh : A.handled = none) (hl : s.heap.IsList l items) (hit : IntsAre items.toList ns) (hb : ns.length + 1 < scanBound)
    (h : ∀ (h' : Heap) (tk c : Nat), SetR w h' s.heap.objs.size (fun j => decide (j ∈ ns)) c → c ≤ ns.length →
      (∀ b o, s.heap.get? b = some o → h'.get? b = some o) → Q (.ref s.heap.objs.size) { s with heap := h', toks := tk }) :
    wpAny (model P w) A (call (.type "set") [.ref l]) Q E s := by
  have hisz : items.size = ns.length := by
    have q := IntsAre.length hit
    rwa [Array.length_toList] at q
  obtain ⟨c, tl, hmro⟩ := F.called_set.mro
  have hmade := F.called_set.made
  have hsub := F.called_set.sub
  refine wpAny_call (codeAny_of_tree ?_)
  show wpAny _ _ (callAny (.type "set") _) _ _ _
  refine wpAny_pure ⟨Code.quiet_builtin _ (by decide +kernel), codeAny_builtin F.entry_type_call ?_⟩
  rw [Around.under_plain (weight_type_call_type "set" [.ref l] []) rfl]
  have h1 := F.called_set.notType
  have h2 := F.called_set.canCreate
  have hct := F.typeCall_set_1 (.ref l)
  repeat (any_goals (first | assumption | wp_step))
  refine codeAny_mono (code_set_led1 (.ref l) (E := E) (Q₁ := fun obj s₁ => obj = .ref s.heap.objs.size ∧ s₁ = { s with heap := s.heap.push (newS w) }) ⟨rfl, rfl⟩) fun r s₁ hr => ?_
  cases r with
  | error e => exact hr
  | ok fl =>
    cases fl with
    | ret obj =>
      obtain ⟨rfl, rfl⟩ := hr
      have hS : (s.heap.push (newS w)).get? s.heap.objs.size = some (newS w) := Heap.get?_push_size _ rfl
      have hT : Shared.TypeIs { s with heap := s.heap.push (newS w) } (.ref s.heap.objs.size) "set" := ⟨_, hS, rfl⟩
      have hli := F.called_set.init.lookup
      have hbi := F.called_set.init.bind (.ref s.heap.objs.size)
      repeat (any_goals (first | assumption | wp_step))
      refine codeAny_mono (codeAny_call_builtin (R := wants (fun r s₂ => r = .none ∧ ∃ h' tk c, s₂ = { s with heap := h', toks := tk } ∧
          SetR w h' s.heap.objs.size (fun j => decide (j ∈ ns)) c ∧ c ≤ ns.length ∧
          (∀ b o, s.heap.get? b = some o → h'.get? b = some o)) E) F.called_set.init.plain F.entry_set_init (check_set_init_1 hT ?_)) fun r₂ s₂ hr₂ => ?_
      · obtain ⟨⟨ocls, odict, odata, oslots⟩, hol, hcl, nl, hdl⟩ := hl
        simp only at hcl hdl
        subst hcl; subst hdl
        have hol' : (s.heap.push (newS w)).get? l = some { cls := .type "list", dict := odict, data := .seq items nl, slots := oslots } := Heap.get?_push_of_some _ hol
        have hsls := F.sub_list_set
        have hslf := F.sub_list_frozenset
        have hne : (Value.type "list" == Value.type "dict") = false := by decide
        have hl1 : (s.heap.push (newS w)).IsList l items := ⟨_, hol', rfl, nl, rfl⟩
        unfold Builtin.«set.__init__» noKeywords Builtin.Frozenset.updateFrom
        generalize hPI : pyIter = PI
        wp_walk
        subst hPI
        refine wpAny_pyIter_list hl1 ?_
        refine wpAny_bind (wpAny_runValue ?_)
        have hlS : l < s.heap.objs.size := Heap.lt_size hol
        have hh3 : A.in1.in1.in1.handled = none := by simp [hh]
        have hz1 : (s.heap.push (newS w)).objs.size = s.heap.objs.size + 1 := Heap.size_push ..
        have hneI : l ≠ (s.heap.push (newS w)).objs.size := by rw [hz1]; exact Nat.ne_of_lt (Nat.lt_succ_of_lt hlS)
        have hSf : s.heap.objs.size ∉ [(s.heap.push (newS w)).objs.size, l] := by
          rw [hz1]
          intro hm
          rcases List.mem_cons.mp hm with e | e
          · exact Nat.ne_of_lt (Nat.lt_succ_self _) e
          · exact Nat.ne_of_gt hlS (List.mem_singleton.mp e)
        have hval : ∀ (i : Nat) (v : Value), items[i]? = some v → ∃ k t, ns[i]? = some k ∧ v = .int k t := fun i v hv => by
          have hi : i < ns.length := by rw [← hisz]; exact (Array.getElem?_eq_some_iff.mp hv).1
          obtain ⟨t, e⟩ := IntsAre.int_at hit i v (by rw [Array.getElem?_toList]; exact hv)
          refine ⟨ns[i], t, List.getElem?_eq_getElem hi, ?_⟩
          rw [e, List.getD_eq_getElem?_getD, List.getElem?_eq_getElem hi] <;> rfl
        refine set_update_ints ((Walks.list hh3 _ l hneI items).toS) s.heap.objs.size
          hSf ns hisz hb hval (items.size - 0) 0 _ (by omega) (Nat.zero_le _)
          ⟨⟨_, Heap.get?_push_size _ rfl, rfl, rfl⟩, (hl1.push _)⟩ ?hS0 ?hR
        case hS0 => exact ⟨0, Nat.le_refl 0, setR_new_at (Heap.get?_push_of_some _ hS)⟩
        case hR =>
          intro s' c' hm hc' hS'
          obtain ⟨h', g2, d', tk', os'⟩ := s'
          have eg : g2 = s.gens := hm.gens
          have ed : d' = s.drawn := hm.drawn
          have eo : os' = s.os := hm.os
          subst eg; subst ed; subst eo
          show wpAny _ _ _ _ _ _
          refine wpAny_pure ?_
          show wpAny _ _ (ret Value.none) _ _ _
          rw [hisz] at hc'
          refine wpAny_pure ⟨rfl, h', tk', c', rfl, hS', hc', fun b o e => ?_⟩
          have hb0 : b < s.heap.objs.size := Heap.lt_size e
          refine hm.heap b o (fun hmem => ?_) (Heap.get?_push_of_some _ (Heap.get?_push_of_some _ e))
          rw [hz1] at hmem
          rcases List.mem_cons.mp hmem with e1 | e1
          · exact Nat.ne_of_lt hb0 e1
          · exact Nat.ne_of_lt (Nat.lt_succ_of_lt hb0) (List.mem_singleton.mp e1)
      · cases r₂ with
        | error e => exact hr₂
        | ok fl₂ =>
          cases fl₂ with
          | ret r =>
            obtain ⟨rfl, h', tk, c', rfl, hS', hc', hk'⟩ := hr₂
            repeat (any_goals (first | assumption | wp_step))
            exact h _ _ _ hS' hc' hk'
          | _ => exact hr₂.elim
    | _ => exact hr.elim
end
section
variable {X : Cx}
/-- set(xs), xs a list of whole numbers: a new set of its members -/
def rSetL (K : PySem.W.Frag) (w : World) : List V → Hp → VK → Prop := fun xs H Q => ∃ (l : Addr) (ns : List Int), xs = [V.ref l] ∧ SqL K H l (ns.map V.int) ∧ ns.length ≤ 1000 ∧
  ∀ (p : Addr) (n : Nat), n ≤ ns.length → H p = none → Q (.ref p) (upd H p (SetO w p (fun j => decide (j ∈ ns)) n))
theorem cr_setL (hc : X.calm = true) : CallR X (.type "set") (rSetL X.K X.w) := by
  intro pins s σ H vs us Q I r h
  obtain ⟨l, ns, rfl, hs, hz, q⟩ := h
  obtain ⟨its, rv, hl, _⟩ := I.list hs
  rw [Vals.ref1 r]
  refine set_of_list ns (I.ok.hd hc) hl.isList rv.ints (by unfold scanBound; omega) fun h' tk c R hcn k => ?_
  have hn : H s.heap.objs.size = none := I.hok.fresh (Nat.le_refl _)
  exact ⟨.ref _, upd H s.heap.objs.size (SetO X.w s.heap.objs.size (fun j => decide (j ∈ ns)) c), I.laid (t' := tk) k (Nat.le_refl _) (setO_new R), rfl, q _ c hcn hn⟩
end
end Sw
set_option Elab.async false
set_option linter.all false
set_option maxRecDepth 100000
set_option maxHeartbeats 2000000
/-! The defs of sails.py. -/
namespace Sw
open PySem PySem.Spec PyProof.Rows L2
section
variable {P : Program} {w : World} {K : PySem.W.Frag} {mg : Str → Option Value} {base : Heap} {CS CL CR : Addr}
theorem ok_sailInit {f : Addr} {fd : FuncData} (F : Fun K "__init__" "Sail.__init__" sSailInit f fd) (T : Txt K mg CS CL CR) : FnOk P w K mg base CX0 1 f fd ["self", "least", "greatest", "price"] (spSailInit CS) := by
  refine F.ok scSailInit (fun vs H Q E h => ?_) (fun cdv A outer s H vs Q E hr h => ?_)
  · obtain ⟨p, dx, x, rfl, _⟩ := h
    rfl
  · obtain ⟨p, dx, x, rfl, hp, q⟩ := h
    refine ⟨_, pss_cons (ps_fld (pv 0) (pv 1) rfl) (pss_cons (ps_fld (pv 0) (pv 2) rfl) (pss_one (ps_fld (pv 0) (pv 3) rfl))), ?_⟩
    refine ⟨_, rfl, _, rfl, p, CS, dx, [], rfl, hp, T.clS, T.nSl, (by show 0 < 1000; decide), ?_⟩
    refine ⟨_, rfl, _, rfl, p, CS, dx, _, rfl, upd_same, T.clS, T.nSg, (by show 1 < 1000; decide), ?_⟩
    refine ⟨_, rfl, _, rfl, p, CS, dx, _, rfl, upd_same, T.clS, T.nSp, (by show 2 < 1000; decide), ?_⟩
    refine q _ ⟨dx, Eq.trans upd_same (congrArg (fun q => some (HO.ins CS dx q)) (sF_new x))⟩ fun b o e hb => ?_
    rw [upd_ne hb, upd_ne hb, upd_ne hb]
    exact e
theorem ok_standsIn {f : Addr} {fd : FuncData} (F : Fun K "stands_in" "Sail.stands_in" sStandsIn f fd) (T : Txt K mg CS CL CR) : FnOk P w K mg base CX0 1 f fd ["self", "wind"] (spStandsIn CS) := by
  refine F.ok scStandsIn (fun vs H Q E h => ?_) (fun cdv A outer s H vs Q E hr h => ?_)
  · obtain ⟨p, x, n, rfl, _⟩ := h
    rfl
  · obtain ⟨p, x, n, rfl, ⟨dx, hp⟩, q⟩ := h
    refine ⟨_, pss_one (ps_ret (pe_chain op_le op_le (pe_fld (pv 0) rfl) (pv 1) (pe_fld (pv 0) rfl))), ?_⟩
    refine ⟨_, rfl, p, CS, dx, _, _, rfl, hp, T.clS, T.nSl, sF_least x, _, rfl, _, _, rfl, rfl, _, rfl, ?_⟩
    unfold Uw29.stands at q
    show if decide ((x.lo : Int) ≤ (n : Int)) = true then _ else _
    rw [dec_le]
    by_cases c : x.lo ≤ n
    · rw [if_pos (decide_eq_true c)]
      refine ⟨_, rfl, p, CS, dx, _, _, rfl, hp, T.clS, T.nSg, sF_greatest x, _, _, rfl, rfl, ?_⟩
      show Q (.bl (decide ((n : Int) ≤ (x.hi : Int)))) H
      rw [dec_le]
      rw [decide_eq_true c, Bool.true_and] at q
      exact q
    · rw [if_neg (by rw [decide_eq_false c]; exact Bool.false_ne_true)]
      rw [decide_eq_false c, Bool.false_and] at q
      exact q
theorem filt_more (p : Nat → Bool) (i : Nat) : vI ((List.range (i + 1)).filter p) = if p i = true then vI ((List.range i).filter p) ++ [V.int (i : Nat)] else vI ((List.range i).filter p) := by
  rw [filter_range_succ, vI_append]
  by_cases h : p i = true
  · rw [if_pos h, if_pos h]; rfl
  · rw [if_neg h, if_neg h]; exact List.append_nil _
theorem filt_len (p : Nat → Bool) (i : Nat) : (vI ((List.range i).filter p)).length ≤ i := by
  rw [vI_length]
  exact Nat.le_trans (List.length_filter_le _ _) (Nat.le_of_eq List.length_range)
theorem ok_standing {f fS : Addr} {fd fdS : FuncData} (F : Fun K "standing" "standing" sStanding f fd) (T : Txt K mg CS CL CR) (FS : Fun K "stands_in" "Sail.stands_in" sStandsIn fS fdS) (bS : Binds K fdS ["self", "wind"] []) (mS : Meth K CS "stands_in" fS) :
    FnOk P w K mg base CX0 2 f fd ["sails", "wind"] (spStanding CS) := by
  have GS : FnOk P w K mg base CX0 1 fS fdS ["self", "wind"] (spStandsIn CS) := ok_standsIn FS T
  refine F.ok scStanding (fun vs H Q E h => ?_) (fun cdv A outer s H vs Q E hr h => ?_)
  · obtain ⟨l, ss, n, rfl, _⟩ := h
    rfl
  · obtain ⟨l, ss, n, rfl, ⟨as, hA⟩, hlen, q⟩ := h
    refine ⟨_, pss_one (ps_ret (pe_lc (own := [("number", 2), ("sail", 3)]) (g := gTup K 2 (gCons (gName 2) (gCons (gName 3) gNil))) (tt := tB (tMeth CS "stands_in" (spStandsIn CS) [] E0 (tVar 3) (tCons (tVar 1) tNil))) (te := tVar 2) (by rfl) scStanding.nd (pi_enum (by rfl) T.enumerate (pa_cons (pv 0) pa_nil)) (blkOk_by (own := [("number", 2), ("sail", 3)]) (N := ["sails", "wind", "number", "sail"]) (sc := defScope sStanding) (by decide +kernel))
      (fun _ _ _ _ _ => by exact pg_tup rfl (pgs_cons (pg_name (i := 2) scStanding.nd rfl (Or.inl rfl)) (pgs_cons (pg_name (i := 3) scStanding.nd rfl (Or.inl rfl)) pgs_nil)))
      (fun _ _ _ _ _ => by exact pts_one (pt_val (pe_meth (pv 3) T.clS mS GS hr bS .nil pass0 (by exact (pa_cons (pv 1) pa_nil)))))
      (fun _ _ _ _ _ => pv 2))), ?_⟩
    refine ⟨_, rfl, l, _, rfl, hA.sq, fun D hD => ?_⟩
    refine lc_it walk_enum (fun i H' => Same H H' ∧ H' D = some (.lst (vI ((List.range i).filter fun j => Uw29.stands (ss.getD j noSail) n)))) ⟨same_new hD, upd_same⟩ (fun i H' _ hp => (hA.same hp.1).sq) ?_ ?_
    · rintro i x H1 H2 hi ⟨s1, e1⟩ ⟨Tp, x1, x2, rfl, nT, rfl, f1, f2⟩
      rw [List.length_map, hA.len] at hi
      obtain ⟨a, rfl, ha, dx, hx⟩ := (hA.same s1).item f2
      cases f1
      have hx2 : upd H1 Tp (.tup [V.int (i : Nat), V.ref a]) a = some (.ins CS dx (sF (ss.getD i noSail))) := same_new nT _ _ hx
      have e2 : upd H1 Tp (.tup [V.int (i : Nat), V.ref a]) D = _ := same_new nT _ _ e1
      have s2 := s1.trans (same_new (o := .tup [V.int (i : Nat), V.ref a]) nT)
      refine ⟨Tp, [V.int (i : Nat), .ref a], rfl, .inl (.inl upd_same), rfl, _, [.ref a], rfl, _, [], rfl, rfl, rfl, ?_⟩
      refine ⟨_, rfl, a, dx, _, rfl, hx2, sF_stands _, _, rfl, a, _, n, rfl, ⟨dx, hx2⟩, _, rfl, ?_⟩
      by_cases c : Uw29.stands (ss.getD i noSail) n = true
      · refine ite_t c ?_
        refine ⟨_, rfl, _, e2, Nat.lt_of_le_of_lt (filt_len _ _) (small1000 (by omega)), grow hD s2, ?_⟩
        rw [upd_same, filt_more, if_pos c]
      · refine ite_f (Bool.eq_false_iff.mpr c) ?_
        refine ⟨s2, ?_⟩
        rw [e2, filt_more, if_neg c]
    · rintro H1 ⟨s1, e1⟩
      rw [List.length_map, hA.len] at e1
      exact q _ _ s1 hD e1
theorem ok_farthest {f : Addr} {fd : FuncData} (F : Fun K "farthest" "farthest" sFarthest f fd) (T : Txt K mg CS CL CR) : FnOk P w K mg base CX0 1 f fd ["sails", "numbers"] (spFarthest CS) := by
  refine F.ok scFarthest (fun vs H Q E h => ?_) (fun cdv A outer s H vs Q E hr h => ?_)
  · obtain ⟨l, q, ss, ns, rfl, _⟩ := h
    rfl
  · obtain ⟨l, m, ss, ns, rfl, ⟨as, hA⟩, hm, hne, hin, q⟩ := h
    refine ⟨_, pss_cons (ps_set (i := 2) scFarthest.nd rfl (Or.inl rfl) (pe_ix ix_list (pv 1) pe_int (fun _ _ => rfl)))
      (pss_cons (ps_for PassesOwn.never rfl (pi_list (pv 1)) (pg_name (i := 3) scFarthest.nd rfl (Or.inl rfl))
        (pss_one (ps_if (pt_cmpR op_gt (pe_fld (pe_ix ix_list (pv 0) (pv 3) (fun _ _ => rfl)) rfl) (pe_fld (pe_ix ix_list (pv 0) (pv 2) (fun _ _ => rfl)) rfl) (nomark _))
          (pss_one (ps_set (i := 2) scFarthest.nd rfl (Or.inl rfl) (pv 3))) pss_nil)))
      (pss_one (ps_ret (pv 2)))), ?_⟩
    obtain ⟨n0, r0, rfl⟩ : ∃ n r, ns = n :: r := by
      cases ns with
      | nil => exact absurd rfl hne
      | cons n r => exact ⟨n, r, rfl⟩
    refine ⟨_, rfl, m, vI (n0 :: r0), 0, V.int (n0 : Nat), rfl, rfl, hm.sq, atI_nat (j := 0) rfl, ?_⟩
    refine ⟨_, rfl, m, rfl, ⟨_, hm.sq⟩, for_list (K := K) (a := m) (xs := vI (n0 :: r0)) (fun i σ H' => H' = H ∧ ∃ v, σ = [some (.ref l), some (.ref m), some (.int ((((n0 :: r0).take i).foldl (fun f i => if (ss.getD f noSail).hi < (ss.getD i noSail).hi then i else f) n0 : Nat) : Int)), v] ∧ ((n0 :: r0).take i).foldl (fun f i => if (ss.getD f noSail).hi < (ss.getD i noSail).hi then i else f) n0 < ss.length)
      ⟨rfl, none, rfl, hin n0 List.mem_cons_self⟩ (fun i σ H' _ hp => by rw [hp.1]; exact hm.sq) ?_ ?_⟩
    · rintro i y σ H' hi ⟨rfl, v, rfl, hb⟩
      obtain ⟨n, hn, rfl⟩ := vI_inv hi
      have hnl : n < ss.length := hin n (List.mem_of_getElem? hn)
      have ht : (n0 :: r0).take (i + 1) = (n0 :: r0).take i ++ [n] := by rw [List.take_add_one, hn]; rfl
      obtain ⟨a1, _, g1, dx1, hx1⟩ := hA.get hnl
      obtain ⟨a2, _, g2, dx2, hx2⟩ := hA.get hb
      generalize hg : ((n0 :: r0).take i).foldl (fun f i => if (ss.getD f noSail).hi < (ss.getD i noSail).hi then i else f) n0 = cur at *
      refine ⟨_, rfl, _, rfl, l, _, n, .ref a1, rfl, rfl, hA.sq, atI_nat (j := n) g1, a1, CS, dx1, _, _, rfl, hx1, T.clS, T.nSg, sF_greatest _, ?_⟩
      refine ⟨_, rfl, _, rfl, l, _, cur, .ref a2, rfl, rfl, hA.sq, atI_nat (j := cur) g2, a2, CS, dx2, _, _, rfl, hx2, T.clS, T.nSg, sF_greatest _, _, _, rfl, rfl, _, rfl, ?_⟩
      show if decide (((ss.getD cur noSail).hi : Int) < ((ss.getD n noSail).hi : Int)) = true then _ else _
      rw [dec_lt]
      have hf : ((n0 :: r0).take (i + 1)).foldl (fun f i => if (ss.getD f noSail).hi < (ss.getD i noSail).hi then i else f) n0 = if (ss.getD cur noSail).hi < (ss.getD n noSail).hi then n else cur := by
        rw [ht, List.foldl_append, hg]; rfl
      by_cases c : (ss.getD cur noSail).hi < (ss.getD n noSail).hi
      · rw [if_pos (decide_eq_true c)]
        refine ⟨_, rfl, rfl, some (.int (n : Nat)), ?_, ?_⟩
        · rw [hf, if_pos c]; rfl
        · rw [hf, if_pos c]; exact hnl
      · rw [if_neg (by rw [decide_eq_false c]; exact Bool.false_ne_true)]
        refine ⟨rfl, some (.int (n : Nat)), ?_, ?_⟩
        · rw [hf, if_neg c]; rfl
        · rw [hf, if_neg c]; exact hb
    · rintro σ H' ⟨rfl, v, rfl, hb⟩
      rw [vI_length, List.take_length]
      exact ⟨_, rfl, q⟩
end
end Sw
set_option Elab.async false
set_option linter.all false
set_option maxRecDepth 100000
set_option maxHeartbeats 2000000
/-! The defs of sets.py, the first of them. -/
namespace Sw
open PySem PySem.Spec PyProof.Rows L2
theorem bit_val (q i : Nat) : decide (V.int (Builtin.bitAnd ((q : Int) / 2 ^ ((i : Nat) : Int).toNat) 1) = V.int 1) = q.testBit i := by
  have e1 : ((q : Int) / 2 ^ ((i : Nat) : Int).toNat) = ((q / 2 ^ i : Nat) : Int) := by
    rw [Int.toNat_natCast, Int.natCast_ediv, Int.natCast_pow]; rfl
  have e2 : Builtin.bitAnd ((q / 2 ^ i : Nat) : Int) 1 = (((q / 2 ^ i) &&& 1 : Nat) : Int) := by
    rw [bitAnd_pp (Int.natCast_nonneg _) (by decide), Int.toNat_natCast]; rfl
  rw [e1, e2, Nat.testBit_eq_decide_div_mod_eq, Nat.and_one_is_mod]
  refine decide_eq_decide.mpr ⟨fun h => ?_, fun h => ?_⟩
  · have := V.int.inj h
    omega
  · rw [h]; rfl
theorem and_val (a b : Nat) : Builtin.bitAnd (a : Int) (b : Int) = ((a &&& b : Nat) : Int) := by
  rw [bitAnd_pp (Int.natCast_nonneg _) (Int.natCast_nonneg _), Int.toNat_natCast, Int.toNat_natCast]
theorem zero_add_nat (i : Nat) : (0 : Int) + (i : Int) = ((i : Nat) : Int) := Int.zero_add _
theorem pow9 {n : Nat} (h : n ≤ 9) : 2 ^ n ≤ 512 := Nat.pow_le_pow_right (by decide) h
section
variable {P : Program} {w : World} {K : PySem.W.Frag} {mg : Str → Option Value} {base : Heap} {CS CL CR : Addr}
theorem ok_has {f : Addr} {fd : FuncData} (F : Fun K "has" "has" sHas f fd) : FnOk P w K mg base CX0 1 f fd ["chosen", "number"] spHas := by
  refine F.ok scHas (fun vs H Q E h => ?_) (fun cdv A outer s H vs Q E hr h => ?_)
  · obtain ⟨q, i, rfl, _⟩ := h
    rfl
  · obtain ⟨q, i, rfl, h⟩ := h
    refine ⟨_, pss_one (ps_ret (pe_cmpR op_eq (pe_op op_and (pe_op op_shr (pv 0) (pv 1)) pe_int) pe_int (nomark _))), ?_⟩
    refine ⟨_, rfl, _, rfl, _, _, rfl, rfl, (by omega), _, _, rfl, rfl, rfl, ?_⟩
    rw [← bit_val] at h
    exact h
theorem ok_numsIn {f fH : Addr} {fd fdH : FuncData} (F : Fun K "numbers_in" "numbers_in" sNumsIn f fd) (T : Txt K mg CS CL CR) (FH : Fun K "has" "has" sHas fH fdH) (bH : Binds K fdH ["chosen", "number"] []) (mH : mg "has" = some (.ref fH)) :
    FnOk P w K mg base CX0 2 f fd ["chosen", "many"] spNumsIn := by
  have GH : FnOk P w K mg base CX0 1 fH fdH ["chosen", "number"] spHas := ok_has FH
  refine F.ok scNumsIn (fun vs H Q E h => ?_) (fun cdv A outer s H vs Q E hr h => ?_)
  · obtain ⟨q, i, rfl, _⟩ := h
    rfl
  · obtain ⟨c, n, rfl, hn, q⟩ := h
    refine ⟨_, pss_one (ps_ret (pe_lc (own := [("number", 2)]) (g := gName 2) (tt := tB (tCall spHas [] E0 (tCons (tVar 0) (tCons (tVar 2) tNil)))) (te := tVar 2) (by rfl) scNumsIn.nd (pi_range1 (by rfl) T.range (pa_cons (pv 1) pa_nil))
      (blkOk_by (own := [("number", 2)]) (N := ["chosen", "many", "number"]) (sc := defScope sNumsIn) (by decide +kernel))
      (fun _ _ _ _ _ => pg_name (i := 2) scNumsIn.nd rfl (Or.inl rfl))
      (fun _ _ _ _ _ => by exact pts_one (pt_val (pe_call GH hr rfl mH FH.kp bH .nil pass0 (by exact (pa_cons (pv 0) (pa_cons (pv 2) pa_nil))))))
      (fun _ _ _ _ _ => pv 2))), ?_⟩
    refine ⟨_, rfl, (n : Nat), rfl, (by omega), (by omega), fun D hD => ?_⟩
    refine lc_range (lo := 0) (n := ((n : Nat) : Int).toNat) (fun i H' => Same H H' ∧ H' D = some (.lst (vI ((List.range i).filter fun j => c.testBit j)))) ⟨same_new hD, upd_same⟩ ?_ ?_
    · rintro i H1 hi ⟨s1, e1⟩
      have hi : i < n := by rw [Int.toNat_natCast] at hi; exact hi
      rw [zero_add_nat]
      refine ⟨rfl, _, rfl, _, rfl, c, i, rfl, _, rfl, ?_⟩
      by_cases b : c.testBit i = true
      · refine ite_t b ?_
        refine ⟨_, rfl, _, e1, Nat.lt_of_le_of_lt (filt_len _ _) (small1000 (by omega)), grow hD s1, ?_⟩
        rw [upd_same, filt_more, if_pos b]
      · refine ite_f (Bool.eq_false_iff.mpr b) ?_
        refine ⟨s1, ?_⟩
        rw [e1, filt_more, if_neg b]
    · rintro H1 ⟨s1, e1⟩
      rw [Int.toNat_natCast] at e1
      exact q _ _ s1 hD e1
theorem shl_val (n : Nat) : (1 : Int) * 2 ^ ((n : Nat) : Int).toNat = ((2 ^ n : Nat) : Int) := by
  rw [Int.toNat_natCast, Int.one_mul, Int.natCast_pow]; rfl
theorem vI_more {l : List Nat} {i n : Nat} (g : Nat → Nat) (h : l[i]? = some n) : vI ((l.take (i + 1)).map g) = vI ((l.take i).map g) ++ [V.int ((g n : Nat) : Int)] := by
  rw [List.take_add_one, h, List.map_append, vI_append]; rfl
theorem vI_take_len (l : List Nat) (i : Nat) (g : Nat → Nat) : (vI ((l.take i).map g)).length ≤ l.length := by
  rw [vI_length, List.length_map, List.length_take]
  exact Nat.min_le_right _ _
theorem ok_asSet {f : Addr} {fd : FuncData} (F : Fun K "as_set" "as_set" sAsSet f fd) (T : Txt K mg CS CL CR) : FnOk P w K mg base CX0 1 f fd ["numbers"] spAsSet := by
  refine F.ok scAsSet (fun vs H Q E h => ?_) (fun cdv A outer s H vs Q E hr h => ?_)
  · obtain ⟨l, ns, rfl, _⟩ := h
    rfl
  · obtain ⟨l, ns, rfl, hl, hlen, h9, q⟩ := h
    refine ⟨_, pss_one (ps_ret (pe_callB (cr_sum rfl) (by rfl) T.sum (by decide +kernel) (pa_cons (pe_lc (own := [("number", 1)]) (g := gName 1) (tt := tYes) (by rfl) scAsSet.nd (pi_list (pv 0))
      (blkOk_by (own := [("number", 1)]) (N := ["numbers", "number"]) (sc := defScope sAsSet) (by decide +kernel))
      (fun _ _ _ _ _ => pg_name (i := 1) scAsSet.nd rfl (Or.inl rfl)) (fun _ _ _ _ _ => pts_nil) (fun _ _ _ _ _ => by exact pe_op op_shl pe_int (pv 1))) pa_nil))), ?_⟩
    refine ⟨_, rfl, l, rfl, ⟨_, hl.sq⟩, fun D hD => ?_⟩
    refine lc_list (K := K) (a := l) (xs := vI ns) (fun i H' => Same H H' ∧ LAt H' D ((ns.take i).map fun j => 2 ^ j)) ⟨same_new hD, upd_same⟩ (fun i H' _ hp => (hl.same hp.1).sq) ?_ ?_
    · rintro i x H1 hi ⟨s1, e1⟩
      obtain ⟨n, hn, rfl⟩ := vI_inv hi
      have hn9 := h9 n (List.mem_of_getElem? hn)
      refine ⟨rfl, _, rfl, _, _, rfl, rfl, ⟨by omega, by omega, by decide⟩, _, e1, Nat.lt_of_le_of_lt (vI_take_len _ _ _) (small1000 (by omega)), grow hD s1, ?_⟩
      show _ = some (HO.lst (vI _))
      rw [upd_same, vI_more _ hn]
      exact congrArg (fun z => some (HO.lst (vI (List.map (fun j => 2 ^ j) (List.take i ns)) ++ [V.int z]))) (shl_val n)
    · rintro H1 ⟨s1, e1⟩
      rw [vI_length, List.take_length] at e1
      refine ⟨D, nI (ns.map fun j => 2 ^ j), rfl, e1.sq, ?_⟩
      rw [nI_sum]
      exact q _ s1
theorem sizes_len9 {n : Nat} (h : n ≤ 9) : (allSizes n).length ≤ 512 := by rw [sizes_len]; exact pow9 h
theorem ok_sizes {f : Addr} {fd : FuncData} (F : Fun K "all_sizes" "all_sizes" sSizes f fd) (T : Txt K mg CS CL CR) : FnOk P w K mg base CX0 1 f fd ["many"] spSizes := by
  refine F.ok scSizes (fun vs H Q E h => ?_) (fun cdv A outer s H vs Q E hr h => ?_)
  · obtain ⟨l, rfl, _⟩ := h
    rfl
  · obtain ⟨n, rfl, h9, q⟩ := h
    refine ⟨_, pss_cons (ps_set (i := 1) scSizes.nd rfl (Or.inl rfl) (pe_lst (pa_cons pe_int pa_nil)))
      (pss_cons (ps_for PassesOwn.never rfl (pi_range1 (by rfl) T.range (pa_cons (pv 0) pa_nil)) (pg_name (i := 2) scSizes.nd rfl (Or.inl rfl))
        (pss_one (ps_set (i := 1) scSizes.nd rfl (Or.inl rfl) (pe_op op_cat (pv 1) (pe_lc (own := [("size", 3)]) (g := gName 3) (tt := tYes) (te := tOp (rI0 fun i j => .int (i + j)) (tVar 3) (tC (.int 1))) (by rfl) scSizes.nd (pi_list (pv 1))
          (blkOk_by (own := [("size", 3)]) (N := ["many", "found", "number", "size"]) (sc := defScope sSizes) (by decide +kernel))
          (fun _ _ _ _ _ => pg_name (i := 3) scSizes.nd rfl (Or.inl rfl)) (fun _ _ _ _ _ => pts_nil) (fun _ _ _ _ _ => by exact pe_op op_add (pv 3) pe_int))))))
      (pss_one (ps_ret (pv 1)))), ?_⟩
    refine ⟨(by show 1 ≤ sizeLine; decide), fun p hp => ?_⟩
    refine ⟨_, rfl, (n : Nat), rfl, (by omega), (by omega), for_range (lo := 0) (n := ((n : Nat) : Int).toNat) (fun i σ H' => ∃ (v : Option V) (m : Addr), σ = [some (.int (n : Nat)), some (.ref m), v, none] ∧ Same H H' ∧ H m = none ∧ LAt H' m (allSizes i)) ⟨none, p, rfl, same_new hp, hp, upd_same⟩ ?_ ?_⟩
    · rintro i σ H1 hi ⟨v, m, rfl, s1, hm, e1⟩
      have hi : i < n := by rw [Int.toNat_natCast] at hi; exact hi
      refine ⟨_, rfl, _, rfl, m, rfl, ⟨_, e1.sq⟩, fun D hD => ?_⟩
      refine lc_list (K := K) (a := m) (xs := vI (allSizes i)) (fun j H' => Same H1 H' ∧ LAt H' D (((allSizes i).take j).map fun x => x + 1)) ⟨same_new hD, upd_same⟩ (fun j H' _ hp => (e1.same hp.1).sq) ?_ ?_
      · rintro j x H2 hj ⟨s2, e2⟩
        obtain ⟨y, hy, rfl⟩ := vI_inv hj
        refine ⟨rfl, _, rfl, _, _, rfl, rfl, _, e2, Nat.lt_of_le_of_lt (vI_take_len _ _ _) (small1000 (Nat.le_trans (sizes_len9 (by omega)) (by decide))), grow hD s2, ?_⟩
        show _ = some (HO.lst (vI _))
        rw [upd_same, vI_more _ hy]; rfl
      · rintro H2 ⟨s2, e2⟩
        rw [vI_length, List.take_length] at e2
        refine ⟨m, D, _, _, rfl, rfl, s2 _ _ e1, e2, ?_, fun r hr2 => ?_⟩
        · rw [vI_length, vI_length, List.length_map]
          have z := sizes_len9 (n := i) (by omega)
          rw [sizeLine_eq]; omega
        · refine ⟨some (.int (0 + (i : Nat))), r, rfl, (s1.trans s2).trans (same_new hr2), (s1.trans s2).free hr2, ?_⟩
          show _ = some (HO.lst (vI _))
          rw [upd_same, ← vI_append]; rfl
    · rintro σ H1 ⟨v, m, rfl, s1, hm, e1⟩
      rw [Int.toNat_natCast] at e1
      exact ⟨_, rfl, q _ _ s1 hm e1⟩
theorem prices_len9 {ss : List Uw29.Sail} (h : ss.length ≤ 9) : (allPrices ss).length ≤ 512 := by rw [prices_len]; exact pow9 h
theorem ok_prices {f : Addr} {fd : FuncData} (F : Fun K "all_prices" "all_prices" sPrices f fd) (T : Txt K mg CS CL CR) : FnOk P w K mg base CX0 1 f fd ["sails"] (spPrices CS) := by
  refine F.ok scPrices (fun vs H Q E h => ?_) (fun cdv A outer s H vs Q E hr h => ?_)
  · obtain ⟨l, ss, rfl, _⟩ := h
    rfl
  · obtain ⟨l, ss, rfl, ⟨as, hA⟩, h9, q⟩ := h
    refine ⟨_, pss_cons (ps_set (i := 1) scPrices.nd rfl (Or.inl rfl) (pe_lst (pa_cons pe_int pa_nil)))
      (pss_cons (ps_for PassesOwn.never rfl (pi_list (pv 0)) (pg_name (i := 2) scPrices.nd rfl (Or.inr rfl))
        (pss_one (ps_set (i := 1) scPrices.nd rfl (Or.inl rfl) (pe_op op_cat (pv 1) (pe_lc (own := [("price", 3)]) (g := gName 3) (tt := tYes) (te := tOp (rI0 fun i j => .int (i + j)) (tVar 3) (tFld K (tVar 2) "price")) (by rfl) scPrices.nd (pi_list (pv 1))
          (blkOk_by (own := [("price", 3)]) (N := ["sails", "found", "sail", "price"]) (sc := defScope sPrices) (by decide +kernel))
          (fun _ _ _ _ _ => pg_name (i := 3) scPrices.nd rfl (Or.inl rfl)) (fun _ _ _ _ _ => pts_nil) (fun _ _ _ _ _ => by exact pe_op op_add (pv 3) (pe_fld (pv 2) rfl)))))))
      (pss_one (ps_ret (pv 1)))), ?_⟩
    refine ⟨(by show 1 ≤ sizeLine; decide), fun p hp => ?_⟩
    refine ⟨_, rfl, l, rfl, ⟨_, ((SailsOf.same hA (same_new hp)).sq)⟩, for_list (K := K) (a := l) (xs := as.map V.ref) (fun i σ H' => ∃ (v : Option V) (m : Addr), σ = [some (.ref l), some (.ref m), v, none] ∧ Same H H' ∧ H m = none ∧ LAt H' m (allPrices (ss.take i))) ⟨none, p, rfl, same_new hp, hp, upd_same⟩ (fun i σ H' _ ⟨_, _, _, s1, _⟩ => (hA.same s1).sq) ?_ ?_⟩
    · rintro i x σ H1 hi ⟨v, m, rfl, s1, hm, e1⟩
      obtain ⟨a, rfl, ha, hx⟩ := (hA.same s1).item hi
      have hil : i < ss.length := by
        rw [← hA.len]
        exact (List.getElem?_eq_some_iff.mp ha).1
      have ht : ss.take (i + 1) = ss.take i ++ [ss.getD i noSail] := by
        rw [List.take_add_one, List.getD_eq_getElem?_getD, List.getElem?_eq_getElem hil]; rfl
      have hz : (allPrices (ss.take i)).length ≤ 512 := prices_len9 (by rw [List.length_take]; omega)
      refine ⟨_, rfl, _, rfl, m, rfl, ⟨_, e1.sq⟩, fun D hD => ?_⟩
      refine lc_list (K := K) (a := m) (xs := vI (allPrices (ss.take i))) (fun j H' => Same H1 H' ∧ LAt H' D (((allPrices (ss.take i)).take j).map fun x => x + (ss.getD i noSail).cost)) ⟨same_new hD, upd_same⟩ (fun j H' _ hp => (e1.same hp.1).sq) ?_ ?_
      · rintro j x H2 hj ⟨s2, e2⟩
        obtain ⟨y, hy, rfl⟩ := vI_inv hj
        obtain ⟨dx, hx2⟩ := hx.same s2
        refine ⟨rfl, _, rfl, _, rfl, a, CS, dx, _, _, rfl, hx2, T.clS, T.nSp, sF_price _, _, _, rfl, rfl, _, e2, Nat.lt_of_le_of_lt (vI_take_len _ _ _) (small1000 (Nat.le_trans hz (by decide))), grow hD s2, ?_⟩
        show _ = some (HO.lst (vI _))
        rw [upd_same, vI_more _ hy, Int.natCast_add]
      · rintro H2 ⟨s2, e2⟩
        rw [vI_length, List.take_length] at e2
        refine ⟨m, D, _, _, rfl, rfl, s2 _ _ e1, e2, ?_, fun r hr2 => ?_⟩
        · rw [vI_length, vI_length, List.length_map]
          rw [sizeLine_eq]; omega
        · refine ⟨some (.ref a), r, rfl, (s1.trans s2).trans (same_new hr2), (s1.trans s2).free hr2, ?_⟩
          show _ = some (HO.lst (vI _))
          rw [upd_same, ← vI_append, ht, prices_append]
    · rintro σ H1 ⟨v, m, rfl, s1, hm, e1⟩
      rw [hA.vlen, List.take_length] at e1
      exact ⟨_, rfl, q _ _ s1 hm e1⟩
end
end Sw
set_option Elab.async false
set_option linter.all false
set_option maxRecDepth 100000
set_option maxHeartbeats 2000000
/-! The defs of sets.py, the rest. -/
namespace Sw
open PySem PySem.Spec PyProof.Rows L2
theorem standL_lt {ss : List Uw29.Sail} {w : Nat} : (standL ss w).length ≤ ss.length := by
  unfold standL
  exact Nat.le_trans (List.length_filter_le _ _) (Nat.le_of_eq List.length_range)
theorem get_D {l : List Nat} {i : Nat} (h : i < l.length) : l[i]? = some (l.getD i 0) := by
  rw [List.getD_eq_getElem?_getD, List.getElem?_eq_getElem h]; rfl
theorem winds_len {s : Uw29.Loft} (g : Good s) : s.winds.length ≤ 41 := by
  rw [winds_eq s (Nat.le_succ_of_le g.le), List.length_map, List.length_range]
  have := g.hi
  omega
/-- ints that are all members of a list of naturals -/
theorem back_nI {ns : List Int} {l : List Nat} (h : ∀ k, k ∈ ns → k ∈ nI l) : nI (ns.map Int.toNat) = ns := by
  unfold nI
  rw [List.map_map]
  refine (List.map_congr_left fun k hk => ?_).trans (List.map_id ns)
  obtain ⟨n, _, rfl⟩ := List.mem_map.mp (h k hk)
  show ((((n : Int)).toNat : Nat) : Int) = (n : Int)
  rw [Int.toNat_natCast]
theorem mem_nI {n : Nat} {l : List Nat} : (n : Int) ∈ nI l ↔ n ∈ l := by
  unfold nI
  rw [List.mem_map]
  constructor
  · rintro ⟨m, hm, e⟩
    have : m = n := Int.ofNat.inj e
    rw [← this]; exact hm
  · intro h
    exact ⟨n, h, rfl⟩
/-- pairs as data -/
def pd2 (m : Nat × Nat) : PyData := .tuple [.int (m.1 : Int), .int (m.2 : Int)]
theorem pd2_shaped (m : Nat × Nat) : SeqAt.shaped (pd2 m) = true := by
  unfold SeqAt.shaped pd2
  simp [PyData.canLay0, PyData.canLayAll0, PyData.depth, PyData.depthAll]
theorem pd2_eqv (a b : Nat × Nat) : PyData.eqv (pd2 a) (pd2 b) = decide (a = b) := by
  unfold pd2
  simp only [PyData.eqv, PyData.eqvAll]
  obtain ⟨a1, a2⟩ := a
  obtain ⟨b1, b2⟩ := b
  rw [Bool.eq_iff_iff]
  simp
  omega
theorem pd2_dp {K : PySem.W.Frag} {H : Hp} {p : Addr} {m : Nat × Nat} (h : SqT K H p ((mk2 m).map V.int)) : Dp K H (.ref p) (pd2 m) :=
  .tup h (.cons (.int _) (.cons (.int _) .nil))
section
variable {P : Program} {w : World} {K : PySem.W.Frag} {mg : Str → Option Value} {base : Heap} {CS CL CR : Addr}
theorem ok_standSets {f fS fA : Addr} {fd fdS fdA : FuncData} (F : Fun K "standing_sets" "standing_sets" sStandSets f fd) (T : Txt K mg CS CL CR)
    (GS : FnOk P w K mg base CX0 2 fS fdS ["sails", "wind"] (spStanding CS)) (kS : PySem.W.keepIn K (.ref fS) = true) (bS : Binds K fdS ["sails", "wind"] []) (mS : mg "standing" = some (.ref fS))
    (GA : FnOk P w K mg base CX0 1 fA fdA ["numbers"] spAsSet) (kA : PySem.W.keepIn K (.ref fA) = true) (bA : Binds K fdA ["numbers"] []) (mA : mg "as_set" = some (.ref fA)) :
    FnOk P w K mg base CX0 3 f fd ["sails", "winds"] (spStandSets CS) := by
  refine F.ok scStandSets (fun vs H Q E h => ?_) (fun cdv A outer s H vs Q E hr h => ?_)
  · obtain ⟨l, q, ss, ws, rfl, _⟩ := h
    rfl
  · obtain ⟨l, m, ss, ws, rfl, hA, h9, hm, hlen, q⟩ := h
    refine ⟨_, pss_one (ps_ret (pe_lc (own := [("wind", 2)]) (g := gName 2) (tt := tYes) (te := tCall spAsSet [] E0 (tCons (tCall (spStanding CS) [] E0 (tCons (tVar 0) (tCons (tVar 2) tNil))) tNil)) (by rfl) scStandSets.nd (pi_list (pv 1))
      (blkOk_by (own := [("wind", 2)]) (N := ["sails", "winds", "wind"]) (sc := defScope sStandSets) (by decide +kernel))
      (fun _ _ _ _ _ => pg_name (i := 2) scStandSets.nd rfl (Or.inl rfl)) (fun _ _ _ _ _ => pts_nil)
      (fun _ _ _ _ _ => by exact pe_call GA (hr.mono (by decide)) rfl mA kA bA .nil pass0 (by exact (pa_cons (pe_call GS hr rfl mS kS bS .nil pass0 (by exact (pa_cons (pv 0) (pa_cons (pv 2) pa_nil)))) pa_nil))))), ?_⟩
    refine ⟨_, rfl, m, rfl, ⟨_, hm.sq⟩, fun D hD => ?_⟩
    refine lc_list (K := K) (a := m) (xs := vI ws) (fun i H' => Same H H' ∧ LAt H' D ((ws.take i).map (maskAt ss))) ⟨same_new hD, upd_same⟩ (fun i H' _ hp => (hm.same hp.1).sq) ?_ ?_
    · rintro i x H1 hi ⟨s1, e1⟩
      obtain ⟨n, hn, rfl⟩ := vI_inv hi
      refine ⟨rfl, _, rfl, _, rfl, l, ss, n, rfl, hA.same s1, h9, fun H2 p s2 hp e2 => ?_⟩
      refine ⟨p, _, rfl, e2, Nat.le_trans standL_lt h9, fun j hj => Nat.le_trans (Nat.le_of_lt (mem_standL hj).1) h9, fun H3 s3 => ?_⟩
      refine ⟨_, s3 _ _ (s2 _ _ e1), Nat.lt_of_le_of_lt (vI_take_len _ _ _) (small1000 (by omega)), grow hD ((s1.trans s2).trans s3), ?_⟩
      show _ = some (HO.lst (vI _))
      rw [upd_same, vI_more _ hn]; rfl
    · rintro H1 ⟨s1, e1⟩
      rw [vI_length, List.take_length] at e1
      exact q _ _ s1 hD e1
theorem ok_isEnough {f : Addr} {fd : FuncData} (F : Fun K "is_enough" "is_enough" sIsEnough f fd) (T : Txt K mg CS CL CR) : FnOk P w K mg base CX0 1 f fd ["chosen", "sizes", "wanted", "k"] spIsEnough := by
  refine F.ok scIsEnough (fun vs H Q E h => ?_) (fun cdv A outer s H vs Q E hr h => ?_)
  · obtain ⟨q, k, n, z, m, ws, rfl, _⟩ := h
    rfl
  · obtain ⟨c, k, n, z, m, ws, rfl, h9, hc, hz, hm, hlen, q⟩ := h
    refine ⟨_, pss_one (ps_ret (pe_callB (cr_all rfl) (by rfl) T.all (by decide +kernel) (pa_cons (pe_lc (own := [("one", 4)]) (g := gName 4) (tt := tYes)
      (te := tOp (rI0 fun i j => .bl (decide (j ≤ i))) (tOp (rIxL K) (tVar 1) (tOp (rI0 fun i j => .int (Builtin.bitAnd i j)) (tVar 0) (tVar 4))) (tVar 3)) (by rfl) scIsEnough.nd (pi_list (pv 2))
      (blkOk_by (own := [("one", 4)]) (N := ["chosen", "sizes", "wanted", "k", "one"]) (sc := defScope sIsEnough) (by decide +kernel))
      (fun _ _ _ _ _ => pg_name (i := 4) scIsEnough.nd rfl (Or.inl rfl)) (fun _ _ _ _ _ => pts_nil)
      (fun _ _ _ _ _ => by exact pe_cmpR op_ge (pe_ix ix_list (pv 1) (pe_op op_and (pv 0) (pv 4)) (fun _ _ => rfl)) (pv 3) (nomark _))) pa_nil))), ?_⟩
    refine ⟨_, rfl, m, rfl, ⟨_, hm.sq⟩, fun D hD => ?_⟩
    refine lc_list (K := K) (a := m) (xs := vI ws) (fun i H' => Same H H' ∧ H' D = some (.lst (((ws.take i).map fun one => decide (k ≤ (allSizes n).getD (c &&& one) 0)).map V.bl))) ⟨same_new hD, upd_same⟩ (fun i H' _ hp => (hm.same hp.1).sq) ?_ ?_
    · rintro i x H1 hi ⟨s1, e1⟩
      obtain ⟨o, ho, rfl⟩ := vI_inv hi
      have hlt : c &&& o < (allSizes n).length := by rw [sizes_len]; exact and_lt hc
      refine ⟨rfl, _, rfl, _, rfl, _, rfl, _, _, rfl, rfl, z, _, _, V.int ((allSizes n).getD (c &&& o) 0 : Nat), rfl, rfl, (hz.same s1).sq, ?_, _, rfl, _, _, rfl, rfl, _, e1, ?_, grow hD s1, ?_⟩
      · rw [and_val]
        exact atI_nat (vI_get (get_D hlt))
      · rw [List.length_map, List.length_map, List.length_take]
        exact small1000 (by omega)
      · rw [upd_same, List.take_add_one, ho]
        show some (HO.lst (_ ++ [V.bl (decide ((k : Int) ≤ (((allSizes n).getD (c &&& o) 0 : Nat) : Int)))])) = _
        rw [dec_le]
        simp
    · rintro H1 ⟨s1, e1⟩
      rw [vI_length, List.take_length] at e1
      refine ⟨D, _, rfl, .inl (.inl e1), ?_⟩
      have e : (List.map (fun one => decide (k ≤ (allSizes n).getD (c &&& one) 0)) ws).all id = ws.all fun one => decide (k ≤ (allSizes n).getD (c &&& one) 0) := by
        rw [List.all_map]; rfl
      rw [e]
      exact q _ s1
theorem ok_enough {f fZ fT fI : Addr} {fd fdZ fdT fdI : FuncData} (F : Fun K "enough_sets" "enough_sets" sEnough f fd) (T : Txt K mg CS CL CR)
    (GZ : FnOk P w K mg base CX0 1 fZ fdZ ["many"] spSizes) (kZ : PySem.W.keepIn K (.ref fZ) = true) (bZ : Binds K fdZ ["many"] []) (mZ : mg "all_sizes" = some (.ref fZ))
    (GT : FnOk P w K mg base CX0 3 fT fdT ["sails", "winds"] (spStandSets CS)) (kT : PySem.W.keepIn K (.ref fT) = true) (bT : Binds K fdT ["sails", "winds"] []) (mT : mg "standing_sets" = some (.ref fT))
    (GI : FnOk P w K mg base CX0 1 fI fdI ["chosen", "sizes", "wanted", "k"] spIsEnough) (kI : PySem.W.keepIn K (.ref fI) = true) (bI : Binds K fdI ["chosen", "sizes", "wanted", "k"] []) (mI : mg "is_enough" = some (.ref fI)) :
    FnOk P w K mg base CX0 4 f fd ["sails", "winds", "k"] (spEnough CS) := by
  refine F.ok scEnough (fun vs H Q E h => ?_) (fun cdv A outer s H vs Q E hr h => ?_)
  · obtain ⟨l, m, s, k, rfl, _⟩ := h
    rfl
  · obtain ⟨l, m, t, k, rfl, ⟨as, hA⟩, g, hm, q⟩ := h
    have h9 := g.few
    refine ⟨_, pss_cons (ps_set (i := 3) scEnough.nd rfl (Or.inr rfl) (pe_call GZ (hr.mono (by decide)) rfl mZ kZ bZ .nil pass0 (by exact (pa_cons (pe_callB call_len_seq (by rfl) T.len PySem.boot_len (pa_cons (pv 0) pa_nil)) pa_nil))))
      (pss_cons (ps_set (i := 4) scEnough.nd rfl (Or.inr rfl) (pe_callB (cr_sortedSet rfl) (by rfl) T.sorted (by decide +kernel) (pa_cons (pe_callTy (cr_setL rfl) (by rfl) T.set (by decide +kernel) (pa_cons (pe_call GT hr rfl mT kT bT .nil pass0 (by exact (pa_cons (pv 0) (pa_cons (pv 1) pa_nil)))) pa_nil)) pa_nil)))
      (pss_one (ps_ret (pe_lc (own := [("chosen", 5)]) (g := gName 5) (tt := tB (tCall spIsEnough [] E0 (tCons (tVar 5) (tCons (tVar 3) (tCons (tVar 4) (tCons (tVar 2) tNil)))))) (te := tVar 5) (by rfl) scEnough.nd
        (pi_range1 (by rfl) T.range (pa_cons (pe_callB call_len_seq (by rfl) T.len PySem.boot_len (pa_cons (pv 3) pa_nil)) pa_nil))
        (blkOk_by (own := [("chosen", 5)]) (N := ["sails", "winds", "k", "sizes", "wanted", "chosen"]) (sc := defScope sEnough) (by decide +kernel))
        (fun _ _ _ _ _ => pg_name (i := 5) scEnough.nd rfl (Or.inl rfl))
        (fun _ _ _ _ _ => by exact pts_one (pt_val (pe_call GI (hr.mono (by decide)) rfl mI kI bI .nil pass0 (by exact (pa_cons (pv 5) (pa_cons (pv 3) (pa_cons (pv 4) (pa_cons (pv 2) pa_nil))))))))
        (fun _ _ _ _ _ => pv 5))))), ?_⟩
    refine ⟨_, rfl, l, _, rfl, .inl hA.sq, t.sails.length, ?_, h9, fun H1 z s1 hz e1 => ?_⟩
    · rw [hA.vlen]; rfl
    refine ⟨_, rfl, _, rfl, l, m, t.sails, t.winds, rfl, ⟨as, hA.same s1⟩, h9, hm.same s1, winds_len g, fun H2 p s2 hp e2 => ?_⟩
    refine ⟨p, nI (t.winds.map (maskAt t.sails)), rfl, e2.sq, ?_, fun p2 c hc hp2 => ?_⟩
    · rw [nI_length, List.length_map]
      have := winds_len g
      omega
    refine ⟨p2, _, c, rfl, upd_same, ?_, fun ns p3 hs hmem hl hp3 => ?_⟩
    · rw [nI_length, List.length_map] at hc
      have := winds_len g
      omega
    have hns : nI (ns.map Int.toNat) = ns := back_nI (l := t.winds.map (maskAt t.sails)) fun k hk => of_decide_eq_true ((hmem k).mp hk)
    have hwd : ∀ x, x ∈ ns.map Int.toNat ↔ x ∈ t.winds.map (maskAt t.sails) := fun x => by
      rw [← mem_nI, hns, hmem, decide_eq_true_eq, mem_nI]
    have hlw : (ns.map Int.toNat).length ≤ 41 := by
      rw [List.length_map, hl]
      rw [nI_length, List.length_map] at hc
      exact Nat.le_trans hc (winds_len g)
    have s3 : Same H1 (upd (upd H2 p2 (SetO w p2 (fun j => decide (j ∈ nI (t.winds.map (maskAt t.sails)))) c)) p3 (.lst (ns.map V.int))) := (s2.trans (same_new hp2)).trans (same_new hp3)
    have e3 : LAt (upd (upd H2 p2 (SetO w p2 (fun j => decide (j ∈ nI (t.winds.map (maskAt t.sails)))) c)) p3 (.lst (ns.map V.int))) p3 (ns.map Int.toNat) := by
      show _ = some (HO.lst ((nI _).map V.int))
      rw [hns]; exact upd_same
    have e1' := e1.same s3
    have hN : ((vI (allSizes t.sails.length)).length : Nat) = 2 ^ t.sails.length := by rw [vI_length, sizes_len]
    have hN9 := pow9 h9
    refine ⟨_, rfl, z, _, rfl, .inl e1'.sq, _, rfl, (by rw [hN]; omega), (by rw [hN]; omega), fun D hD => ?_⟩
    have hD1 : H1 D = none := s3.free hD
    have hD0 : H D = none := s1.free hD1
    have hne : p3 ≠ D := ne_of_none e3 hD
    refine lc_range (lo := 0) (n := (((vI (allSizes t.sails.length)).length : Nat) : Int).toNat) (fun i H' => Same H1 H' ∧ LAt H' p3 (ns.map Int.toNat) ∧ H' D = some (.lst (vI ((List.range i).filter (t.enough k))))) ⟨s3.trans (same_new hD), e3.same (same_new hD), upd_same⟩ ?_ ?_
    · rintro i H4 hi ⟨s4, e3', e4⟩
      have hi : i < 2 ^ t.sails.length := by rw [Int.toNat_natCast, hN] at hi; exact hi
      rw [zero_add_nat]
      refine ⟨rfl, _, rfl, _, rfl, _, rfl, _, rfl, i, k, t.sails.length, z, p3, ns.map Int.toNat, rfl, h9, hi, e1.same s4, e3', hlw, fun H5 s5 => ?_⟩
      rw [enough_wanted t k i hi _ hwd]
      refine ⟨_, rfl, ?_⟩
      by_cases b : t.enough k i = true
      · refine ite_t b ?_
        refine ⟨_, rfl, _, s5 _ _ e4, Nat.lt_of_le_of_lt (filt_len _ _) (small1000 (by omega)), grow hD1 (s4.trans s5), (upd_ne hne).trans (e3'.same s5), ?_⟩
        rw [upd_same, filt_more, if_pos b]
      · refine ite_f (Bool.eq_false_iff.mpr b) ?_
        refine ⟨s4.trans s5, e3'.same s5, ?_⟩
        rw [s5 _ _ e4, filt_more, if_neg b]
    · rintro H4 ⟨s4, e3', e4⟩
      rw [Int.toNat_natCast, hN] at e4
      exact q _ _ (s1.trans s4) hD0 e4
end
end Sw
set_option Elab.async false
set_option linter.all false
set_option maxRecDepth 100000
set_option maxHeartbeats 2000000
/-! best_sets. -/
namespace Sw
open PySem PySem.Spec PyProof.Rows L2
/-- the marks so far: ps, their tuples and what they tell -/
structure MarksAt (H0 H : Hp) (D : Addr) (s : Uw29.Loft) (l : List Nat) (ps : List (Addr × (Nat × Nat))) : Prop where
  same : Same H0 H
  lst : H D = some (.lst (ps.map fun p => V.ref p.1))
  tup : ∀ p ∈ ps, H p.1 = some (.tup ((mk2 p.2).map V.int))
  val : ps.map (·.2) = l.map (markOf s)
theorem mem_enough {s : Uw29.Loft} {k q : Nat} (h : q ∈ enoughSets s k) : q < 2 ^ s.sails.length := List.mem_range.mp (List.mem_filter.mp h).1
theorem enough_len {s : Uw29.Loft} {k : Nat} (g : Good s) : (enoughSets s k).length ≤ 512 := by
  unfold enoughSets
  exact Nat.le_trans (List.length_filter_le _ _) (by rw [List.length_range]; exact pow9 g.few)
theorem filt_take {l : List Nat} {i q : Nat} (p : Nat → Bool) (h : l[i]? = some q) : vI ((l.take (i + 1)).filter p) = if p q = true then vI ((l.take i).filter p) ++ [V.int (q : Nat)] else vI ((l.take i).filter p) := by
  rw [List.take_add_one, h, List.filter_append, vI_append]
  by_cases c : p q = true
  · rw [if_pos c]
    show _ ++ vI ([q].filter p) = _
    rw [List.filter_cons_of_pos c]; rfl
  · rw [if_neg c]
    show _ ++ vI ([q].filter p) = _
    rw [List.filter_cons_of_neg c]; exact List.append_nil _
section
variable {P : Program} {w : World} {K : PySem.W.Frag} {mg : Str → Option Value} {base : Heap} {CS CL CR : Addr}
theorem ok_bestSets {f fP fZ fE : Addr} {fd fdP fdZ fdE : FuncData} (F : Fun K "best_sets" "best_sets" sBestSets f fd) (T : Txt K mg CS CL CR)
    (GP : FnOk P w K mg base CX0 1 fP fdP ["sails"] (spPrices CS)) (kP : PySem.W.keepIn K (.ref fP) = true) (bP : Binds K fdP ["sails"] []) (mP : mg "all_prices" = some (.ref fP))
    (GZ : FnOk P w K mg base CX0 1 fZ fdZ ["many"] spSizes) (kZ : PySem.W.keepIn K (.ref fZ) = true) (bZ : Binds K fdZ ["many"] []) (mZ : mg "all_sizes" = some (.ref fZ))
    (GE : FnOk P w K mg base CX0 4 fE fdE ["sails", "winds", "k"] (spEnough CS)) (kE : PySem.W.keepIn K (.ref fE) = true) (bE : Binds K fdE ["sails", "winds", "k"] []) (mE : mg "enough_sets" = some (.ref fE)) :
    FnOk P w K mg base CX0 5 f fd ["sails", "winds", "k"] (spBestSets CS) := by
  refine F.ok scBestSets (fun vs H Q E h => ?_) (fun cdv A outer s H vs Q E hr h => ?_)
  · obtain ⟨l, m, s, k, rfl, _⟩ := h
    rfl
  · obtain ⟨l, m, t, k, rfl, ⟨as, hA⟩, g, hm, q⟩ := h
    have h9 := g.few
    have hu : A.units + 100 < cLine := by
      have z : A.units + 3 + 16 * 4 + 200 < cLine := hr.un
      omega
    refine ⟨_, pss_cons (ps_set (i := 3) scBestSets.nd rfl (Or.inr rfl) (pe_call GP (hr.mono (by decide)) rfl mP kP bP .nil pass0 (by exact (pa_cons (pv 0) pa_nil))))
      (pss_cons (ps_set (i := 4) scBestSets.nd rfl (Or.inr rfl) (pe_call GZ (hr.mono (by decide)) rfl mZ kZ bZ .nil pass0 (by exact (pa_cons (pe_callB call_len_seq (by rfl) T.len PySem.boot_len (pa_cons (pv 0) pa_nil)) pa_nil))))
      (pss_cons (ps_set (i := 5) scBestSets.nd rfl (Or.inl rfl) (pe_call GE hr rfl mE kE bE .nil pass0 (by exact (pa_cons (pv 0) (pa_cons (pv 1) (pa_cons (pv 2) pa_nil))))))
      (pss_cons (ps_setLc (i := 6) (own := [("chosen", 8)]) (g := gName 8) (tt := tYes) (te := tTup (tCons (tOp (rIxL K) (tVar 3) (tVar 8)) (tCons (tOp (rIxL K) (tVar 4) (tVar 8)) tNil))) rfl scBestSets.nd rfl rfl (sw_true rfl rfl rfl (by decide +kernel)) (pi_list (pv 5))
        (blkOk_by (own := [("chosen", 8)]) (N := ["sails", "winds", "k", "prices", "sizes", "some", "marks", "least", "chosen", "mark"]) (sc := defScope sBestSets) (by decide +kernel))
        (fun _ _ _ _ _ => pg_name (i := 8) scBestSets.nd rfl (Or.inl rfl)) (fun _ _ _ _ _ => pts_nil)
        (fun _ _ _ _ _ => by exact pe_tup (pa_cons (pe_ix ix_list (pv 3) (pv 8) (fun _ _ => rfl)) (pa_cons (pe_ix ix_list (pv 4) (pv 8) (fun _ _ => rfl)) pa_nil))))
      (pss_cons (ps_set (i := 7) scBestSets.nd rfl (Or.inr rfl) (pe_callBK (cr_minD rfl (by show A.units + 3 + 64 < cLine; omega)) (by rfl) T.min (by decide +kernel) (pa_cons (pv 6) pa_nil) (pk_cons (pe_tup (pa_cons pe_int (pa_cons pe_int pa_nil))) pk_nil)))
      (pss_one (ps_ret (pe_lc (own := [("chosen", 8), ("mark", 9)]) (g := gTup K 2 (gCons (gName 8) (gCons (gName 9) gNil))) (tt := tTest (tOp (rEqD K) (tVar 9) (tVar 7))) (te := tVar 8) (by rfl) scBestSets.nd (pi_zip (by rfl) T.zip (pa_cons (pv 5) (pa_cons (pv 6) pa_nil)))
        (blkOk_by (own := [("chosen", 8), ("mark", 9)]) (N := ["sails", "winds", "k", "prices", "sizes", "some", "marks", "least", "chosen", "mark"]) (sc := defScope sBestSets) (by decide +kernel))
        (fun _ _ _ _ _ => by exact pg_tup rfl (pgs_cons (pg_name (i := 8) scBestSets.nd rfl (Or.inl rfl)) (pgs_cons (pg_name (i := 9) scBestSets.nd rfl (Or.inl rfl)) pgs_nil)))
        (fun _ _ _ _ _ => by exact pts_one (pt_cmpR (op_eqD (by show A.units + 3 + 64 < cLine; omega)) (pv 9) (pv 7) (nomark _)))
        (fun _ _ _ _ _ => pv 8)))))))), ?_⟩
    refine ⟨_, rfl, l, t.sails, rfl, ⟨as, hA⟩, h9, fun H1 pp s1 hpp ep => ?_⟩
    refine ⟨_, rfl, l, _, rfl, .inl (hA.same s1).sq, t.sails.length, ?_, h9, fun H2 pz s2 hpz ez => ?_⟩
    · rw [hA.vlen]; rfl
    have s12 := s1.trans s2
    refine ⟨_, rfl, _, rfl, _, rfl, l, m, t, k, rfl, ⟨as, hA.same s12⟩, g, hm.same s12, fun H3 pe s3 hpe ee => ?_⟩
    have s13 := s12.trans s3
    refine ⟨_, rfl, pe, rfl, ⟨_, ee.sq⟩, fun D hD => ?_⟩
    -- the marks
    refine lc_list (K := K) (a := pe) (xs := vI (enoughSets t k)) (fun i H' => ∃ ps, MarksAt H3 H' D t ((enoughSets t k).take i) ps) ⟨[], same_new hD, upd_same, fun p hp => (by cases hp), rfl⟩ (fun i H' _ ⟨_, hp⟩ => (ee.same hp.same).sq) ?_ ?_
    · rintro i x H4 hi ⟨ps, M⟩
      obtain ⟨c, hc, rfl⟩ := vI_inv hi
      have hcl := mem_enough (List.mem_of_getElem? hc)
      have b1 : c < (allPrices t.sails).length := by rw [prices_len]; exact hcl
      have b2 : c < (allSizes t.sails.length).length := by rw [sizes_len]; exact hcl
      refine ⟨rfl, _, rfl, _, rfl, pp, _, _, _, rfl, rfl, (ep.same ((s2.trans s3).trans M.same)).sq, atI_nat (vI_get (get_D b1)), ?_⟩
      refine ⟨_, rfl, _, rfl, pz, _, _, _, rfl, rfl, (ez.same (s3.trans M.same)).sq, atI_nat (vI_get (get_D b2)), (by show 2 ≤ sizeLine; decide), fun tp htp => ?_⟩
      have hDt : D ≠ tp := ne_of_none M.lst htp
      rw [prices_at _ _ hcl, sizes_at _ _ hcl, cost_eq]
      refine ⟨_, (upd_ne hDt).trans M.lst, ?_, ps ++ [(tp, markOf t c)], grow hD (M.same.trans (same_new htp)), ?_, fun p hp => ?_, ?_⟩
      · have e := congrArg List.length M.val
        rw [List.length_map, List.length_map, List.length_take] at e
        rw [List.length_map]
        have := enough_len (k := k) g
        exact small1000 (by omega)
      · rw [upd_same, List.map_append]; rfl
      · rcases List.mem_append.mp hp with h | h
        · have e := M.tup p h
          rw [upd_ne (ne_of e M.lst (by intro z; cases z)), upd_ne (ne_of_none e htp)]
          exact e
        · rw [List.mem_singleton.mp h]
          show (upd _ D _) tp = _
          rw [upd_ne hDt.symm, upd_same]; rfl
      · rw [List.map_append, M.val, List.take_add_one, hc, List.map_append]; rfl
    · rintro H4 ⟨ps, M⟩
      rw [vI_length, List.take_length] at M
      have s4 := M.same
      -- least
      refine ⟨_, rfl, (by show 2 ≤ sizeLine; decide), fun p0 hp0 => ?_⟩
      have s5 : Same H4 (upd H4 p0 (.tup [V.int 0, V.int 0])) := same_new hp0
      have fin : ∀ lt, (upd H4 p0 (.tup [V.int 0, V.int 0])) lt = some (.tup ((mk2 (minMark ((enoughSets t k).map (markOf t)))).map V.int)) →
          tRet (tLc (iZip K (tCons (tVar 5) (tCons (tVar 6) tNil))) (gTup K 2 (gCons (gName 8) (gCons (gName 9) gNil))) (tTest (tOp (rEqD K) (tVar 9) (tVar 7))) (tVar 8) [8, 9]) { nx := fun _ H' => Q .non H', rt := Q }
            [some (.ref l), some (.ref m), some (.int (k : Nat)), some (.ref pp), some (.ref pz), some (.ref pe), some (.ref D), some (.ref lt), none, none] (upd H4 p0 (.tup [V.int 0, V.int 0])) := by
        intro lt hlt
        have ee5 := ee.same (s4.trans s5)
        have eD5 := s5 _ _ M.lst
        refine ⟨_, rfl, _, rfl, pe, D, _, _, rfl, ee5.sq, .inl (.inl eD5), fun D2 hD2 => ?_⟩
        have hlen : (enoughSets t k).length = min (vI (enoughSets t k)).length (ps.map fun p => V.ref p.1).length := by
          have e := congrArg List.length M.val
          rw [List.length_map, List.length_map] at e
          rw [vI_length, List.length_map, e, Nat.min_self]
        refine lc_it (walk_zip (K := K) (a := pe) (b := D) hlen) (fun i H' => Same (upd H4 p0 (.tup [V.int 0, V.int 0])) H' ∧ H' D2 = some (.lst (vI (((enoughSets t k).take i).filter fun q => decide (markOf t q = minMark ((enoughSets t k).map (markOf t))))))) ⟨same_new hD2, upd_same⟩
          (fun i H' _ hp => ⟨(ee5.same hp.1).sq, .inl (.inl (hp.1 _ _ eD5))⟩) ?_ ?_
        · rintro i x H6 H7 hi ⟨s6, e6⟩ ⟨Tp, x1, x2, rfl, nT, rfl, f1, f2⟩
          obtain ⟨c, hc, rfl⟩ := vI_inv f1
          obtain ⟨p, hp, rfl⟩ : ∃ p, ps[i]? = some p ∧ x2 = V.ref p.1 := by
            have f2' : (ps.map fun p => V.ref p.1)[i]? = some x2 := f2
            rw [List.getElem?_map] at f2'
            cases e : ps[i]? with
            | none => rw [e] at f2'; cases f2'
            | some p => rw [e] at f2'; exact ⟨p, rfl, (Option.some.inj f2').symm⟩
          have hmk : p.2 = markOf t c := by
            have e := congrArg (fun l => l[i]?) M.val
            simp only [List.getElem?_map, hp, hc] at e
            exact Option.some.inj e
          have s7 : Same H6 (upd H6 Tp (.tup [V.int (c : Nat), V.ref p.1])) := same_new nT
          have ht1 := s7 _ _ (s6 _ _ (s5 _ _ (M.tup p (List.mem_of_getElem? hp))))
          have ht2 := s7 _ _ (s6 _ _ hlt)
          refine ⟨Tp, [V.int (c : Nat), .ref p.1], rfl, .inl (.inl upd_same), rfl, _, [.ref p.1], rfl, _, [], rfl, rfl, rfl, ?_⟩
          refine ⟨_, rfl, _, rfl, pd2 p.2, pd2 (minMark ((enoughSets t k).map (markOf t))), pd2_dp (.inl (.inl ht1)), pd2_dp (.inl (.inl ht2)), pd2_shaped _, pd2_shaped _, _, rfl, ?_⟩
          rw [pd2_eqv, hmk]
          by_cases b : decide (markOf t c = minMark ((enoughSets t k).map (markOf t))) = true
          · refine ite_t b ?_
            refine ⟨_, rfl, _, s7 _ _ e6, ?_, grow hD2 (s6.trans s7), ?_⟩
            · rw [vI_length]
              have := enough_len (k := k) g
              refine Nat.lt_of_le_of_lt (List.length_filter_le _ _) ?_
              rw [List.length_take]
              exact small1000 (by omega)
            · rw [upd_same, filt_take _ hc, if_pos b]
          · refine ite_f (Bool.eq_false_iff.mpr b) ?_
            refine ⟨s6.trans s7, ?_⟩
            rw [s7 _ _ e6, filt_take _ hc, if_neg b]
        · rintro H6 ⟨s6, e6⟩
          rw [List.take_length] at e6
          have sall := ((s13.trans s4).trans s5)
          exact q _ _ (sall.trans s6) (sall.free hD2) e6
      refine ⟨D, ps, .ref p0, rfl, rfl, .inl (.inl (s5 _ _ M.lst)), fun p hp => .inl (.inl (s5 _ _ (M.tup p hp))), fun e => ?_, fun p hp e => ?_⟩
      · refine fin p0 ?_
        have hv := M.val
        rw [e] at hv
        rw [← hv, upd_same]; rfl
      · refine fin p.1 ?_
        rw [← M.val, ← e]
        exact s5 _ _ (M.tup p hp)
end
end Sw
set_option Elab.async false
set_option linter.all false
set_option maxRecDepth 100000
set_option maxHeartbeats 2000000
/-! Refused, want, are_winds; Loft: __init__, winds, begin, put_sail. -/
namespace Sw
open PySem PySem.Spec PyProof.Rows L2
theorem lF_put_least (s : Uw29.Loft) (L : Addr) (n : Nat) : putF "least" (.int (n : Nat)) (lF s L) = lF { s with lo := n } L := put_here
theorem lF_put_greatest (s : Uw29.Loft) (L : Addr) (n : Nat) : putF "greatest" (.int (n : Nat)) (lF s L) = lF { s with hi := n } L := (put_past (by decide +kernel)).trans (congrArg _ put_here)
theorem lF_put_sails (s : Uw29.Loft) (L M : Addr) : putF "sails" (.ref M) (lF s L) = lF s M := (put_past (by decide +kernel)).trans (congrArg _ ((put_past (by decide +kernel)).trans (congrArg _ put_here)))
theorem lF_new (L : Addr) : putF "sails" (.ref L) (putF "greatest" (.int 0) (putF "least" (.int 0) [])) = lF Uw29.init L := by
  have e1 : putF "least" (.int 0) [] = [(("least" : Str), V.int 0)] := rfl
  rw [e1, put_past (by decide +kernel)]
  have e2 : putF "greatest" (.int 0) [] = [(("greatest" : Str), V.int 0)] := rfl
  rw [e2, put_past (by decide +kernel), put_past (by decide +kernel)]
  rfl
theorem sails_nil {C : Addr} {H : Hp} {l : Addr} (h : H l = some (.lst [])) : SailsAt C H l [] := ⟨[], h, rfl, fun i a e => by simp at e⟩
theorem aBegin_inv {ns : List Nat} {c : Uw29.Call} (h : aBegin ns = some c) : ∃ a b, ns = [a, b] ∧ c = .begins a b := by
  unfold aBegin at h
  split at h
  · exact ⟨_, _, rfl, (Option.some.inj h).symm⟩
  · cases h
theorem aSail_inv {ns : List Nat} {c : Uw29.Call} (h : aSail ns = some c) : ∃ x : Uw29.Sail, ns = [x.lo, x.hi, x.cost] ∧ c = .sail x := by
  unfold aSail at h
  split at h
  · exact ⟨⟨_, _, _⟩, rfl, (Option.some.inj h).symm⟩
  · cases h
theorem aCheck_inv {ns : List Nat} {c : Uw29.Call} (h : aCheck ns = some c) : ∃ k q, ns = [k, q] ∧ c = .check k q := by
  unfold aCheck at h
  split at h
  · exact ⟨_, _, rfl, (Option.some.inj h).symm⟩
  · cases h
theorem aBest_inv {ns : List Nat} {c : Uw29.Call} (h : aBest ns = some c) : ∃ k, ns = [k] ∧ c = .best k := by
  unfold aBest at h
  split at h
  · exact ⟨_, rfl, (Option.some.inj h).symm⟩
  · cases h
theorem aFewest_inv {ns : List Nat} {c : Uw29.Call} (h : aFewest ns = some c) : ns = [] ∧ c = .fewest := by
  unfold aFewest at h
  split at h
  · exact ⟨rfl, (Option.some.inj h).symm⟩
  · cases h
/-- nothing but new things: all stands -/
theorem Done.same {CL CS : Addr} {H H' : Hp} {a L p : Addr} {s : Uw29.Loft} {l : List Int} (hL : LoftAt CL CS H a L s) (m : Same H H') (e : H' p = some (.lst (l.map V.int))) (n : H p = none) : Done CL CS H a L H' p s l :=
  ⟨⟨L, hL.same m, .inl rfl⟩, e, n, fun b o h _ _ => m _ _ h⟩
section
variable {P : Program} {w : World} {K : PySem.W.Frag} {mg : Str → Option Value} {base : Heap} {CS CL CR : Addr}
/-- a constant of the module, a number -/
theorem pgI {X : Cx} {x : Str} {pos : Pos} {i : Int} {t : Tok} (hg : Gl X x) (hm : X.mg x = some (.int i t)) (hd : (x == ("__debug__" : Str)) = false := by decide) : PE X (.Name x pos) (tC (.int i)) := pe_glob hg hm (show RelV (.int i) (.int i t) from ⟨t, rfl⟩) hd
theorem ok_refInit {f : Addr} {fd : FuncData} (F : Fun K "__init__" "Refused.__init__" sRefInit f fd) (T : Txt K mg CS CL CR) : FnOk P w K mg base CX0 1 f fd ["self", "answered"] (spRefInit CR) := by
  refine F.ok scRefInit (fun vs H Q E h => ?_) (fun cdv A outer s H vs Q E hr h => ?_)
  · obtain ⟨a, v, rfl, _⟩ := h
    rfl
  · obtain ⟨a, v, rfl, ha, q⟩ := h
    refine ⟨_, pss_cons (ps_expr (pe_veinit (by rfl) T.ve T.vV (pa_cons (pv 0) (pa_cons pe_str pa_nil)))) (pss_one (ps_ost (pv 0) (pv 1))), ?_⟩
    refine ⟨_, rfl, a, CR, [V.str "refused"], rfl, (by decide), T.oex, ha, ?_⟩
    exact ⟨_, rfl, _, rfl, a, CR, rfl, T.oex, T.noA, .inl ⟨ha, fun dx hd hn => q dx hd hn⟩⟩
theorem ok_want {f fI : Addr} {fd fdI : FuncData} (F : Fun K "want" "want" sWant f fd) (T : Txt K mg CS CL CR) (FI : Fun K "__init__" "Refused.__init__" sRefInit fI fdI) (bI : Binds K fdI ["self", "answered"] [])
    (iC : PySem.W.findIn K (.ref CR) "__init__" = some (some (.ref fI))) (tI : PySem.W.typeIn K (.ref fI) = some (.type "function")) : FnOk P w K mg base (L2.CX P w) 3 f fd ["truth", "answered"] (spWant CR) := by
  have GI : FnOk P w K mg base CX0 1 fI fdI ["self", "answered"] (spRefInit CR) := ok_refInit FI T
  refine F.okX scWant (fun vs H Q E h => ?_) (fun cdv A outer s H vs Q E hr h => ?_)
  · obtain ⟨t, v, rfl, _⟩ := h
    rfl
  · obtain ⟨t, v, rfl, q1, q2⟩ := h
    refine ⟨_, pss_one (ps_if (pt_not (pt_val (pv 0))) (pss_one (ps_raise rfl (takes_of rfl rfl rfl rfl) (pmk_oex T.oex iC tI GI hr bI .nil pass0 (by rfl) T.gR (by exact (pa_cons (pv 1) pa_nil))))) pss_nil), ?_⟩
    refine ⟨_, rfl, t, rfl, ?_⟩
    cases t with
    | true => exact iteF (q1 rfl)
    | false =>
      refine iteT ⟨_, rfl, (by show 1 ≤ 1000; decide), fun a ha => ?_⟩
      refine ⟨a, v, rfl, upd_same, fun d hd hda => ⟨rfl, d, [("answered", v)], upd_same, (upd_ne hda).trans upd_same, (by rw [upd_ne hda] at hd; exact hd), ?_⟩⟩
      rw [upd_ne hda] at hd
      refine q2 rfl _ d (fun b o e => ?_) upd_same
      have n1 := ne_of_none e ha
      have n2 := ne_of_none e hd
      rw [upd_ne n2, del_ne n1, upd_ne n1, upd_ne n2, upd_ne n1]
      exact e
theorem ok_areWinds {f : Addr} {fd : FuncData} (F : Fun K "are_winds" "are_winds" sAreWinds f fd) (T : Txt K mg CS CL CR) : FnOk P w K mg base CX0 1 f fd ["least", "greatest"] spAreWinds := by
  refine F.ok scAreWinds (fun vs H Q E h => ?_) (fun cdv A outer s H vs Q E hr h => ?_)
  · obtain ⟨a, b, rfl, _⟩ := h
    rfl
  · obtain ⟨lo, hi, rfl, q⟩ := h
    obtain ⟨tk, gW⟩ := T.mostWind
    refine ⟨_, pss_one (ps_ret (pe_chain op_le op_le (pv 0) (pv 1) (pgI rfl gW))), ?_⟩
    refine ⟨_, rfl, _, rfl, _, _, rfl, rfl, _, rfl, ?_⟩
    show if decide ((lo : Int) ≤ (hi : Int)) = true then _ else _
    rw [dec_le]
    by_cases c : lo ≤ hi
    · rw [if_pos (decide_eq_true c)]
      refine ⟨_, _, rfl, rfl, ?_⟩
      show Q (.bl (decide ((hi : Int) ≤ ((40 : Nat) : Int)))) H
      rw [dec_le]
      rw [decide_eq_true c, Bool.true_and] at q
      exact q
    · rw [if_neg (by rw [decide_eq_false c]; exact Bool.false_ne_true)]
      rw [decide_eq_false c, Bool.false_and] at q
      exact q
theorem ok_loftInit {f : Addr} {fd : FuncData} (F : Fun K "__init__" "Loft.__init__" sLoftInit f fd) (T : Txt K mg CS CL CR) : FnOk P w K mg base CX0 1 f fd ["self"] (spLoftInit CL CS) := by
  refine F.ok scLoftInit (fun vs H Q E h => ?_) (fun cdv A outer s H vs Q E hr h => ?_)
  · obtain ⟨p, dx, rfl, _⟩ := h
    rfl
  · obtain ⟨p, dx, rfl, hp, q⟩ := h
    refine ⟨_, pss_cons (ps_fld (pv 0) pe_int rfl) (pss_cons (ps_fld (pv 0) pe_int rfl) (pss_one (ps_fld (pv 0) (pe_lst pa_nil) rfl))), ?_⟩
    refine ⟨_, rfl, p, CL, dx, [], rfl, hp, T.clL, T.nLl, (by show 0 < 1000; decide), ?_⟩
    refine ⟨_, rfl, p, CL, dx, _, rfl, upd_same, T.clL, T.nLg, (by show 1 < 1000; decide), ?_⟩
    refine ⟨Nat.zero_le _, fun L hL => ?_⟩
    have npL : p ≠ L := ne_of_none (o := .ins CL dx _) upd_same hL
    refine ⟨_, rfl, p, CL, dx, _, rfl, (upd_ne npL).trans upd_same, T.clL, T.nLs, (by show 2 < 1000; decide), ?_⟩
    refine q _ L ⟨⟨dx, Eq.trans upd_same (congrArg (fun q => some (HO.ins CL dx q)) (lF_new L))⟩, sails_nil ((upd_ne npL.symm).trans upd_same), ⟨by decide, by decide, by decide⟩⟩ (fun b o e hb => ?_) (by rw [upd_ne npL.symm, upd_ne npL.symm] at hL; exact hL)
    have hbL : b ≠ L := by
      intro z
      rw [z] at e hb
      rw [upd_ne hb, upd_ne hb, e] at hL
      cases hL
    rw [upd_ne hb, upd_ne hbL, upd_ne hb, upd_ne hb]
    exact e
theorem rg_winds (s : Uw29.Loft) (g : Good s) : rgV (s.lo : Int) ((s.hi : Int) + 1) = vI s.winds := by
  have e : ((s.hi : Int) + 1 - (s.lo : Int)).toNat = s.hi + 1 - s.lo := by omega
  unfold rgV
  rw [e, winds_eq s (Nat.le_succ_of_le g.le)]
  unfold vI nI
  rw [List.map_map, List.map_map]
  exact List.map_congr_left fun i _ => by
    show V.int ((s.lo : Int) + (i : Int)) = V.int (((s.lo + i : Nat)) : Int)
    rw [Int.natCast_add]
theorem ok_winds {f : Addr} {fd : FuncData} (F : Fun K "winds" "Loft.winds" sWinds f fd) (T : Txt K mg CS CL CR) : FnOk P w K mg base CX0 1 f fd ["self"] (spWinds CL CS) := by
  refine F.ok scWinds (fun vs H Q E h => ?_) (fun cdv A outer s H vs Q E hr h => ?_)
  · obtain ⟨p, L, s, rfl, _⟩ := h
    rfl
  · obtain ⟨a, L, t, rfl, ⟨⟨dx, ha⟩, _, g⟩, q⟩ := h
    refine ⟨_, pss_one (ps_ret (pe_listRg rfl (by rfl) T.list (prg_2 (by rfl) T.range (pe_fld (pv 0) rfl) (pe_op op_add (pe_fld (pv 0) rfl) pe_int)))), ?_⟩
    have g1 := g.hi
    have g2 := g.le
    refine ⟨_, rfl, a, CL, dx, _, _, rfl, ha, T.clL, T.nLl, lF_least t L, _, rfl, a, CL, dx, _, _, rfl, ha, T.clL, T.nLg, lF_greatest t L, _, _, rfl, rfl, _, _, rfl, rfl, ?_, fun p hp => ?_⟩
    · exact .of_le (by omega) (by omega) (by omega) (by omega)
    · refine q _ p (same_new hp) hp ?_
      show _ = some (HO.lst (vI _))
      rw [upd_same, ← rg_winds t g]
theorem ok_begin {f fW fA : Addr} {fd fdW fdA : FuncData} (F : Fun K "begin" "Loft.begin" sBegin f fd) (T : Txt K mg CS CL CR)
    (GW : FnOk P w K mg base (L2.CX P w) 3 fW fdW ["truth", "answered"] (spWant CR)) (kW : PySem.W.keepIn K (.ref fW) = true) (bW : Binds K fdW ["truth", "answered"] []) (mW : mg "want" = some (.ref fW))
    (GA : FnOk P w K mg base CX0 1 fA fdA ["least", "greatest"] spAreWinds) (kA : PySem.W.keepIn K (.ref fA) = true) (bA : Binds K fdA ["least", "greatest"] []) (mA : mg "are_winds" = some (.ref fA)) :
    FnOk P w K mg base (L2.CX P w) 4 f fd ["self", "least", "greatest"] (spMeth CL CS CR aBegin) := by
  refine F.okX scBegin (fun vs H Q E h => ?_) (fun cdv A outer s H vs Q E hr h => ?_)
  · obtain ⟨a, L, s, ns, c, rfl, hc, _⟩ := h
    obtain ⟨x, y, rfl, _⟩ := aBegin_inv hc
    rfl
  · obtain ⟨a, L, t, ns, c, rfl, hc, hL, O⟩ := h
    obtain ⟨lo, hi, rfl, rfl⟩ := aBegin_inv hc
    obtain ⟨tk, gB⟩ := T.bad
    refine ⟨_, pss_cons (ps_expr (pe_call GW hr rfl mW kW bW .nil (E := E) (passes_call (takes_of rfl rfl rfl rfl) (fun _ _ _ _ h => h)) (by exact (pa_cons (pe_call GA (hr.mono (by decide)) rfl mA kA bA .nil pass0 (by exact (pa_cons (pv 1) (pa_cons (pv 2) pa_nil)))) (pa_cons (pe_lst (pa_cons (pgI rfl gB) pa_nil)) pa_nil)))))
      (pss_cons (ps_fld (pv 0) (pv 1) rfl) (pss_cons (ps_fld (pv 0) (pv 2) rfl) (pss_cons (ps_fld (pv 0) (pe_lst pa_nil) rfl) (pss_one (ps_ret (pe_lst (pa_cons pe_int pa_nil))))))), ?_⟩
    refine ⟨_, rfl, _, rfl, lo, hi, rfl, (by show 1 ≤ sizeLine; decide), fun p hp => ?_⟩
    refine ⟨_, _, rfl, fun ht => ?_, fun hf => ?_⟩
    · have ht' : lo ≤ hi ∧ hi ≤ 40 := by
        obtain ⟨h1, h2⟩ := Bool.and_eq_true_iff.mp ht
        exact ⟨of_decide_eq_true h1, of_decide_eq_true h2⟩
      have es : Uw29.step t (.begins lo hi) = (⟨lo, hi, []⟩, Uw29.ok 0) := if_neg (show ¬ (40 < hi ∨ hi < lo) by omega)
      rw [es] at O
      obtain ⟨⟨dx, ha⟩, ⟨as, hA⟩, g⟩ := hL
      have ha1 := same_new (o := .lst [V.int (-1)]) hp _ _ ha
      refine ⟨_, rfl, _, rfl, a, CL, dx, _, rfl, ha1, T.clL, T.nLl, (by show 3 < 1000; decide), ?_⟩
      refine ⟨_, rfl, _, rfl, a, CL, dx, _, rfl, upd_same, T.clL, T.nLg, (by rw [lF_put_least]; show 3 < 1000; decide), ?_⟩
      refine ⟨Nat.zero_le _, fun M hM => ?_⟩
      have naM : a ≠ M := ne_of_none (o := .ins CL dx _) upd_same hM
      refine ⟨_, rfl, a, CL, dx, _, rfl, (upd_ne naM).trans upd_same, T.clL, T.nLs, (by rw [lF_put_least, lF_put_greatest]; show 3 < 1000; decide), ?_⟩
      refine ⟨(by show 1 ≤ sizeLine; decide), fun r hr0 => ?_⟩
      have hM1 : (upd H p (.lst [V.int (-1)])) M = none := by
        rw [upd_ne naM.symm, upd_ne naM.symm] at hM
        exact hM
      have hM0 : H M = none := (same_new hp).free hM1
      have nar : a ≠ r := ne_of_none (o := .ins CL dx _) upd_same hr0
      have nMr : M ≠ r := ne_of_none (o := .lst []) ((upd_ne naM.symm).trans upd_same) hr0
      have old : ∀ b o, H b = some o → b ≠ a → _ := fun b o e hb => by
        have nbp := ne_of_none e hp
        have nbM := ne_of_none e hM0
        have z := (upd_ne (o := .ins CL dx (putF "sails" (.ref M) (putF "greatest" (.int (hi : Nat)) (putF "least" (.int (lo : Nat)) (lF t L))))) hb).trans ((upd_ne (o := .lst []) nbM).trans ((upd_ne (o := .ins CL dx (putF "greatest" (.int (hi : Nat)) (putF "least" (.int (lo : Nat)) (lF t L)))) hb).trans ((upd_ne (o := .ins CL dx (putF "least" (.int (lo : Nat)) (lF t L))) hb).trans ((upd_ne (H := H) (o := .lst [V.int (-1)]) nbp).trans e))))
        exact z
      refine O.good _ r ⟨⟨M, ⟨⟨dx, ?_⟩, sails_nil ((upd_ne nMr).trans ((upd_ne naM.symm).trans upd_same)), ⟨ht'.2, ht'.1, Nat.zero_le _⟩⟩, .inr hM0⟩, upd_same, ?_, fun b o e hb _ => ?_⟩
      · rw [upd_ne nar, upd_same, lF_put_least, lF_put_greatest, lF_put_sails]; rfl
      · cases e : H r with
        | none => rfl
        | some o =>
          have z := old r o e nar.symm
          rw [hr0] at z
          cases z
      · have nbr : b ≠ r := ne_of_none (o := o) (old b o e hb) hr0
        rw [upd_ne nbr]
        exact old b o e hb
    · have es : Uw29.step t (.begins lo hi) = (t, Uw29.ok (-1)) := if_pos (show 40 < hi ∨ hi < lo by
        rw [Bool.and_eq_false_iff, decide_eq_false_iff_not, decide_eq_false_iff_not] at hf
        omega)
      rw [es] at O
      exact fun H' d sm hd => O.bad H' p d (Done.same hL ((same_new hp).trans sm) (sm _ _ upd_same) hp) hd
end
end Sw
set_option Elab.async false
set_option linter.all false
set_option maxRecDepth 100000
set_option maxHeartbeats 2000000
/-! Loft: put_sail, check. -/
namespace Sw
open PySem PySem.Spec PyProof.Rows L2
theorem sails_snoc {C : Addr} {H H' : Hp} {l x : Addr} {as : List Addr} {ss : List Uw29.Sail} {y : Uw29.Sail} (hA : SailsOf C H l as ss) (m : ∀ b z, SailAt C H b z → SailAt C H' b z) (hx : SailAt C H' x y) (e : H' l = some (.lst (as.map V.ref ++ [.ref x]))) : SailsAt C H' l (ss ++ [y]) := by
  refine ⟨as ++ [x], by rw [List.map_append]; exact e, by rw [List.length_append, List.length_append, hA.len]; rfl, fun i a ha => ?_⟩
  by_cases c : i < as.length
  · rw [List.getElem?_append_left c] at ha
    rw [getD_append_lt _ _ _ (by rw [← hA.len]; exact c)]
    exact m _ _ (hA.at_ i a ha)
  · have hi : i < (as ++ [x]).length := (List.getElem?_eq_some_iff.mp ha).1
    rw [List.length_append] at hi
    have e1 : i = as.length := by
      have : ([x] : List Addr).length = 1 := rfl
      omega
    subst e1
    rw [List.getElem?_append_right (Nat.le_refl _), Nat.sub_self] at ha
    have e2 : x = a := Option.some.inj ha
    rw [← e2, hA.len, getD_append_self]
    exact hx
section
variable {P : Program} {w : World} {K : PySem.W.Frag} {mg : Str → Option Value} {base : Heap} {CS CL CR : Addr}
theorem ok_putSail {f fW fA fS : Addr} {fd fdW fdA fdS : FuncData} (F : Fun K "put_sail" "Loft.put_sail" sPutSail f fd) (T : Txt K mg CS CL CR)
    (GW : FnOk P w K mg base (L2.CX P w) 3 fW fdW ["truth", "answered"] (spWant CR)) (kW : PySem.W.keepIn K (.ref fW) = true) (bW : Binds K fdW ["truth", "answered"] []) (mW : mg "want" = some (.ref fW))
    (GA : FnOk P w K mg base CX0 1 fA fdA ["least", "greatest"] spAreWinds) (kA : PySem.W.keepIn K (.ref fA) = true) (bA : Binds K fdA ["least", "greatest"] []) (mA : mg "are_winds" = some (.ref fA))
    (GS : FnOk P w K mg base CX0 1 fS fdS ["self", "least", "greatest", "price"] (spSailInit CS)) (MS : Mk K CS fS) (bS : Binds K fdS ["self", "least", "greatest", "price"] []) :
    FnOk P w K mg base (L2.CX P w) 4 f fd ["self", "least", "greatest", "price"] (spMeth CL CS CR aSail) := by
  refine F.okX scPutSail (fun vs H Q E h => ?_) (fun cdv A outer s H vs Q E hr h => ?_)
  · obtain ⟨a, L, s, ns, c, rfl, hc, _⟩ := h
    obtain ⟨x, rfl, _⟩ := aSail_inv hc
    rfl
  · obtain ⟨a, L, t, ns, c, rfl, hc, hL, O⟩ := h
    obtain ⟨x, rfl, rfl⟩ := aSail_inv hc
    obtain ⟨t1, gB⟩ := T.bad
    obtain ⟨t2, gM⟩ := T.tooMany
    obtain ⟨t3, gP⟩ := T.mostPrice
    obtain ⟨t4, gN⟩ := T.mostSails
    refine ⟨_, pss_cons (ps_expr (pe_call GW hr rfl mW kW bW .nil (E := E) (passes_call (takes_of rfl rfl rfl rfl) (fun _ _ _ _ h => h)) (by exact (pa_cons (pe_and (pe_call GA (hr.mono (by decide)) rfl mA kA bA .nil pass0 (by exact (pa_cons (pv 1) (pa_cons (pv 2) pa_nil)))) (pe_one (pe_cmpR op_le (pv 3) (pgI rfl gP) (nomark _)))) (pa_cons (pe_lst (pa_cons (pgI rfl gB) pa_nil)) pa_nil)))))
      (pss_cons (ps_expr (pe_call GW hr rfl mW kW bW .nil (E := E) (passes_call (takes_of rfl rfl rfl rfl) (fun _ _ _ _ h => h)) (by exact (pa_cons (pe_cmpR op_lt (pe_callB call_len_seq (by rfl) T.len PySem.boot_len (pa_cons (pe_fld (pv 0) rfl) pa_nil)) (pgI rfl gN) (nomark _)) (pa_cons (pe_lst (pa_cons (pgI rfl gM) pa_nil)) pa_nil)))))
      (pss_cons (ps_expr (pe_bm PySem.F.plainAttrs_list PySem.F.slot_list_append PySem.F.type_list_append mt_append (pe_fld (pv 0) rfl) (pa_cons (pe_make MS GS (hr.mono (by decide)) rfl T.gS bS .nil pass0 (by exact (pa_cons (pv 1) (pa_cons (pv 2) (pa_cons (pv 3) pa_nil))))) pa_nil)))
      (pss_one (ps_ret (pe_lst (pa_cons (pe_op op_sub (pe_callB call_len_seq (by rfl) T.len PySem.boot_len (pa_cons (pe_fld (pv 0) rfl) pa_nil)) pe_int) pa_nil)))))), ?_⟩
    obtain ⟨⟨dx, ha⟩, ⟨as, hA⟩, g⟩ := id hL
    -- the refusals
    have bad : ∀ p, H p = none → (40 < x.hi ∨ x.hi < x.lo ∨ 1000 < x.cost) → Ref CR (upd H p (.lst [V.int (-1)])) E (.ref p) := fun p hp hb H' d sm hd => by
      have es : Uw29.step t (.sail x) = (t, Uw29.ok (-1)) := if_pos hb
      rw [es] at O
      exact O.bad H' p d (Done.same hL ((same_new hp).trans sm) (sm _ _ upd_same) hp) hd
    refine ⟨_, rfl, _, rfl, x.lo, x.hi, rfl, _, rfl, ?_⟩
    by_cases cw : x.lo ≤ x.hi ∧ x.hi ≤ 40
    · refine ite_t (by rw [decide_eq_true cw.1, decide_eq_true cw.2]; rfl) ?_
      refine ⟨_, rfl, _, _, rfl, rfl, (by show 1 ≤ sizeLine; decide), fun p hp => ⟨_, _, rfl, fun ht => ?_, fun hf => bad p hp (.inr (.inr ?_))⟩⟩
      · have cp : x.cost ≤ 1000 := by
          have z : (x.cost : Int) ≤ 1000 := of_decide_eq_true ht
          omega
        have s1 : Same H (upd H p (.lst [V.int (-1)])) := same_new hp
        refine ⟨_, rfl, a, CL, dx, _, _, rfl, s1 _ _ ha, T.clL, T.nLs, lF_sails t L, L, _, rfl, .inl (.inl (.inl (s1 _ _ hA.lst))), _, _, rfl, rfl, (by show 1 ≤ sizeLine; decide), fun p2 hp2 => ⟨_, _, rfl, fun ht2 => ?_, fun hf2 => ?_⟩⟩
        · have c9 : t.sails.length < 9 := by
            have z := of_decide_eq_true ht2
            rw [hA.vlen] at z
            omega
          have es : Uw29.step t (.sail x) = ({ t with sails := t.sails ++ [x] }, Uw29.ok (t.sails.length : Nat)) :=
            (if_neg (show ¬ (40 < x.hi ∨ x.hi < x.lo ∨ 1000 < x.cost) by omega)).trans (if_neg (show ¬ 9 ≤ t.sails.length by omega))
          rw [es] at O
          have s2 := s1.trans (same_new (o := .lst [V.int (-5)]) hp2)
          have aL : a ≠ L := ne_of ha hA.lst (by intro z; cases z)
          refine ⟨_, rfl, a, CL, dx, _, _, rfl, s2 _ _ ha, T.clL, T.nLs, lF_sails t L, .inl ⟨rfl, _, .inl (.inl (s2 _ _ hA.lst))⟩, ?_⟩
          refine ⟨_, rfl, _, rfl, _, rfl, fun sx sdx nx nd ne => ⟨sx, sdx, x, rfl, upd_same, fun H3 hx kp => ⟨rfl, ?_⟩⟩⟩
          have s23 := Same.made nx nd kp
          have s3 := s2.trans s23
          refine ⟨L, _, _, rfl, rfl, s3 _ _ hA.lst, ?_, ?_⟩
          · rw [hA.vlen]
            exact small1000 (by omega)
          refine ⟨_, rfl, a, CL, dx, _, _, rfl, (upd_ne aL).trans (s3 _ _ ha), T.clL, T.nLs, lF_sails t L, L, _, rfl, .inl (.inl (.inl upd_same)), _, _, rfl, rfl, (by show 1 ≤ sizeLine; decide), fun r hr0 => ?_⟩
          have nar : a ≠ r := ne_of_none (o := .ins CL dx (lF t L)) ((upd_ne aL).trans (s3 _ _ ha)) hr0
          have nLr : L ≠ r := ne_of_none (o := .lst _) upd_same hr0
          have nsL : ∀ {b z}, SailAt CS H3 b z → b ≠ L := fun ⟨_, e⟩ => ne_of e (s3 _ _ hA.lst) (by intro z; cases z)
          have s4 : ∀ b o, H3 b = some o → b ≠ L → upd (upd H3 L (.lst (as.map V.ref ++ [V.ref sx]))) r (.lst [V.int (((as.map V.ref ++ [V.ref sx]).length : Nat) - 1)]) b = some o := fun b o e hb => by
            have nbr : b ≠ r := ne_of_none (o := o) ((upd_ne hb).trans e) hr0
            rw [upd_ne nbr, upd_ne hb]
            exact e
          refine O.good _ r ⟨⟨L, ⟨⟨dx, s4 a _ (s3 _ _ ha) aL⟩, ?_, ⟨g.hi, g.le, ?_⟩⟩, .inl rfl⟩, ?_, s3.free (by rw [upd_ne nLr.symm] at hr0; exact hr0), fun b o e _ hb => s4 b o (s3 _ _ e) hb⟩
          · refine sails_snoc (H := H3) (x := sx) (hA.same s3) (fun b z hz => ?_) ?_ ((upd_ne nLr).trans upd_same)
            · obtain ⟨d, e⟩ := id hz
              exact ⟨d, s4 b _ e (nsL hz)⟩
            · obtain ⟨d, e⟩ := id hx
              exact ⟨d, s4 sx _ e (nsL hx)⟩
          · show (t.sails ++ [x]).length ≤ 9
            rw [List.length_append, List.length_singleton]
            omega
          · rw [upd_same]
            show some (HO.lst [V.int (((as.map V.ref ++ [V.ref sx]).length : Int) - 1)]) = some (HO.lst [V.int ((t.sails.length : Nat) : Int)])
            have e : ((as.map V.ref ++ [V.ref sx]).length : Int) - 1 = ((t.sails.length : Nat) : Int) := by
              rw [List.length_append, hA.vlen, List.length_singleton]
              omega
            rw [e]
        · have es : Uw29.step t (.sail x) = (t, Uw29.ok (-5)) := by
            have z := of_decide_eq_false hf2
            rw [hA.vlen] at z
            exact (if_neg (show ¬ (40 < x.hi ∨ x.hi < x.lo ∨ 1000 < x.cost) by omega)).trans (if_pos (show 9 ≤ t.sails.length by omega))
          rw [es] at O
          exact fun H' d sm hd => O.bad H' p2 d (Done.same hL ((s1.trans (same_new hp2)).trans sm) (sm _ _ upd_same) (s1.free hp2)) hd
      · have z : ¬ (x.cost : Int) ≤ 1000 := of_decide_eq_false hf
        omega
    · refine ite_f (by
        rw [Bool.and_eq_false_iff, decide_eq_false_iff_not, decide_eq_false_iff_not]
        omega) ?_
      exact ⟨(by show 1 ≤ sizeLine; decide), fun p hp => ⟨_, _, rfl, fun ht => (by cases ht), fun hf => bad p hp (by omega)⟩⟩
end
end Sw
set_option Elab.async false
set_option linter.all false
set_option maxRecDepth 100000
set_option maxHeartbeats 2000000
/-! Loft: check. -/
namespace Sw
open PySem PySem.Spec PyProof.Rows L2
theorem find_at {p : Nat → Bool} : ∀ {l : List Nat} {i x : Nat}, l[i]? = some x → p x = true → (∀ y ∈ l.take i, p y = false) → l.find? p = some x
  | [], i, x, h, _, _ => by simp at h
  | a :: r, 0, x, h, hx, _ => by
    have e : a = x := Option.some.inj h
    subst e
    rw [List.find?_cons, hx]
  | a :: r, i + 1, x, h, hx, hn => by
    have ha : p a = false := hn a (by rw [List.take_succ_cons]; exact List.mem_cons_self)
    rw [List.find?_cons, ha]
    exact find_at (l := r) (i := i) h hx fun y hy => hn y (by rw [List.take_succ_cons]; exact List.mem_cons_of_mem _ hy)
theorem find_no {p : Nat → Bool} {l : List Nat} (h : ∀ y ∈ l, p y = false) : l.find? p = none := by
  rw [List.find?_eq_none]
  intro y hy
  rw [h y hy]
  exact Bool.false_ne_true
theorem nums_len {q n : Nat} : (numsIn q n).length ≤ n := by
  unfold numsIn
  exact Nat.le_trans (List.length_filter_le _ _) (Nat.le_of_eq List.length_range)
/-- the chosen sails' list -/
theorem chosen_at {C : Addr} {H H' : Hp} {l m : Addr} {as : List Addr} {ss : List Uw29.Sail} {q : Nat} (hA : SailsOf C H l as ss) (s : Same H H') (e : H' m = some (.lst ((numsIn q ss.length).map fun n => V.ref (as.getD n 0)))) : SailsOf C H' m ((numsIn q ss.length).map fun n => as.getD n 0) (chosen ss q) := by
  refine ⟨by rw [List.map_map]; exact e, by unfold chosen; rw [List.length_map, List.length_map], fun i a ha => ?_⟩
  rw [List.getElem?_map] at ha
  cases hn : (numsIn q ss.length)[i]? with
  | none => rw [hn] at ha; cases ha
  | some n =>
    rw [hn] at ha
    have ha' : as.getD n 0 = a := Option.some.inj ha
    have hnl : n < ss.length := mem_nums (List.mem_of_getElem? hn)
    obtain ⟨b, hb, _, hx⟩ := hA.get hnl
    have hb' : as.getD n 0 = b := by rw [List.getD_eq_getElem?_getD, hb]; rfl
    have hc : (chosen ss q).getD i noSail = ss.getD n noSail := by
      unfold chosen
      rw [List.getD_eq_getElem?_getD, List.getElem?_map, hn]; rfl
    rw [hc, ← ha', hb']
    exact hx.same s
theorem shl_lt (q n : Nat) : decide ((q : Int) < 1 * 2 ^ ((n : Nat) : Int).toNat) = decide (q < 2 ^ n) := by
  rw [shl_val, dec_lt]
section
variable {P : Program} {w : World} {K : PySem.W.Frag} {mg : Str → Option Value} {base : Heap} {CS CL CR : Addr}
theorem ok_check {f fW fN fD fT : Addr} {fd fdW fdN fdD fdT : FuncData} (F : Fun K "check" "Loft.check" sCheck f fd) (T : Txt K mg CS CL CR)
    (GW : FnOk P w K mg base (L2.CX P w) 3 fW fdW ["truth", "answered"] (spWant CR)) (kW : PySem.W.keepIn K (.ref fW) = true) (bW : Binds K fdW ["truth", "answered"] []) (mW : mg "want" = some (.ref fW))
    (GN : FnOk P w K mg base CX0 2 fN fdN ["chosen", "many"] spNumsIn) (kN : PySem.W.keepIn K (.ref fN) = true) (bN : Binds K fdN ["chosen", "many"] []) (mN : mg "numbers_in" = some (.ref fN))
    (GD : FnOk P w K mg base CX0 1 fD fdD ["self"] (spWinds CL CS)) (bD : Binds K fdD ["self"] []) (mD : Meth K CL "winds" fD)
    (GT : FnOk P w K mg base CX0 2 fT fdT ["sails", "wind"] (spStanding CS)) (kT : PySem.W.keepIn K (.ref fT) = true) (bT : Binds K fdT ["sails", "wind"] []) (mT : mg "standing" = some (.ref fT)) :
    FnOk P w K mg base (L2.CX P w) 4 f fd ["self", "k", "chosen"] (spMeth CL CS CR aCheck) := by
  refine F.okX scCheck (fun vs H Q E h => ?_) (fun cdv A outer s H vs Q E hr h => ?_)
  · obtain ⟨a, L, s, ns, c, rfl, hc, _⟩ := h
    obtain ⟨x, y, rfl, _⟩ := aCheck_inv hc
    rfl
  · obtain ⟨a, L, t, ns, c, rfl, hc, hL, O⟩ := h
    obtain ⟨k, q, rfl, rfl⟩ := aCheck_inv hc
    obtain ⟨t1, gB⟩ := T.bad
    obtain ⟨t2, gK⟩ := T.lacking
    obtain ⟨t3, gM⟩ := T.mostTimes
    refine ⟨_, pss_cons (ps_expr (pe_call GW hr rfl mW kW bW .nil (E := E) (passes_call (takes_of rfl rfl rfl rfl) (fun _ _ _ _ h => h)) (by exact (pa_cons (pe_and (pe_cmpR op_le (pv 1) (pgI rfl gM) (nomark _)) (pe_one (pe_cmpR op_lt (pv 2) (pe_op op_shl pe_int (pe_callB call_len_seq (by rfl) T.len PySem.boot_len (pa_cons (pe_fld (pv 0) rfl) pa_nil))) (nomark _)))) (pa_cons (pe_lst (pa_cons (pgI rfl gB) pa_nil)) pa_nil)))))
      (pss_cons (ps_setLc (i := 3) (own := [("number", 6)]) (g := gName 6) (tt := tYes) (te := tOp (rIxL K) (tFld K (tVar 0) "sails") (tVar 6)) rfl scCheck.nd rfl rfl (sw_true rfl rfl rfl (by decide +kernel))
          (pi_list (pe_call GN (hr.mono (by decide)) rfl mN kN bN .nil pass0 (by exact (pa_cons (pv 2) (pa_cons (pe_callB call_len_seq (by rfl) T.len PySem.boot_len (pa_cons (pe_fld (pv 0) rfl) pa_nil)) pa_nil)))))
          (blkOk_by (own := [("number", 6)]) (N := ["self", "k", "chosen", "some", "wind", "many", "number", "sail"]) (sc := defScope sCheck) (by decide +kernel))
          (fun _ _ _ _ _ => pg_name (i := 6) scCheck.nd rfl (Or.inl rfl)) (fun _ _ _ _ _ => pts_nil)
          (fun _ _ _ _ _ => by exact pe_ix ix_list (pe_fld (pv 0) rfl) (pv 6) (fun _ _ => rfl)))
      (pss_cons (ps_for (passes_of rfl) rfl (pi_list (pe_meth0 (pv 0) T.clL mD GD (hr.mono (by decide)) bD .nil pass0)) (pg_name (i := 4) scCheck.nd rfl (Or.inl rfl))
          (pss_cons (ps_set (i := 5) scCheck.nd rfl (Or.inl rfl) (pe_callB call_len_seq (by rfl) T.len PySem.boot_len (pa_cons (pe_call GT (hr.mono (by decide)) rfl mT kT bT .nil pass0 (by exact (pa_cons (pv 3) (pa_cons (pv 4) pa_nil)))) pa_nil)))
          (pss_one (ps_expr (pe_call GW hr rfl mW kW bW .nil (E := E) (passes_call (takes_of rfl rfl rfl rfl) (fun _ _ _ _ h => h)) (by exact (pa_cons (pe_cmpR op_ge (pv 5) (pv 1) (nomark _)) (pa_cons (pe_lst (pa_cons (pgI rfl gK) (pa_cons (pv 4) (pa_cons (pv 5) pa_nil)))) pa_nil))))))))
      (pss_one (ps_ret (pe_lst (pa_cons (pe_callB (cr_sum rfl) (by rfl) T.sum (by decide +kernel) (pa_cons (pe_lc (own := [("sail", 7)]) (g := gName 7) (tt := tYes) (te := tFld K (tVar 7) "price") (by rfl) scCheck.nd (pi_list (pv 3))
          (blkOk_by (own := [("sail", 7)]) (N := ["self", "k", "chosen", "some", "wind", "many", "number", "sail"]) (sc := defScope sCheck) (by decide +kernel))
          (fun _ _ _ _ _ => pg_name (i := 7) scCheck.nd rfl (Or.inl rfl)) (fun _ _ _ _ _ => pts_nil) (fun _ _ _ _ _ => by exact pe_fld (pv 7) rfl)) pa_nil))
        (pa_cons (pe_callB call_len_seq (by rfl) T.len PySem.boot_len (pa_cons (pv 3) pa_nil)) pa_nil))))))), ?_⟩
    obtain ⟨⟨dx, ha⟩, ⟨as, hA⟩, g⟩ := id hL
    have h9 := g.few
    have bad : ∀ p, H p = none → (3 < k ∨ 2 ^ t.sails.length ≤ q) → Ref CR (upd H p (.lst [V.int (-1)])) E (.ref p) := fun p hp hb H' d sm hd => by
      have es : Uw29.step t (.check k q) = (t, Uw29.ok (-1)) := if_pos hb
      rw [es] at O
      exact O.bad H' p d (Done.same hL ((same_new hp).trans sm) (sm _ _ upd_same) hp) hd
    refine ⟨_, rfl, _, _, rfl, rfl, _, rfl, ?_⟩
    by_cases ck : k ≤ 3
    · refine ite_t (decide_eq_true (by show (k : Int) ≤ 3; omega)) ?_
      refine ⟨_, rfl, _, rfl, a, CL, dx, _, _, rfl, ha, T.clL, T.nLs, lF_sails t L, L, _, rfl, .inl hA.sq, _, _, rfl, rfl, ⟨by omega, by rw [hA.vlen]; omega, by decide⟩, _, _, rfl, rfl, (by show 1 ≤ sizeLine; decide), fun p hp => ⟨_, _, rfl, fun ht => ?_, fun hf => bad p hp (.inr ?_)⟩⟩
      · have cq : q < 2 ^ t.sails.length := by
          rw [hA.vlen] at ht
          exact of_decide_eq_true ((shl_lt q t.sails.length).symm.trans ht)
        have es : Uw29.step t (.check k q) = (t, match t.gap k q with
            | some w => ⟨-6, [w, t.many q w]⟩
            | none => ⟨(t.cost q : Nat), [(t.members q).length]⟩) := if_neg (show ¬ (3 < k ∨ 2 ^ t.sails.length ≤ q) by omega)
        rw [es] at O
        have s1 : Same H (upd H p (.lst [V.int (-1)])) := same_new hp
        -- some = ..
        refine ⟨_, rfl, _, rfl, a, CL, dx, _, _, rfl, s1 _ _ ha, T.clL, T.nLs, lF_sails t L, L, _, rfl, .inl (hA.same s1).sq, q, t.sails.length, ?_, h9, fun H2 pn s2 hpn en => ?_⟩
        · rw [hA.vlen]; rfl
        refine ⟨pn, rfl, ⟨_, en.sq⟩, fun D hD => ?_⟩
        have s12 := s1.trans s2
        refine lc_list (K := K) (a := pn) (xs := vI (numsIn q t.sails.length)) (fun i H' => Same H2 H' ∧ H' D = some (.lst (((numsIn q t.sails.length).take i).map fun n => V.ref (as.getD n 0)))) ⟨same_new hD, upd_same⟩ (fun i H' _ hp => (en.same hp.1).sq) ?_ ?_
        · rintro i x H3 hi ⟨s3, e3⟩
          obtain ⟨n, hn, rfl⟩ := vI_inv hi
          have hnl := mem_nums (List.mem_of_getElem? hn)
          have hAx := hA.same (s12.trans s3)
          obtain ⟨b, hb, hbv, _⟩ := hA.get hnl
          refine ⟨rfl, _, rfl, a, CL, dx, _, _, rfl, (s12.trans s3) _ _ ha, T.clL, T.nLs, lF_sails t L, _, rfl, L, _, n, .ref b, rfl, rfl, hAx.sq, atI_nat hbv, _, e3, ?_, grow hD s3, ?_⟩
          · rw [List.length_map, List.length_take]
            have := nums_len (q := q) (n := t.sails.length)
            exact small1000 (by omega)
          · have hb' : as.getD n 0 = b := by rw [List.getD_eq_getElem?_getD, hb]; rfl
            rw [upd_same, List.take_add_one, hn, ← hb', List.map_append]; rfl
        · rintro H3 ⟨s3, e3⟩
          rw [vI_length, List.take_length] at e3
          have s13 := s12.trans s3
          have hC := chosen_at hA s13 e3
          have hClen : (chosen t.sails q).length ≤ 9 := by
            unfold chosen
            rw [List.length_map]
            exact Nat.le_trans nums_len h9
          -- for wind in self.winds()
          refine ⟨_, rfl, a, dx, _, rfl, s13 _ _ ha, lF_none t L (by decide +kernel) (by decide +kernel) (by decide +kernel), a, L, t, rfl, hL.same s13, fun H4 pw s4 hpw ew => ?_⟩
          have s14 := s13.trans s4
          refine ⟨pw, rfl, ⟨_, ew.sq⟩, for_list (K := K) (a := pw) (xs := vI t.winds) (fun i σ H' => ∃ v4 v5 : Option V, σ = [some (.ref a), some (.int (k : Nat)), some (.int (q : Nat)), some (.ref D), v4, v5, none, none] ∧ Same H4 H' ∧ ∀ y ∈ t.winds.take i, decide (t.many q y < k) = false)
            ⟨none, none, rfl, fun _ _ e => e, fun y hy => (by simp at hy)⟩ (fun i σ H' _ ⟨_, _, _, s5, _⟩ => (ew.same s5).sq) ?_ ?_⟩
          · rintro i y σ H5 hi ⟨v4, v5, rfl, s5, hno⟩
            obtain ⟨n, hn, rfl⟩ := vI_inv hi
            have s45 := s4.trans s5
            refine ⟨_, rfl, _, rfl, D, chosen t.sails q, n, rfl, ⟨_, hC.same s45⟩, hClen, fun H6 ps s6 hps es6 => ?_⟩
            refine ⟨ps, _, rfl, .inl es6.sq, ?_⟩
            have hmany : ((vI (standL (chosen t.sails q) n)).length : Int) = ((t.many q n : Nat) : Int) := by rw [vI_length, chosen_many]
            refine ⟨_, rfl, _, rfl, _, _, rfl, rfl, _, rfl, _, rfl, (by show 3 ≤ sizeLine; decide), fun r hr0 => ⟨_, _, rfl, fun ht2 => ?_, fun hf2 => ?_⟩⟩
            · refine ⟨_, _, rfl, (s5.trans s6).trans (same_new hr0), fun y hy => ?_⟩
              rw [List.take_add_one, hn] at hy
              rcases List.mem_append.mp hy with h | h
              · exact hno y h
              · have e : y = n := List.mem_singleton.mp h
                subst e
                have z := of_decide_eq_true ht2
                rw [hmany] at z
                exact decide_eq_false (by omega)
            · have z := of_decide_eq_false hf2
              rw [hmany] at z
              have hg : t.gap k q = some n := find_at hn (decide_eq_true (by omega)) hno
              rw [hg] at O
              have s16 := ((s14.trans s5).trans s6).trans (same_new (o := .lst [V.int (-6), V.int (n : Nat), V.int ((vI (standL (chosen t.sails q) n)).length : Nat)]) hr0)
              intro H' d sm hd
              refine O.bad H' r d (Done.same hL (s16.trans sm) (sm _ _ ?_) (((s14.trans s5).trans s6).free hr0)) hd
              rw [upd_same]
              exact congrArg (fun z => some (HO.lst [V.int (-6), V.int (n : Nat), V.int z])) hmany
          · rintro σ H5 ⟨v4, v5, rfl, s5, hno⟩
            rw [vI_length, List.take_length] at hno
            have hg : t.gap k q = none := find_no hno
            rw [hg] at O
            have s45 := s4.trans s5
            have hC5 := hC.same s45
            refine ⟨_, rfl, D, rfl, ⟨_, hC5.sq⟩, fun D2 hD2 => ?_⟩
            refine lc_list (K := K) (a := D) (xs := ((numsIn q t.sails.length).map fun n => as.getD n 0).map V.ref) (fun i H' => Same H5 H' ∧ LAt H' D2 (((chosen t.sails q).take i).map fun x => x.cost)) ⟨same_new hD2, upd_same⟩ (fun i H' _ hp => (hC5.same hp.1).sq) ?_ ?_
            · rintro i x H6 hi ⟨s6, e6⟩
              obtain ⟨b, rfl, hb, dxb, hx⟩ := (hC5.same s6).item hi
              have hil : i < (chosen t.sails q).length := by
                rw [← hC5.len]
                exact (List.getElem?_eq_some_iff.mp hb).1
              refine ⟨rfl, _, rfl, b, CS, dxb, _, _, rfl, hx, T.clS, T.nSp, sF_price _, _, e6, ?_, grow hD2 s6, ?_⟩
              · rw [vI_length, List.length_map, List.length_take]
                exact small1000 (by omega)
              · show _ = some (HO.lst (vI _))
                rw [upd_same, List.take_add_one, List.map_append, vI_append, List.getD_eq_getElem?_getD, List.getElem?_eq_getElem hil]; rfl
            · rintro H6 ⟨s6, e6⟩
              rw [hC5.vlen, List.take_length] at e6
              refine ⟨D2, nI ((chosen t.sails q).map fun x => x.cost), rfl, e6.sq, ?_⟩
              refine ⟨_, rfl, D, _, rfl, .inl (hC5.same s6).sq, (by show 2 ≤ sizeLine; decide), fun r hr0 => ?_⟩
              refine O.good _ r (Done.same hL ((s14.trans (s5.trans s6)).trans (same_new hr0)) ?_ ((s14.trans (s5.trans s6)).free hr0))
              rw [upd_same]
              have e1 : (nI ((chosen t.sails q).map fun x => x.cost)).sum = ((t.cost q : Nat) : Int) := by rw [nI_sum, chosen_cost]
              have e2 : ((((numsIn q t.sails.length).map fun n => as.getD n 0).map V.ref).length : Int) = (((t.members q).length : Nat) : Int) := by rw [hC5.vlen, chosen_len]
              rw [e1, e2]; rfl
      · rw [hA.vlen] at hf
        have z := of_decide_eq_false ((shl_lt q t.sails.length).symm.trans hf)
        omega
    · refine ite_f (decide_eq_false (by show ¬ (k : Int) ≤ 3; omega)) ?_
      exact ⟨(by show 1 ≤ sizeLine; decide), fun p hp => ⟨_, _, rfl, fun ht => (by cases ht), fun hf => bad p hp (.inl (by omega))⟩⟩
end
end Sw
set_option Elab.async false
set_option linter.all false
set_option maxRecDepth 100000
set_option maxHeartbeats 2000000
/-! Loft: best, fewest. -/
namespace Sw
open PySem PySem.Spec PyProof.Rows L2
/-- a list of numbers as data -/
def pdL (l : List Nat) : List PyData := l.map fun (n : Nat) => PyData.int (n : Int)
theorem pdL_lay : ∀ l, PyData.canLayAll0 (pdL l) = true ∧ PyData.depthAll (pdL l) = 0
  | [] => by simp [pdL, PyData.canLayAll0, PyData.depthAll]
  | a :: r => by
    obtain ⟨h1, h2⟩ := pdL_lay r
    have e : pdL (a :: r) = PyData.int (a : Int) :: pdL r := rfl
    rw [e]
    simp [PyData.canLayAll0, PyData.depthAll, PyData.canLay0, PyData.depth, h1, h2]
theorem pdL_shaped (l : List Nat) : SeqAt.shaped (.list (pdL l)) = true := by
  obtain ⟨h1, h2⟩ := pdL_lay l
  unfold SeqAt.shaped
  simp [PyData.canLay0, PyData.depth, h1, h2]
theorem pdL_dp {K : PySem.W.Frag} {H : Hp} : ∀ l, DpAll K H (vI l) (pdL l)
  | [] => .nil
  | _ :: r => .cons (.int _) (pdL_dp r)
theorem pdL_ne (l : List Nat) : (!PyData.eqv (.list (pdL l)) (.list (pdL []))) = !l.isEmpty := by
  cases l with
  | nil => simp [pdL, PyData.eqv, PyData.eqvAll]
  | cons a r => simp [pdL, PyData.eqv, PyData.eqvAll]
theorem lat_dp {K : PySem.W.Frag} {H : Hp} {p : Addr} {l : List Nat} (h : LAt H p l) : Dp K H (.ref p) (.list (pdL l)) := .lst h.sq (pdL_dp l)
section
variable {P : Program} {w : World} {K : PySem.W.Frag} {mg : Str → Option Value} {base : Heap} {CS CL CR : Addr}
theorem ok_best {f fW fN fD fB : Addr} {fd fdW fdN fdD fdB : FuncData} (F : Fun K "best" "Loft.best" sBest f fd) (T : Txt K mg CS CL CR)
    (GW : FnOk P w K mg base (L2.CX P w) 3 fW fdW ["truth", "answered"] (spWant CR)) (kW : PySem.W.keepIn K (.ref fW) = true) (bW : Binds K fdW ["truth", "answered"] []) (mW : mg "want" = some (.ref fW))
    (GN : FnOk P w K mg base CX0 2 fN fdN ["chosen", "many"] spNumsIn) (kN : PySem.W.keepIn K (.ref fN) = true) (bN : Binds K fdN ["chosen", "many"] []) (mN : mg "numbers_in" = some (.ref fN))
    (GD : FnOk P w K mg base CX0 1 fD fdD ["self"] (spWinds CL CS)) (bD : Binds K fdD ["self"] []) (mD : Meth K CL "winds" fD)
    (GB : FnOk P w K mg base CX0 5 fB fdB ["sails", "winds", "k"] (spBestSets CS)) (kB : PySem.W.keepIn K (.ref fB) = true) (bB : Binds K fdB ["sails", "winds", "k"] []) (mB : mg "best_sets" = some (.ref fB)) :
    FnOk P w K mg base (L2.CX P w) 6 f fd ["self", "k"] (spMeth CL CS CR aBest) := by
  refine F.okX scBest (fun vs H Q E h => ?_) (fun cdv A outer s H vs Q E hr h => ?_)
  · obtain ⟨a, L, s, ns, c, rfl, hc, _⟩ := h
    obtain ⟨x, rfl, _⟩ := aBest_inv hc
    rfl
  · obtain ⟨a, L, t, ns, c, rfl, hc, hL, O⟩ := h
    obtain ⟨k, rfl, rfl⟩ := aBest_inv hc
    obtain ⟨t1, gB⟩ := T.bad
    obtain ⟨t2, gK⟩ := T.lacking
    obtain ⟨t3, gM⟩ := T.mostTimes
    have hu : A.units + 100 < cLine := by
      have z : A.units + 3 + 16 * 5 + 200 < cLine := hr.un
      omega
    refine ⟨_, pss_cons (ps_expr (pe_call GW (hr.mono (by decide)) rfl mW kW bW .nil (E := E) (passes_call (takes_of rfl rfl rfl rfl) (fun _ _ _ _ h => h)) (by exact (pa_cons (pe_cmpR op_le (pv 1) (pgI rfl gM) (nomark _)) (pa_cons (pe_lst (pa_cons (pgI rfl gB) pa_nil)) pa_nil)))))
      (pss_cons (ps_set (i := 2) scBest.nd rfl (Or.inl rfl) (pe_call GB hr rfl mB kB bB .nil pass0 (by exact (pa_cons (pe_fld (pv 0) rfl) (pa_cons (pe_meth0 (pv 0) T.clL mD GD (hr.mono (by decide)) bD .nil pass0) (pa_cons (pv 1) pa_nil))))))
      (pss_cons (ps_expr (pe_call GW (hr.mono (by decide)) rfl mW kW bW .nil (E := E) (passes_call (takes_of rfl rfl rfl rfl) (fun _ _ _ _ h => h)) (by exact (pa_cons (pe_cmpR (op_neD (by show A.units + 3 + 64 < cLine; omega)) (pv 2) (pe_lst pa_nil) (nomark _)) (pa_cons (pe_lst (pa_cons (pgI rfl gK) pa_nil)) pa_nil)))))
      (pss_cons (ps_set (i := 3) scBest.nd rfl (Or.inl rfl) (pe_call GN (hr.mono (by decide)) rfl mN kN bN .nil pass0 (by exact (pa_cons (pe_ix ix_list (pv 2) pe_int (fun _ _ => rfl)) (pa_cons (pe_callB call_len_seq (by rfl) T.len PySem.boot_len (pa_cons (pe_fld (pv 0) rfl) pa_nil)) pa_nil)))))
      (pss_one (ps_ret (pe_lst (pa_cons (pe_callB (cr_sum rfl) (by rfl) T.sum (by decide +kernel) (pa_cons (pe_lc (own := [("number", 4)]) (g := gName 4) (tt := tYes) (te := tFld K (tOp (rIxL K) (tFld K (tVar 0) "sails") (tVar 4)) "price") (by rfl) scBest.nd (pi_list (pv 3))
          (blkOk_by (own := [("number", 4)]) (N := ["self", "k", "found", "some", "number"]) (sc := defScope sBest) (by decide +kernel))
          (fun _ _ _ _ _ => pg_name (i := 4) scBest.nd rfl (Or.inl rfl)) (fun _ _ _ _ _ => pts_nil) (fun _ _ _ _ _ => by exact pe_fld (pe_ix ix_list (pe_fld (pv 0) rfl) (pv 4) (fun _ _ => rfl)) rfl)) pa_nil))
        (pa_cons (pe_callB call_len_seq (by rfl) T.len PySem.boot_len (pa_cons (pv 3) pa_nil)) (pa_cons (pe_callB call_len_seq (by rfl) T.len PySem.boot_len (pa_cons (pv 2) pa_nil)) (pa_cons (pe_ix ix_list (pv 2) pe_int (fun _ _ => rfl)) pa_nil)))))))))), ?_⟩
    obtain ⟨⟨dx, ha⟩, ⟨as, hA⟩, g⟩ := id hL
    have h9 := g.few
    refine ⟨_, rfl, _, _, rfl, rfl, (by show 1 ≤ sizeLine; decide), fun p hp => ⟨_, _, rfl, fun ht => ?_, fun hf => ?_⟩⟩
    · have ck : k ≤ 3 := by
        have z : (k : Int) ≤ 3 := of_decide_eq_true ht
        omega
      have es : Uw29.step t (.best k) = (t, match t.best k with
          | none => Uw29.ok (-6)
          | some b => ⟨(b.cost : Nat), [b.size, b.many, b.set_]⟩) := if_neg (show ¬ 3 < k by omega)
      rw [es] at O
      have s1 : Same H (upd H p (.lst [V.int (-1)])) := same_new hp
      refine ⟨_, rfl, a, CL, dx, _, _, rfl, s1 _ _ ha, T.clL, T.nLs, lF_sails t L, _, rfl, a, dx, _, rfl, s1 _ _ ha, lF_none t L (by decide +kernel) (by decide +kernel) (by decide +kernel), a, L, t, rfl, hL.same s1, fun H2 pw s2 hpw ew => ?_⟩
      have s12 := s1.trans s2
      refine ⟨_, rfl, L, pw, t, k, rfl, ⟨as, hA.same s12⟩, g, ew, fun H3 pf s3 hpf ef => ?_⟩
      have s13 := s12.trans s3
      -- want(found != [], ..)
      refine ⟨_, rfl, Nat.zero_le _, fun p0 hp0 => ?_⟩
      have s4 : Same H3 (upd H3 p0 (.lst [])) := same_new hp0
      refine ⟨.list (pdL (bestSets t k)), .list (pdL []), lat_dp (ef.same s4), lat_dp (l := []) upd_same, pdL_shaped _, pdL_shaped [], (by show 1 ≤ sizeLine; decide), fun p5 hp5 => ?_⟩
      have s5 := (s13.trans s4).trans (same_new (o := .lst [V.int (-6)]) hp5)
      have s35 := s4.trans (same_new (o := .lst [V.int (-6)]) hp5)
      refine ⟨_, _, rfl, fun ht2 => ?_, fun hf2 => ?_⟩
      · rw [pdL_ne] at ht2
        obtain ⟨q, r, eb⟩ : ∃ q r, bestSets t k = q :: r := by
          cases e : bestSets t k with
          | nil => rw [e] at ht2; cases ht2
          | cons q r => exact ⟨q, r, rfl⟩
        rw [best_some t k q r eb] at O
        have ef5 := ef.same s35
        have e0 : (bestSets t k)[0]? = some q := by rw [eb]; rfl
        refine ⟨_, rfl, pf, _, 0, V.int (q : Nat), rfl, rfl, ef5.sq, atI_nat (j := 0) (vI_get e0), ?_⟩
        refine ⟨_, rfl, a, CL, dx, _, _, rfl, s5 _ _ ha, T.clL, T.nLs, lF_sails t L, L, _, rfl, .inl (hA.same s5).sq, q, t.sails.length, ?_, h9, fun H6 pn s6 hpn en => ?_⟩
        · rw [hA.vlen]; rfl
        have s56 := s5.trans s6
        -- return [..]
        refine ⟨_, rfl, pn, rfl, ⟨_, en.sq⟩, fun D hD => ?_⟩
        refine lc_list (K := K) (a := pn) (xs := vI (numsIn q t.sails.length)) (fun i H' => Same H6 H' ∧ LAt H' D (((numsIn q t.sails.length).take i).map fun i => (t.sails.getD i noSail).cost)) ⟨same_new hD, upd_same⟩ (fun i H' _ hp => (en.same hp.1).sq) ?_ ?_
        · rintro i x H7 hi ⟨s7, e7⟩
          obtain ⟨n, hn, rfl⟩ := vI_inv hi
          have hnl := mem_nums (List.mem_of_getElem? hn)
          have s57 := s56.trans s7
          obtain ⟨b, hb, hbv, dxb, hx⟩ := (hA.same s57).get hnl
          refine ⟨rfl, _, rfl, a, CL, dx, _, _, rfl, s57 _ _ ha, T.clL, T.nLs, lF_sails t L, _, rfl, L, _, n, .ref b, rfl, rfl, (hA.same s57).sq, atI_nat hbv, b, CS, dxb, _, _, rfl, hx, T.clS, T.nSp, sF_price _, _, e7, ?_, grow hD s7, ?_⟩
          · have := nums_len (q := q) (n := t.sails.length)
            exact Nat.lt_of_le_of_lt (vI_take_len _ _ _) (small1000 (by omega))
          · show _ = some (HO.lst (vI _))
            rw [upd_same, vI_more _ hn]
        · rintro H7 ⟨s7, e7⟩
          rw [vI_length, List.take_length] at e7
          refine ⟨D, nI ((numsIn q t.sails.length).map fun i => (t.sails.getD i noSail).cost), rfl, e7.sq, ?_⟩
          refine ⟨_, rfl, pn, _, rfl, .inl (en.same s7).sq, _, rfl, pf, _, rfl, .inl ((ef5.same s6).same s7).sq, _, rfl, pf, _, 0, V.int (q : Nat), rfl, rfl, ((ef5.same s6).same s7).sq, atI_nat (j := 0) (vI_get e0), (by show 4 ≤ sizeLine; decide), fun r hr0 => ?_⟩
          refine O.good _ r (Done.same hL ((s56.trans s7).trans (same_new hr0)) ?_ ((s56.trans s7).free hr0))
          rw [upd_same]
          have e1 : (nI ((numsIn q t.sails.length).map fun i => (t.sails.getD i noSail).cost)).sum = ((t.cost q : Nat) : Int) := by
            rw [nI_sum, ← cost_eq]; rfl
          rw [e1, vI_length, vI_length]; rfl
      · rw [pdL_ne] at hf2
        have eb : bestSets t k = [] := by
          cases e : bestSets t k with
          | nil => rfl
          | cons q r => rw [e] at hf2; cases hf2
        rw [best_none t k eb] at O
        exact fun H' d sm hd => O.bad H' p5 d (Done.same hL (s5.trans sm) (sm _ _ upd_same) ((s13.trans s4).free hp5)) hd
    · have es : Uw29.step t (.best k) = (t, Uw29.ok (-1)) := if_pos (by
        have z : ¬ (k : Int) ≤ 3 := of_decide_eq_false hf
        omega)
      rw [es] at O
      exact fun H' d sm hd => O.bad H' p d (Done.same hL ((same_new hp).trans sm) (sm _ _ upd_same) hp) hd
end
end Sw
set_option Elab.async false
set_option linter.all false
set_option maxRecDepth 100000
set_option maxHeartbeats 2000000
/-! Loft: fewest; told, answer. -/
namespace Sw
open PySem PySem.Spec PyProof.Rows L2
theorem plain_few (t : Uw29.Loft) : t.plain = few t (t.hi + 1) t.lo [] := by
  unfold few Uw29.Loft.plain
  cases t.plainFrom (t.hi + 1) t.lo <;> rfl
theorem step_fewest_ok {t : Uw29.Loft} {l : List Nat} (h : t.plain = .ok l) : Uw29.step t .fewest = (t, ⟨(l.length : Nat), l⟩) := by
  show (t, match t.plain with | .error w => _ | .ok l => _) = _
  rw [h]
theorem step_fewest_no {t : Uw29.Loft} {n : Nat} (h : t.plain = .error n) : Uw29.step t .fewest = (t, ⟨-6, [n]⟩) := by
  show (t, match t.plain with | .error w => _ | .ok l => _) = _
  rw [h]
/-- how far the wind is from the end -/
def muF (t : Uw29.Loft) (σ : L2.St) (_ : Hp) : Nat := match (σ[2]? : Option (Option V)) with
  | some (some (V.int z)) => t.hi + 1 - z.toNat
  | _ => 0
section
variable {P : Program} {w : World} {K : PySem.W.Frag} {mg : Str → Option Value} {base : Heap} {CS CL CR : Addr}
theorem ok_fewest {f fW fT fF : Addr} {fd fdW fdT fdF : FuncData} (F : Fun K "fewest" "Loft.fewest" sFewest f fd) (T : Txt K mg CS CL CR)
    (GW : FnOk P w K mg base (L2.CX P w) 3 fW fdW ["truth", "answered"] (spWant CR)) (kW : PySem.W.keepIn K (.ref fW) = true) (bW : Binds K fdW ["truth", "answered"] []) (mW : mg "want" = some (.ref fW))
    (GT : FnOk P w K mg base CX0 2 fT fdT ["sails", "wind"] (spStanding CS)) (kT : PySem.W.keepIn K (.ref fT) = true) (bT : Binds K fdT ["sails", "wind"] []) (mT : mg "standing" = some (.ref fT))
    (GF : FnOk P w K mg base CX0 1 fF fdF ["sails", "numbers"] (spFarthest CS)) (kF : PySem.W.keepIn K (.ref fF) = true) (bF : Binds K fdF ["sails", "numbers"] []) (mF : mg "farthest" = some (.ref fF)) :
    FnOk P w K mg base (L2.CX P w) 4 f fd ["self"] (spMeth CL CS CR aFewest) := by
  refine F.okX scFewest (fun vs H Q E h => ?_) (fun cdv A outer s H vs Q E hr h => ?_)
  · obtain ⟨a, L, s, ns, c, rfl, hc, _⟩ := h
    obtain ⟨rfl, _⟩ := aFewest_inv hc
    rfl
  · obtain ⟨a, L, t, ns, c, rfl, hc, hL, O⟩ := h
    obtain ⟨rfl, rfl⟩ := aFewest_inv hc
    obtain ⟨t2, gK⟩ := T.lacking
    have hu : A.units + 100 < cLine := by
      have z : A.units + 3 + 16 * 3 + 200 < cLine := hr.un
      omega
    refine ⟨_, pss_cons (ps_set (i := 1) scFewest.nd rfl (Or.inl rfl) (pe_lst pa_nil))
      (pss_cons (ps_set (i := 2) scFewest.nd rfl (Or.inl rfl) (pe_fld (pv 0) rfl))
      (pss_cons (ps_while (passes_of rfl) (pt_cmpR op_le (pv 2) (pe_fld (pv 0) rfl) (nomark _))
        (pss_cons (ps_set (i := 3) scFewest.nd rfl (Or.inl rfl) (pe_call GT (hr.mono (by decide)) rfl mT kT bT .nil pass0 (by exact (pa_cons (pe_fld (pv 0) rfl) (pa_cons (pv 2) pa_nil)))))
        (pss_cons (ps_expr (pe_call GW hr rfl mW kW bW .nil (E := E) (passes_call (takes_of rfl rfl rfl rfl) (fun _ _ _ _ h => h)) (by exact (pa_cons (pe_cmpR (op_neD (by show A.units + 3 + 64 < cLine; omega)) (pv 3) (pe_lst pa_nil) (nomark _)) (pa_cons (pe_lst (pa_cons (pgI rfl gK) (pa_cons (pv 2) pa_nil))) pa_nil)))))
        (pss_cons (ps_expr (pe_bm PySem.F.plainAttrs_list PySem.F.slot_list_append PySem.F.type_list_append mt_append (pv 1) (pa_cons (pe_call GF (hr.mono (by decide)) rfl mF kF bF .nil pass0 (by exact (pa_cons (pe_fld (pv 0) rfl) (pa_cons (pv 3) pa_nil)))) pa_nil)))
        (pss_one (ps_set (i := 2) scFewest.nd rfl (Or.inl rfl) (pe_op op_add (pe_fld (pe_ix ix_list (pe_fld (pv 0) rfl) (pe_ix ix_list (pv 1) (pe_un un_neg pe_int) (fun _ _ => rfl)) (fun _ _ => rfl)) rfl) pe_int)))))))
      (pss_one (ps_ret (pe_op op_cat (pe_lst (pa_cons (pe_callB call_len_seq (by rfl) T.len PySem.boot_len (pa_cons (pv 1) pa_nil)) pa_nil)) (pv 1)))))), ?_⟩
    obtain ⟨⟨dx, ha⟩, ⟨as, hA⟩, g⟩ := id hL
    have h9 := g.few
    have h40 := g.hi
    refine ⟨Nat.zero_le _, fun tk htk => ?_⟩
    refine ⟨_, rfl, a, CL, dx, _, _, rfl, same_new htk _ _ ha, T.clL, T.nLl, lF_least t L, ?_⟩
    refine while_by (fun σ H' => ∃ (n : Nat) (taken : List Nat) (f : Nat) (v : Option V), σ = [some (.ref a), some (.ref tk), some (.int (n : Nat)), v] ∧ Same H H' ∧ LAt H' tk taken ∧ few t (t.hi + 1) t.lo [] = few t f n taken ∧ t.hi + 1 ≤ f + n ∧ taken.length ≤ n ∧ taken.length ≤ 41) (muF t)
      ⟨t.lo, [], t.hi + 1, none, rfl, same_new htk, upd_same, rfl, by omega, Nat.zero_le _, Nat.zero_le _⟩ ?_ ?_
    · rintro σ H1 ⟨n, taken, f, v, rfl, s1, et, hf, hfu, hl1, hl2⟩
      refine ⟨_, rfl, _, rfl, a, CL, dx, _, _, rfl, s1 _ _ ha, T.clL, T.nLg, lF_greatest t L, _, _, rfl, rfl, _, rfl, ?_⟩
      by_cases cn : n ≤ t.hi
      · refine ite_t (decide_eq_true (by show (n : Int) ≤ (t.hi : Int); omega)) ?_
        obtain ⟨f', rfl⟩ : ∃ f', f = f' + 1 := ⟨f - 1, by omega⟩
        -- some = standing(self.sails, wind)
        refine ⟨_, rfl, a, CL, dx, _, _, rfl, s1 _ _ ha, T.clL, T.nLs, lF_sails t L, _, rfl, L, t.sails, n, rfl, ⟨as, hA.same s1⟩, h9, fun H2 ps s2 hps eps => ?_⟩
        have s12 := s1.trans s2
        refine ⟨_, rfl, Nat.zero_le _, fun p0 hp0 => ?_⟩
        have s3 : Same H2 (upd H2 p0 (.lst [])) := same_new hp0
        refine ⟨.list (pdL (standL t.sails n)), .list (pdL []), lat_dp (eps.same s3), lat_dp (l := []) upd_same, pdL_shaped _, pdL_shaped [], _, rfl, (by show 2 ≤ sizeLine; decide), fun p5 hp5 => ?_⟩
        have s25 := s3.trans (same_new (o := .lst [V.int (-6), V.int (n : Nat)]) hp5)
        have s5 := s12.trans s25
        refine ⟨_, _, rfl, fun ht2 => ?_, fun hf2 => ?_⟩
        · rw [pdL_ne] at ht2
          have hne : standL t.sails n ≠ [] := fun e => by rw [e] at ht2; cases ht2
          have et5 : LAt _ tk taken := (et.same s2).same s25
          have ep5 : LAt _ ps (standL t.sails n) := eps.same s25
          have hmem := farL_mem t.sails (standL t.sails n) hne
          obtain ⟨hil, hst⟩ := mem_standL hmem
          have hst2 := stands_iff.mp hst
          -- taken.append(farthest(self.sails, some))
          refine ⟨_, rfl, .inl ⟨rfl, _, .inl (.inl et5)⟩, _, rfl, a, CL, dx, _, _, rfl, s5 _ _ ha, T.clL, T.nLs, lF_sails t L, _, rfl, L, ps, t.sails, standL t.sails n, rfl, ⟨as, hA.same s5⟩, ep5, hne, fun j hj => (mem_standL hj).1, ?_⟩
          refine ⟨tk, _, _, rfl, rfl, et5, by rw [vI_length]; exact small1000 (by omega), ?_⟩
          have s6 : Same H _ := grow (D := tk) (o := .lst (vI taken ++ [V.int (farL t.sails (standL t.sails n) : Nat)])) htk s5
          have et6 : LAt (upd (upd (upd H2 p0 (.lst [])) p5 (.lst [V.int (-6), V.int (n : Nat)])) tk (.lst (vI taken ++ [V.int (farL t.sails (standL t.sails n) : Nat)]))) tk (taken ++ [farL t.sails (standL t.sails n)]) := by
            show _ = some (HO.lst (vI _))
            rw [vI_append]
            exact upd_same
          -- wind = ..
          obtain ⟨b, hb, hbv, dxb, hx⟩ := (hA.same s6).get hil
          refine ⟨_, rfl, a, CL, dx, _, _, rfl, s6 _ _ ha, T.clL, T.nLs, lF_sails t L, _, rfl, _, rfl, tk, _, _, V.int (farL t.sails (standL t.sails n) : Nat), rfl, rfl, .inl (.inl upd_same), atI_last _ _, L, _, _, .ref b, rfl, rfl, (hA.same s6).sq, atI_nat hbv, b, CS, dxb, _, _, rfl, hx, T.clS, T.nSg, sF_greatest _, _, _, rfl, rfl, ?_⟩
          refine ⟨⟨(t.sails.getD (farL t.sails (standL t.sails n)) noSail).hi + 1, taken ++ [farL t.sails (standL t.sails n)], f', some (.ref ps), rfl, s6, et6, ?_, ?_, ?_, ?_⟩, ?_⟩
          · rw [hf]
            exact few_some t f' n taken (by omega) hne
          · omega
          · rw [List.length_append, List.length_singleton]; omega
          · rw [List.length_append, List.length_singleton]; omega
          · show t.hi + 1 - ((((t.sails.getD (farL t.sails (standL t.sails n)) noSail).hi : Nat) : Int) + 1).toNat < t.hi + 1 - ((n : Nat) : Int).toNat
            omega
        · rw [pdL_ne] at hf2
          have he : standL t.sails n = [] := by
            cases e : standL t.sails n with
            | nil => rfl
            | cons q r => rw [e] at hf2; cases hf2
          have hp : t.plain = .error n := by
            rw [plain_few, hf]
            exact few_none t f' n taken (by omega) he
          rw [step_fewest_no hp] at O
          exact fun H' d sm hd => O.bad H' p5 d (Done.same hL (s5.trans sm) (sm _ _ upd_same) ((s12.trans s3).free hp5)) hd
      · refine ite_f (decide_eq_false (by show ¬ (n : Int) ≤ (t.hi : Int); omega)) ?_
        have hp : t.plain = .ok taken := by
          rw [plain_few, hf]
          exact few_done t f n taken (by omega)
        rw [step_fewest_ok hp] at O
        refine ⟨_, rfl, tk, _, rfl, .inl et.sq, (by show 1 ≤ sizeLine; decide), fun p5 hp5 => ?_⟩
        have s5 : Same H1 _ := same_new (o := .lst [V.int ((vI taken).length : Nat)]) hp5
        refine ⟨_, rfl, p5, tk, _, _, rfl, rfl, upd_same, s5 _ _ et, ?_, fun r hr0 => ?_⟩
        · rw [vI_length, sizeLine_eq]
          show 1 + taken.length ≤ _
          omega
        · refine O.good _ r (Done.same hL ((s1.trans s5).trans (same_new hr0)) ?_ ((s1.trans s5).free hr0))
          rw [upd_same, vI_length]; rfl
    · rintro σ H1 Q1 Q2 hQ ⟨v, h1, v0, h2, b, C, d, fs, x, h3, h4, h5, h6, h7, i, j, h8, h9, k, h10, q⟩
      exact ⟨v, h1, v0, h2, b, C, d, fs, x, h3, h4, h5, h6, h7, i, j, h8, h9, k, h10, hQ _ _ q⟩
end
end Sw
set_option Elab.async false
set_option linter.all false
set_option maxRecDepth 100000
set_option maxHeartbeats 2000000
/-! told, answer. -/
namespace Sw
open PySem PySem.Spec PyProof.Rows L2
theorem callIn_inv {i : Nat} {ns : List Nat} {c : Uw29.Call} (h : Uw29Neutral.callIn (i :: ns) = some c) :
    (i = 0 ∧ aBegin ns = some c) ∨ (i = 1 ∧ aSail ns = some c) ∨ (i = 2 ∧ aCheck ns = some c) ∨ (i = 3 ∧ aBest ns = some c) ∨ (i = 4 ∧ aFewest ns = some c) := by
  unfold Uw29Neutral.callIn at h
  split at h
  · rename_i e
    obtain ⟨e1, e2⟩ := List.cons.inj e
    subst e1; subst e2
    exact .inl ⟨rfl, h⟩
  · rename_i e
    obtain ⟨e1, e2⟩ := List.cons.inj e
    subst e1; subst e2
    exact .inr (.inl ⟨rfl, h⟩)
  · rename_i e
    obtain ⟨e1, e2⟩ := List.cons.inj e
    subst e1; subst e2
    exact .inr (.inr (.inl ⟨rfl, h⟩))
  · rename_i e
    obtain ⟨e1, e2⟩ := List.cons.inj e
    subst e1; subst e2
    exact .inr (.inr (.inr (.inl ⟨rfl, h⟩)))
  · rename_i e
    obtain ⟨e1, e2⟩ := List.cons.inj e
    subst e1; subst e2
    exact .inr (.inr (.inr (.inr ⟨rfl, h⟩)))
  · cases h
theorem dec_ne {i j : Int} (h : i ≠ j) : decide (V.int i = V.int j) = false := decide_eq_false fun z => h (V.int.inj z)
section
variable {P : Program} {w : World} {K : PySem.W.Frag} {mg : Str → Option Value} {base : Heap} {CS CL CR : Addr}
theorem ok_told {f f0 f1 f2 f3 f4 : Addr} {fd fd0 fd1 fd2 fd3 fd4 : FuncData} (F : Fun K "told" "told" sTold f fd) (T : Txt K mg CS CL CR)
    (G0 : FnOk P w K mg base (L2.CX P w) 4 f0 fd0 ["self", "least", "greatest"] (spMeth CL CS CR aBegin)) (b0 : Binds K fd0 ["self", "least", "greatest"] []) (m0 : Meth K CL "begin" f0)
    (G1 : FnOk P w K mg base (L2.CX P w) 4 f1 fd1 ["self", "least", "greatest", "price"] (spMeth CL CS CR aSail)) (b1 : Binds K fd1 ["self", "least", "greatest", "price"] []) (m1 : Meth K CL "put_sail" f1)
    (G2 : FnOk P w K mg base (L2.CX P w) 4 f2 fd2 ["self", "k", "chosen"] (spMeth CL CS CR aCheck)) (b2 : Binds K fd2 ["self", "k", "chosen"] []) (m2 : Meth K CL "check" f2)
    (G3 : FnOk P w K mg base (L2.CX P w) 6 f3 fd3 ["self", "k"] (spMeth CL CS CR aBest)) (b3 : Binds K fd3 ["self", "k"] []) (m3 : Meth K CL "best" f3)
    (G4 : FnOk P w K mg base (L2.CX P w) 4 f4 fd4 ["self"] (spMeth CL CS CR aFewest)) (b4 : Binds K fd4 ["self"] []) (m4 : Meth K CL "fewest" f4) :
    FnOk P w K mg base (L2.CX P w) 7 f fd ["loft", "call", "n"] (spTold CL CS CR) := by
  refine F.okX scTold (fun vs H Q E h => ?_) (fun cdv A outer s H vs Q E hr h => ?_)
  · obtain ⟨a, L, m, s, i, ns, c, rfl, _⟩ := h
    rfl
  · obtain ⟨a, L, m, t, i, ns, c, rfl, hm, hc, hL, O⟩ := h
    have h4 : Room 4 _ := hr.mono (by decide)
    refine ⟨_, pss_cons (ps_if (pt_cmpR op_eq (pv 1) pe_int (nomark _)) (pss_one (ps_ret (pe_meth (pv 0) T.clL m0 G0 h4 b0 .nil (E := E) (passes_call (takes_of rfl rfl rfl rfl) (fun _ _ _ _ h => h)) (by exact (pa_cons (pe_ix ix_list (pv 2) pe_int (fun _ _ => rfl)) (pa_cons (pe_ix ix_list (pv 2) pe_int (fun _ _ => rfl)) pa_nil)))))) pss_nil)
      (pss_cons (ps_if (pt_cmpR op_eq (pv 1) pe_int (nomark _)) (pss_one (ps_ret (pe_meth (pv 0) T.clL m1 G1 h4 b1 .nil (E := E) (passes_call (takes_of rfl rfl rfl rfl) (fun _ _ _ _ h => h)) (by exact (pa_cons (pe_ix ix_list (pv 2) pe_int (fun _ _ => rfl)) (pa_cons (pe_ix ix_list (pv 2) pe_int (fun _ _ => rfl)) (pa_cons (pe_ix ix_list (pv 2) pe_int (fun _ _ => rfl)) pa_nil))))))) pss_nil)
      (pss_cons (ps_if (pt_cmpR op_eq (pv 1) pe_int (nomark _)) (pss_one (ps_ret (pe_meth (pv 0) T.clL m2 G2 h4 b2 .nil (E := E) (passes_call (takes_of rfl rfl rfl rfl) (fun _ _ _ _ h => h)) (by exact (pa_cons (pe_ix ix_list (pv 2) pe_int (fun _ _ => rfl)) (pa_cons (pe_ix ix_list (pv 2) pe_int (fun _ _ => rfl)) pa_nil)))))) pss_nil)
      (pss_cons (ps_if (pt_cmpR op_eq (pv 1) pe_int (nomark _)) (pss_one (ps_ret (pe_meth (pv 0) T.clL m3 G3 hr b3 .nil (E := E) (passes_call (takes_of rfl rfl rfl rfl) (fun _ _ _ _ h => h)) (by exact (pa_cons (pe_ix ix_list (pv 2) pe_int (fun _ _ => rfl)) pa_nil))))) pss_nil)
      (pss_one (ps_ret (pe_meth0 (pv 0) T.clL m4 G4 h4 b4 .nil (E := E) (passes_call (takes_of rfl rfl rfl rfl) (fun _ _ _ _ h => h)))))))), ?_⟩
    obtain ⟨dx, ha⟩ := hL.obj
    rcases callIn_inv hc with ⟨rfl, e⟩ | ⟨rfl, e⟩ | ⟨rfl, e⟩ | ⟨rfl, e⟩ | ⟨rfl, e⟩
    · obtain ⟨x, y, rfl, rfl⟩ := aBegin_inv e
      refine ⟨_, rfl, rfl, _, rfl, ite_t (decide_eq_true rfl) ?_⟩
      exact ⟨_, rfl, a, dx, _, rfl, ha, lF_none t L (by decide +kernel) (by decide +kernel) (by decide +kernel), _, rfl, m, _, _, V.int (x : Nat), rfl, rfl, hm.sq, atI_nat (j := 0) rfl, _, rfl, m, _, _, V.int (y : Nat), rfl, rfl, hm.sq, atI_nat (j := 1) rfl, a, L, t, [x, y], _, rfl, e, hL, O⟩
    · obtain ⟨x, rfl, rfl⟩ := aSail_inv e
      refine ⟨_, rfl, rfl, _, rfl, ite_f (dec_ne (by decide)) ?_⟩
      refine ⟨_, rfl, rfl, _, rfl, ite_t (decide_eq_true rfl) ?_⟩
      exact ⟨_, rfl, a, dx, _, rfl, ha, lF_none t L (by decide +kernel) (by decide +kernel) (by decide +kernel), _, rfl, m, _, _, V.int (x.lo : Nat), rfl, rfl, hm.sq, atI_nat (j := 0) rfl, _, rfl, m, _, _, V.int (x.hi : Nat), rfl, rfl, hm.sq, atI_nat (j := 1) rfl, _, rfl, m, _, _, V.int (x.cost : Nat), rfl, rfl, hm.sq, atI_nat (j := 2) rfl, a, L, t, [x.lo, x.hi, x.cost], _, rfl, e, hL, O⟩
    · obtain ⟨x, y, rfl, rfl⟩ := aCheck_inv e
      refine ⟨_, rfl, rfl, _, rfl, ite_f (dec_ne (by decide)) ?_⟩
      refine ⟨_, rfl, rfl, _, rfl, ite_f (dec_ne (by decide)) ?_⟩
      refine ⟨_, rfl, rfl, _, rfl, ite_t (decide_eq_true rfl) ?_⟩
      exact ⟨_, rfl, a, dx, _, rfl, ha, lF_none t L (by decide +kernel) (by decide +kernel) (by decide +kernel), _, rfl, m, _, _, V.int (x : Nat), rfl, rfl, hm.sq, atI_nat (j := 0) rfl, _, rfl, m, _, _, V.int (y : Nat), rfl, rfl, hm.sq, atI_nat (j := 1) rfl, a, L, t, [x, y], _, rfl, e, hL, O⟩
    · obtain ⟨x, rfl, rfl⟩ := aBest_inv e
      refine ⟨_, rfl, rfl, _, rfl, ite_f (dec_ne (by decide)) ?_⟩
      refine ⟨_, rfl, rfl, _, rfl, ite_f (dec_ne (by decide)) ?_⟩
      refine ⟨_, rfl, rfl, _, rfl, ite_f (dec_ne (by decide)) ?_⟩
      refine ⟨_, rfl, rfl, _, rfl, ite_t (decide_eq_true rfl) ?_⟩
      exact ⟨_, rfl, a, dx, _, rfl, ha, lF_none t L (by decide +kernel) (by decide +kernel) (by decide +kernel), _, rfl, m, _, _, V.int (x : Nat), rfl, rfl, hm.sq, atI_nat (j := 0) rfl, a, L, t, [x], _, rfl, e, hL, O⟩
    · obtain ⟨rfl, rfl⟩ := aFewest_inv e
      refine ⟨_, rfl, rfl, _, rfl, ite_f (dec_ne (by decide)) ?_⟩
      refine ⟨_, rfl, rfl, _, rfl, ite_f (dec_ne (by decide)) ?_⟩
      refine ⟨_, rfl, rfl, _, rfl, ite_f (dec_ne (by decide)) ?_⟩
      refine ⟨_, rfl, rfl, _, rfl, ite_f (dec_ne (by decide)) ?_⟩
      exact ⟨_, rfl, a, dx, _, rfl, ha, lF_none t L (by decide +kernel) (by decide +kernel) (by decide +kernel), a, L, t, [], _, rfl, e, hL, O⟩
theorem ok_answer {f fT : Addr} {fd fdT : FuncData} (F : Fun K "answer" "answer" sAnswer f fd) (T : Txt K mg CS CL CR)
    (GT : FnOk P w K mg base (L2.CX P w) 7 fT fdT ["loft", "call", "n"] (spTold CL CS CR)) (kT : PySem.W.keepIn K (.ref fT) = true) (bT : Binds K fdT ["loft", "call", "n"] []) (mT : mg "told" = some (.ref fT)) :
    FnOk P w K mg base CX0 8 f fd ["loft", "call", "n"] (spAnswer CL CS) := by
  refine F.ok scAnswer (fun vs H Q E h => ?_) (fun cdv A outer s H vs Q E hr h => ?_)
  · obtain ⟨a, L, m, s, i, ns, c, rfl, _⟩ := h
    rfl
  · obtain ⟨a, L, m, t, i, ns, c, rfl, hm, hc, hL, q⟩ := h
    refine ⟨_, pss_cons (ps_try_as (i := 4) (tb := fun W => tAsg (tCallS (spTold CL CS CR) (WE W) (tCons (tVar 0) (tCons (tVar 1) (tCons (tVar 2) tNil)))) (gName 3)) (ts := fun b cls d => tAsg (tXf b cls d CR "answered" (tVar 4)) (gName 3)) (Wout := fun _ _ _ _ => False) rfl rfl scAnswer.nd rfl rfl ⟨rfl, by decide, Or.inl T.gR⟩ takes0
        (fun W pn xe tk _ => pss_one (ps_set (i := 3) scAnswer.nd rfl (Or.inl rfl) (by exact (pe_callS GT hr rfl mT kT bT (fun σ => passAt tk σ) (by exact (pa_cons (pv 0) (pa_cons (pv 1) (pa_cons (pv 2) pa_nil))))))))
        (fun b oe cls d pn hz hf => pss_one (ps_set (i := 3) scAnswer.nd rfl (Or.inl rfl) (by exact (pe_xf T.xf T.noA hz hf (pv 4))))))
      (pss_one (ps_ret (pv 3))), ?_⟩
    refine ⟨_, rfl, _, rfl, _, rfl, a, L, m, t, i, ns, c, rfl, hm, hc, hL, ⟨fun H' p D => ?_, fun H' p d D hd => ?_⟩⟩
    · exact ⟨_, rfl, q H' p D⟩
    · refine ⟨true, T.eR, fun _ a0 _ => ?_, fun z => Bool.noConfusion z⟩
      exact ⟨_, rfl, rfl, rfl, d, _, .ref p, rfl, hd, lk_here, _, rfl, q H' p D⟩
end
end Sw
set_option Elab.async false
set_option linter.all false
/-! How a list of calls is read: the specification's reading, row by row. -/
namespace Sw
/-- the rows of a list of calls -/
inductive Rows : List Int → List (List Int) → Prop
  | nil : Rows [] []
  | cons {p : Int} {n : Nat} {r : List Int} {rows : List (List Int)} : PyUw29.shape p = some (n, 0) → n ≤ r.length → Rows (r.drop n) rows → Rows (p :: r) ((p :: r.take n) :: rows)
theorem shape_inv {p : Int} {n k : Nat} (h : PyUw29.shape p = some (n, k)) : k = 0 ∧ ((p = 0 ∧ n = 2) ∨ (p = 1 ∧ n = 3) ∨ (p = 2 ∧ n = 2) ∨ (p = 3 ∧ n = 1) ∨ (p = 4 ∧ n = 0)) := by
  unfold PyUw29.shape at h
  split at h
  · obtain ⟨e1, e2⟩ := Prod.mk.inj (Option.some.inj h)
    omega
  split at h
  · obtain ⟨e1, e2⟩ := Prod.mk.inj (Option.some.inj h)
    omega
  split at h
  · obtain ⟨e1, e2⟩ := Prod.mk.inj (Option.some.inj h)
    omega
  split at h
  · obtain ⟨e1, e2⟩ := Prod.mk.inj (Option.some.inj h)
    omega
  split at h
  · obtain ⟨e1, e2⟩ := Prod.mk.inj (Option.some.inj h)
    omega
  · cases h
theorem call_inv {p : Int} {r : List Int} {c : List (List Int)} {t : List Int} (h : PyFlat.call PyUw29.shape (p :: r) = some (c, t)) : ∃ n, PyUw29.shape p = some (n, 0) ∧ n ≤ r.length ∧ c = [p :: r.take n] ∧ t = r.drop n := by
  have h : (match PyUw29.shape p with
    | none => none
    | some (n, k) => if r.length < n then none else match PyFlat.rows k (r.drop n) with
      | none => none
      | some (xs, t) => some ((p :: r.take n) :: xs, t)) = some (c, t) := h
  split at h
  · cases h
  · rename_i n k hs
    obtain ⟨rfl, _⟩ := shape_inv hs
    split at h
    · cases h
    · rename_i hl
      have h2 : some ([p :: r.take n], r.drop n) = some (c, t) := h
      obtain ⟨e1, e2⟩ := Prod.mk.inj (Option.some.inj h2)
      exact ⟨n, hs, by omega, e1.symm, e2.symm⟩
theorem calls_rows : ∀ (f : Nat) (l : List Int) (raw : List (List (List Int))), PyFlat.calls PyUw29.shape f l = some raw → ∃ rows, Rows l rows ∧ raw = rows.map fun x => [x]
  | f, [], raw, h => by
    have e : PyFlat.calls PyUw29.shape f [] = some [] := by cases f <;> rfl
    rw [e] at h
    exact ⟨[], .nil, (Option.some.inj h).symm⟩
  | 0, _ :: _, raw, h => by cases h
  | f + 1, p :: r, raw, h => by
    unfold PyFlat.calls at h
    split at h
    · cases h
    · rename_i c t hc
      obtain ⟨n, hs, hl, rfl, rfl⟩ := call_inv hc
      split at h
      · cases h
      · rename_i cs hcs
        obtain ⟨rows, hr, rfl⟩ := calls_rows f _ _ hcs
        exact ⟨(p :: r.take n) :: rows, .cons hs hl hr, (Option.some.inj h).symm⟩
theorem whole_one (l : List Int) : (PyUw29.whole [l]).headD [] = l := by
  unfold PyUw29.whole
  split <;> first | rfl | (rename_i e; have e2 := List.cons.inj e; rw [e2.1]; rfl)
/-- the answers, row by row -/
def playR : Uw29Neutral.S → List (List Int) → List Int
  | _, [] => []
  | s, c :: r => (((Uw29Neutral.step s c).2.length : Int) :: (Uw29Neutral.step s c).2) ++ playR (Uw29Neutral.step s c).1 r
theorem told_play : ∀ (rows : List (List Int)) (s : Uw29Neutral.S), PyFlat.told (PyFlat.played (fun s c => Uw29Neutral.step s (c.headD [])) s ((rows.map fun x => [x]).map PyUw29.whole)) = playR s rows
  | [], _ => rfl
  | c :: r, s => by
    have ih := told_play r (Uw29Neutral.step s c).1
    have e := whole_one c
    show PyFlat.told (PyFlat.played (fun s c => Uw29Neutral.step s (c.headD [])) s (PyUw29.whole [c] :: (r.map fun x => [x]).map PyUw29.whole)) = _
    show PyFlat.told ((Uw29Neutral.step s ((PyUw29.whole [c]).headD [])).2 :: PyFlat.played (fun s c => Uw29Neutral.step s (c.headD [])) (Uw29Neutral.step s ((PyUw29.whole [c]).headD [])).1 ((r.map fun x => [x]).map PyUw29.whole)) = _
    rw [e]
    show (((Uw29Neutral.step s c).2.length : Int) :: (Uw29Neutral.step s c).2) ++ PyFlat.told _ = _
    rw [ih]; rfl
theorem heads_rows (rows : List (List Int)) : (((rows.map fun x => [x]).map PyUw29.whole).map fun c => c.headD []) = rows := by
  rw [List.map_map, List.map_map]
  refine (List.map_congr_left fun c _ => ?_).trans (List.map_id rows)
  exact whole_one c
theorem asked_inv {ns : List Int} (h : PyUw29.answers_asked ns = true) : ∃ rows, Rows ns rows ∧ (∀ c ∈ rows, (Uw29Neutral.callOf c).isSome = true) ∧ PyUw29.answers ns = playR Uw29Neutral.start rows ∧ (playR Uw29Neutral.start rows).length ≤ 10000000 := by
  unfold PyUw29.answers_asked at h
  split at h
  · cases h
  · rename_i raw hraw
    obtain ⟨rows, hr, rfl⟩ := calls_rows _ _ _ hraw
    have ea : PyUw29.answers ns = playR Uw29Neutral.start rows := by
      unfold PyUw29.answers PyUw29.calls
      rw [hraw]
      exact told_play rows _
    simp only [Bool.and_eq_true] at h
    obtain ⟨⟨⟨⟨_, _⟩, _⟩, h1⟩, h2⟩ := h
    rw [heads_rows] at h1
    unfold Uw29Neutral.asked at h1
    simp only [Bool.and_eq_true] at h1
    refine ⟨rows, hr, fun c hc => List.all_eq_true.mp h1.1 c hc, ea, ?_⟩
    rw [← ea]
    exact of_decide_eq_true h2
/-- a row that is asked: naturals, a call of the specification -/
theorem row_call {l : List Int} (h : (Uw29Neutral.callOf l).isSome = true) : ∃ nats c, l = nI nats ∧ Uw29Neutral.callIn nats = some c ∧ ∀ s, Uw29Neutral.step s l = ((Uw29.step s c).1, Uw29Neutral.out (Uw29.step s c).2) := by
  cases hc : Uw29Neutral.callOf l with
  | none => rw [hc] at h; cases h
  | some c =>
    have hc' := hc
    unfold Uw29Neutral.callOf at hc
    split at hc
    · cases hc
    · rename_i hall
      have hall2 : l.all Uw29Neutral.nat = true := by
        cases e : l.all Uw29Neutral.nat with
        | true => rfl
        | false => exact absurd e hall
      refine ⟨l.map Int.toNat, c, ?_, hc, fun s => ?_⟩
      · unfold nI
        rw [List.map_map]
        refine ((List.map_congr_left fun z hz => ?_).trans (List.map_id l)).symm
        have hn : Uw29Neutral.nat z = true := List.all_eq_true.mp hall2 z hz
        have h0 : 0 ≤ z := of_decide_eq_true (Bool.and_eq_true_iff.mp hn).1
        show ((z.toNat : Nat) : Int) = z
        omega
      · unfold Uw29Neutral.step
        rw [hc']
end Sw
set_option Elab.async false
set_option linter.all false
set_option maxRecDepth 100000
set_option maxHeartbeats 2000000
/-! answers. -/
namespace Sw
open PySem PySem.Spec PyProof.Rows L2
theorem nI_cons {p : Int} {r : List Int} {nats : List Nat} (h : p :: r = nI nats) : ∃ i ns, nats = i :: ns ∧ p = (i : Int) ∧ r = nI ns := by
  cases nats with
  | nil => cases h
  | cons i ns =>
    obtain ⟨e1, e2⟩ := List.cons.inj h
    exact ⟨i, ns, rfl, e1, e2⟩
theorem cut_at (xs : List V) (i n : Nat) (h : i + n ≤ xs.length) : cutV xs (some ((i : Nat) : Int)) (some (((i + n : Nat)) : Int)) = (xs.drop i).take n := by
  unfold cutV
  rw [HT.sIx_nat, HT.sIx_nat, Nat.min_eq_left (show i ≤ xs.length by omega), Nat.min_eq_left h, Nat.add_sub_cancel_left]
/-- how many numbers a call of this place has -/
def numV : List V := [.int 2, .int 3, .int 2, .int 1, .int 0]
theorem numV_at {p : Int} {i n : Nat} (h : PyUw29.shape p = some (n, 0)) (e : p = (i : Int)) : numV[i]? = some (V.int (n : Nat)) := by
  rcases (shape_inv h).2 with ⟨h1, h2⟩ | ⟨h1, h2⟩ | ⟨h1, h2⟩ | ⟨h1, h2⟩ | ⟨h1, h2⟩
  · have : i = 0 := by omega
    subst this; subst h2; rfl
  · have : i = 1 := by omega
    subst this; subst h2; rfl
  · have : i = 2 := by omega
    subst this; subst h2; rfl
  · have : i = 3 := by omega
    subst this; subst h2; rfl
  · have : i = 4 := by omega
    subst this; subst h2; rfl
/-- what is left of the calls -/
def muA (n : Nat) (σ : L2.St) (_ : Hp) : Nat := match (σ[3]? : Option (Option V)) with
  | some (some (V.int z)) => n - z.toNat
  | _ => 0
section
variable {P : Program} {w : World} {K : PySem.W.Frag} {mg : Str → Option Value} {base : Heap} {CS CL CR : Addr}
theorem ok_answers {f fA fI nt : Addr} {fd fdA fdI : FuncData} (F : Fun K "answers" "answers" sAnswers f fd) (T : Txt K mg CS CL CR)
    (GA : FnOk P w K mg base CX0 8 fA fdA ["loft", "call", "n"] (spAnswer CL CS)) (kA : PySem.W.keepIn K (.ref fA) = true) (bA : Binds K fdA ["loft", "call", "n"] []) (mA : mg "answer" = some (.ref fA))
    (GI : FnOk P w K mg base CX0 1 fI fdI ["self"] (spLoftInit CL CS)) (MI : Mk K CL fI) (bI : Binds K fdI ["self"] [])
    (gN : mg "NUMBERS" = some (.ref nt)) (hN : ∀ H, SqT K H nt numV) :
    FnOk P w K mg base CX0 9 f fd ["calls"] (spAnswers K) := by
  refine F.ok scAnswers (fun vs H Q E h => ?_) (fun cdv A outer s H vs Q E hr h => ?_)
  · obtain ⟨a, ns, rfl, _⟩ := h
    rfl
  · obtain ⟨c, ns, rfl, hS, hask, q⟩ := h
    obtain ⟨rows, hrows, hcalls, hans, hbig⟩ := asked_inv hask
    refine ⟨_, pss_cons (ps_set (i := 1) scAnswers.nd rfl (Or.inl rfl) (pe_make0 MI GI (hr.mono (by decide)) rfl T.gL bI .nil pass0))
      (pss_cons (ps_set (i := 2) scAnswers.nd rfl (Or.inl rfl) (pe_lst pa_nil))
      (pss_cons (ps_set (i := 3) scAnswers.nd rfl (Or.inl rfl) pe_int)
      (pss_cons (ps_while PassesOwn.never (pt_cmpR op_lt (pv 3) (pe_callB call_len_seq (by rfl) T.len PySem.boot_len (pa_cons (pv 0) pa_nil)) (nomark _))
        (pss_cons (ps_set (i := 4) scAnswers.nd rfl (Or.inl rfl) (pe_op op_add (pe_op op_add (pv 3) pe_int) (pe_ix ix_tup (pe_glob (v := .ref nt) rfl gN rfl) (pe_ix ix_list (pv 0) (pv 3) (fun _ _ => rfl)) (fun _ _ => rfl))))
        (pss_cons (ps_set (i := 5) scAnswers.nd rfl (Or.inl rfl) (pe_call GA hr rfl mA kA bA .nil pass0 (by exact (pa_cons (pv 1) (pa_cons (pe_ix ix_list (pv 0) (pv 3) (fun _ _ => rfl)) (pa_cons (pe_slice sl_list (pv 0) (po_some (pe_op op_add (pv 3) pe_int)) (po_some (pv 4))) pa_nil))))))
        (pss_cons (ps_expr (pe_bm PySem.F.plainAttrs_list PySem.F.slot_list_append PySem.F.type_list_append mt_append (pv 2) (pa_cons (pe_callB call_len_seq (by rfl) T.len PySem.boot_len (pa_cons (pv 5) pa_nil)) pa_nil)))
        (pss_cons (ps_expr (pe_bm PySem.F.plainAttrs_list PySem.F.slot_list_extend PySem.F.type_list_extend mt_extend (pv 2) (pa_cons (pv 5) pa_nil)))
        (pss_one (ps_set (i := 3) scAnswers.nd rfl (Or.inl rfl) (pv 4))))))))
      (pss_one (ps_ret (pv 2)))))), ?_⟩
    intro x dx nx nd ne
    refine ⟨x, dx, rfl, upd_same, fun H1 L0 hL1 kp hL0n => ⟨rfl, ?_⟩⟩
    have s1 : Same H H1 := Same.made nx nd kp
    have hL00 : H L0 = none := ((same_new nd).trans (same_new ((upd_ne ne.symm).trans nx))).free hL0n
    refine ⟨Nat.zero_le _, fun fo hfo => ?_⟩
    have hfo0 : H fo = none := s1.free hfo
    have s2 : Same H1 (upd H1 fo (.lst [])) := same_new hfo
    refine while_by (fun σ H' => ∃ (i : Nat) (out : List Int) (rs : List (List Int)) (t : Uw29.Loft) (L : Addr) (v4 v5 : Option V), σ = [some (.ref c), some (.ref x), some (.ref fo), some (.int (i : Nat)), v4, v5] ∧ Same H H' ∧ LoftAt CL CS H' x L t ∧ H' fo = some (.lst (out.map V.int)) ∧ fo ≠ L ∧ H L = none ∧
        Rows (ns.drop i) rs ∧ (∀ r ∈ rs, (Uw29Neutral.callOf r).isSome = true) ∧ playR Uw29Neutral.start rows = out ++ playR t rs ∧ i ≤ ns.length) (muA ns.length)
      ⟨0, [], rows, Uw29.init, L0, none, none, rfl, s1.trans s2, hL1.same s2, upd_same, ?_, hL00, hrows, hcalls, rfl, Nat.zero_le _⟩ ?_ ?_
    · obtain ⟨as, hA⟩ := hL1.sails
      exact (ne_of_none hA.lst hfo).symm
    · rintro σ H2 ⟨i, out, rs, t, L, v4, v5, rfl, s3, hL, eo, nfL, hLn, hR, hC, hP, hi⟩
      have hS2 : SqL K H2 c (ns.map V.int) := s3.seq hS
      refine ⟨_, rfl, _, rfl, c, _, rfl, .inl hS2, _, _, rfl, rfl, _, rfl, ?_⟩
      by_cases ci : i < ns.length
      · refine ite_t (decide_eq_true (by show (i : Int) < ((ns.map V.int).length : Int); rw [List.length_map]; omega)) ?_
        have hd : ns.drop i = ns[i] :: ns.drop (i + 1) := List.drop_eq_getElem_cons ci
        rw [hd] at hR
        generalize hp0 : ns[i] = p0 at hR
        cases hR with
        | @cons _ n _ rs' hs hl hR' =>
          have hrow := hC _ List.mem_cons_self
          obtain ⟨nats, cl, en, hcl, hst⟩ := row_call hrow
          obtain ⟨pc, nums, rfl, epc, enum⟩ := nI_cons en
          have hget : (ns.map V.int)[i]? = some (V.int (pc : Nat)) := by
            rw [List.getElem?_map, List.getElem?_eq_getElem ci, hp0, epc]; rfl
          have hlen : i + 1 + n ≤ ns.length := by
            rw [List.length_drop] at hl
            omega
          -- behind = at + 1 + NUMBERS[calls[at]]
          refine ⟨_, rfl, _, _, rfl, rfl, _, rfl, _, rfl, c, _, i, V.int (pc : Nat), rfl, rfl, hS2, atI_nat hget, nt, numV, pc, V.int (n : Nat), rfl, rfl, hN _, atI_nat (numV_at hs epc), _, _, rfl, rfl, ?_⟩
          -- one = answer(loft, calls[at], calls[at + 1:behind])
          refine ⟨_, rfl, _, rfl, _, rfl, c, _, i, V.int (pc : Nat), rfl, rfl, hS2, atI_nat hget, _, rfl, _, rfl, _, _, rfl, rfl, _, rfl, _, rfl, _, rfl, c, _, rfl, hS2, fun m hm => ?_⟩
          have s4 : Same H2 (upd H2 m (.lst (cutV (ns.map V.int) (some ((i : Int) + 1)) (some ((i : Int) + 1 + (n : Int)))))) := same_new hm
          have em : LAt (upd H2 m (.lst (cutV (ns.map V.int) (some ((i : Int) + 1)) (some ((i : Int) + 1 + (n : Int)))))) m nums := by
            show _ = some (HO.lst ((nI nums).map V.int))
            have e1 : ((i : Int) + 1) = ((i + 1 : Nat) : Int) := by omega
            have e2 : ((i : Int) + 1 + (n : Int)) = ((i + 1 + n : Nat) : Int) := by omega
            rw [upd_same, e2, e1, cut_at _ _ _ (by rw [List.length_map]; exact hlen), ← enum, List.map_take, List.map_drop]
          refine ⟨x, L, m, t, pc, nums, cl, rfl, em, hcl, hL.same s4, fun H5 r0 D => ?_⟩
          obtain ⟨⟨L', hL', hLL⟩, ean, nr0, kp5⟩ := D
          have eo4 := s4 _ _ eo
          obtain ⟨dxx, hxx⟩ := hL.obj
          have nfx : fo ≠ x := ne_of eo hxx (by intro z; cases z)
          have eo5 := kp5 fo _ eo4 nfx nfL
          have s5 : Same H H5 := fun b o e => kp5 b o (s4 _ _ (s3 _ _ e)) (ne_of_none e nx) (ne_of_none e hLn)
          have nfr : fo ≠ r0 := ne_of_none eo4 nr0
          have nfL' : fo ≠ L' := by
            rcases hLL with z | z
            · rw [z]; exact nfL
            · exact ne_of_none eo4 z
          have hLn' : H L' = none := by
            rcases hLL with z | z
            · rw [z]; exact hLn
            · exact (s3.trans s4).free z
          have hPl : playR Uw29Neutral.start rows = (out ++ (((Uw29Neutral.out (Uw29.step t cl).2).length : Int) :: Uw29Neutral.out (Uw29.step t cl).2)) ++ playR (Uw29.step t cl).1 rs' := by
            rw [hP]
            show out ++ ((((Uw29Neutral.step t _).2.length : Int) :: (Uw29Neutral.step t _).2) ++ playR (Uw29Neutral.step t _).1 rs') = _
            rw [hst t, List.append_assoc]
          have hsz : out.length + 1 + (Uw29Neutral.out (Uw29.step t cl).2).length ≤ 10000000 := by
            have z := hbig
            rw [hPl, List.length_append, List.length_append, List.length_cons] at z
            omega
          refine ⟨_, rfl, .inl ⟨rfl, _, .inl (.inl eo5)⟩, _, rfl, r0, _, rfl, .inl (.inl (.inl ean)), fo, _, _, rfl, rfl, eo5, by rw [List.length_map, sizeLine_eq]; omega, ?_⟩
          refine ⟨_, rfl, .inl ⟨rfl, _, .inl (.inl upd_same)⟩, _, rfl, fo, r0, _, _, rfl, rfl, upd_same, (upd_ne nfr.symm).trans ean, ?_, ?_⟩
          · rw [List.length_append, List.length_map, List.length_map, sizeLine_eq]
            show out.length + 1 + _ ≤ _
            omega
          have keep7 : ∀ (o1 o2 : HO) b o, H5 b = some o → b ≠ fo → upd (upd H5 fo o1) fo o2 b = some o := fun o1 o2 b o e hb => by
            rw [upd_ne hb, upd_ne hb]
            exact e
          refine ⟨_, rfl, ⟨i + 1 + n, out ++ (((Uw29Neutral.out (Uw29.step t cl).2).length : Int) :: Uw29Neutral.out (Uw29.step t cl).2), rs', (Uw29.step t cl).1, L', some (.int ((i : Int) + 1 + (n : Int))), some (.ref r0), rfl, grow hfo0 (grow hfo0 s5), ?_, ?_, nfL', hLn', ?_, fun r hr => hC r (List.mem_cons_of_mem _ hr), hPl, hlen⟩, ?_⟩
          · obtain ⟨⟨d', e'⟩, ⟨as', hA'⟩, g'⟩ := hL'
            refine ⟨⟨d', keep7 _ _ _ _ e' nfx.symm⟩, ⟨as', keep7 _ _ _ _ hA'.lst nfL'.symm, hA'.len, fun j b hb => ?_⟩, g'⟩
            obtain ⟨db, eb⟩ := hA'.at_ j b hb
            exact ⟨db, keep7 _ _ _ _ eb (ne_of eb eo5 (by intro z; cases z))⟩
          · rw [upd_same, List.map_append, List.append_assoc]
            show some (HO.lst (List.map V.int out ++ ([V.int (((Uw29Neutral.out (Uw29.step t cl).2).map V.int).length : Nat)] ++ (Uw29Neutral.out (Uw29.step t cl).2).map V.int))) = _
            rw [List.length_map]; rfl
          · rw [List.drop_drop] at hR'
            exact hR'
          · show ns.length - (((i : Int) + 1 + (n : Int))).toNat < ns.length - ((i : Nat) : Int).toNat
            omega
      · refine ite_f (decide_eq_false (by show ¬ (i : Int) < ((ns.map V.int).length : Int); rw [List.length_map]; omega)) ?_
        have hnil : ns.drop i = [] := List.drop_eq_nil_of_le (by omega)
        rw [hnil] at hR
        cases hR
        refine ⟨_, rfl, q _ fo ?_⟩
        have e : PyUw29.answers ns = out := by
          rw [hans, hP]
          exact List.append_nil _
        rw [e]
        exact eo
    · rintro σ H1 Q1 Q2 hQ ⟨v, h1, v0, h2, p, ys, h3, h4, i, j, h8, h9, k, h10, q⟩
      exact ⟨v, h1, v0, h2, p, ys, h3, h4, i, j, h8, h9, k, h10, hQ _ _ q⟩
end
end Sw
set_option Elab.async false
set_option linter.all false
set_option maxRecDepth 100000
set_option maxHeartbeats 2000000
/-! The end: what the top has written, every address a letter; the last theorem. -/
namespace Sw
open PySem PySem.Spec PyProof.Rows L2
/-- an error of the class at S is what «except S» names -/
theorem exm_self {K : PySem.W.Frag} {S : Addr} (h1 : PySem.W.subIn K (.ref S) (.type "BaseException") = some true) (h2 : PySem.W.isClsIn K S = true) (h3 : PySem.W.typeIn K (.ref S) = some (.type "type"))
    (h4 : PySem.W.subIn K (.ref S) (.ref S) = some true) : PySem.W.exmOne K (.ref S) (.ref S) = some true := by
  have e1 : (PySem.W.subIn K (.ref S) (.type "BaseException") == some true) = true := by rw [h1] <;> rfl
  have e2 : ((PySem.W.clsIn K S).isSome && PySem.W.typeIn K (.ref S) == some (.type "type")) = true := by
    have h2' : (PySem.W.clsIn K S).isSome = true := h2
    rw [h2', h3] <;> rfl
  show (if (PySem.W.subIn K (.ref S) (.type "BaseException") == some true) = true then (if ((PySem.W.clsIn K S).isSome && PySem.W.typeIn K (.ref S) == some (.type "type")) = true then PySem.W.subIn K (.ref S) (.ref S) else none) else none) = some true
  rw [if_pos e1, if_pos e2]
  exact h4
theorem nums_tup {K : PySem.W.Frag} {nt : Addr} {dN : Option Addr} {slN : Array (Option Value)} {q0 q1 q2 q3 q4 : Tok} {qn : Nat} (l : K.lookup nt = some ⟨.type "tuple", dN, .seq #[.int 2 q0, .int 3 q1, .int 2 q2, .int 1 q3, .int 0 q4] qn, slN⟩) (H : Hp) : SqT K H nt numV :=
  .inr ⟨_, _, _, l, rfl, rfl, (by show 5 ≤ sizeLine; decide), .cons ⟨_, rfl⟩ (.cons ⟨_, rfl⟩ (.cons ⟨_, rfl⟩ (.cons ⟨_, rfl⟩ (.cons ⟨_, rfl⟩ .nil))))⟩
theorem all_mk {P : Program} {w : World} {K : PySem.W.Frag} {h : Heap} {mg : Str → Option Value} {fa CS CL CR nt : Addr} (X : K.In h) (G : h.Ns mainGlobals mg) (hfa : mg "answers" = some (.ref fa))
    {nmR qR : Str} {NR : Addr} {bsR : List Value} {snR : List Str} {subR : List Value} {abR : Bool} {colR : Option Bool} {ddR : Option Addr} {m0 m1 m2 m3 m5 : Option Value}
    {dN : Option Addr} {slN : Array (Option Value)} {q0 q1 q2 q3 q4 : Tok} {qn : Nat} {tk_bad tk_tooMany tk_lacking tk_mostWind tk_mostPrice tk_mostSails tk_mostTimes : Tok}
    {fSt : Addr} {odSt anSt : Option Addr} {slSt : Array (Option Value)} {ocSt kVSt dcSt pmSt cdSt ctSt : Value}
    {fFa : Addr} {odFa anFa : Option Addr} {slFa : Array (Option Value)} {ocFa kVFa dcFa pmFa cdFa ctFa : Value}
    {fHa : Addr} {odHa anHa : Option Addr} {slHa : Array (Option Value)} {ocHa kVHa dcHa pmHa cdHa ctHa : Value}
    {fNu : Addr} {odNu anNu : Option Addr} {slNu : Array (Option Value)} {ocNu kVNu dcNu pmNu cdNu ctNu : Value}
    {fAs : Addr} {odAs anAs : Option Addr} {slAs : Array (Option Value)} {ocAs kVAs dcAs pmAs cdAs ctAs : Value}
    {fSz : Addr} {odSz anSz : Option Addr} {slSz : Array (Option Value)} {ocSz kVSz dcSz pmSz cdSz ctSz : Value}
    {fPr : Addr} {odPr anPr : Option Addr} {slPr : Array (Option Value)} {ocPr kVPr dcPr pmPr cdPr ctPr : Value}
    {fSs : Addr} {odSs anSs : Option Addr} {slSs : Array (Option Value)} {ocSs kVSs dcSs pmSs cdSs ctSs : Value}
    {fIe : Addr} {odIe anIe : Option Addr} {slIe : Array (Option Value)} {ocIe kVIe dcIe pmIe cdIe ctIe : Value}
    {fEn : Addr} {odEn anEn : Option Addr} {slEn : Array (Option Value)} {ocEn kVEn dcEn pmEn cdEn ctEn : Value}
    {fBs : Addr} {odBs anBs : Option Addr} {slBs : Array (Option Value)} {ocBs kVBs dcBs pmBs cdBs ctBs : Value}
    {fWa : Addr} {odWa anWa : Option Addr} {slWa : Array (Option Value)} {ocWa kVWa dcWa pmWa cdWa ctWa : Value}
    {fAw : Addr} {odAw anAw : Option Addr} {slAw : Array (Option Value)} {ocAw kVAw dcAw pmAw cdAw ctAw : Value}
    {fTo : Addr} {odTo anTo : Option Addr} {slTo : Array (Option Value)} {ocTo kVTo dcTo pmTo cdTo ctTo : Value}
    {fAn : Addr} {odAn anAn : Option Addr} {slAn : Array (Option Value)} {ocAn kVAn dcAn pmAn cdAn ctAn : Value}
    {fAl : Addr} {odAl anAl : Option Addr} {slAl : Array (Option Value)} {ocAl kVAl dcAl pmAl cdAl ctAl : Value}
    {fSi : Addr} {odSi anSi : Option Addr} {slSi : Array (Option Value)} {ocSi kVSi dcSi pmSi cdSi ctSi : Value}
    {fSn : Addr} {odSn anSn : Option Addr} {slSn : Array (Option Value)} {ocSn kVSn dcSn pmSn cdSn ctSn : Value}
    {fLi : Addr} {odLi anLi : Option Addr} {slLi : Array (Option Value)} {ocLi kVLi dcLi pmLi cdLi ctLi : Value}
    {fLw : Addr} {odLw anLw : Option Addr} {slLw : Array (Option Value)} {ocLw kVLw dcLw pmLw cdLw ctLw : Value}
    {fLb : Addr} {odLb anLb : Option Addr} {slLb : Array (Option Value)} {ocLb kVLb dcLb pmLb cdLb ctLb : Value}
    {fLp : Addr} {odLp anLp : Option Addr} {slLp : Array (Option Value)} {ocLp kVLp dcLp pmLp cdLp ctLp : Value}
    {fLc : Addr} {odLc anLc : Option Addr} {slLc : Array (Option Value)} {ocLc kVLc dcLc pmLc cdLc ctLc : Value}
    {fLt : Addr} {odLt anLt : Option Addr} {slLt : Array (Option Value)} {ocLt kVLt dcLt pmLt cdLt ctLt : Value}
    {fLf : Addr} {odLf anLf : Option Addr} {slLf : Array (Option Value)} {ocLf kVLf dcLf pmLf cdLf ctLf : Value}
    {fRi : Addr} {odRi anRi : Option Addr} {slRi : Array (Option Value)} {ocRi kVRi dcRi pmRi cdRi ctRi : Value}
    (gCS : PySem.W.nsIn K mainGlobals "Sail" = some (some (.ref CS)))
    (gCL : PySem.W.nsIn K mainGlobals "Loft" = some (some (.ref CL)))
    (gCR : PySem.W.nsIn K mainGlobals "Refused" = some (some (.ref CR)))
    (pgCS : PySem.W.plainGet K CS Str.empty = true)
    (hdCS : PySem.W.hasDictIn K CS = true)
    (poCS : PySem.W.plainOver K CS = true)
    (saCS : PySem.W.findIn K (.ref CS) "__setattr__" = some (some (.builtin "object.__setattr__")))
    (mkCS : PySem.W.makesIn K CS = true)
    (kcCS : PySem.W.keepIn K (.ref CS) = true)
    (pgCL : PySem.W.plainGet K CL Str.empty = true)
    (hdCL : PySem.W.hasDictIn K CL = true)
    (poCL : PySem.W.plainOver K CL = true)
    (saCL : PySem.W.findIn K (.ref CL) "__setattr__" = some (some (.builtin "object.__setattr__")))
    (mkCL : PySem.W.makesIn K CL = true)
    (kcCL : PySem.W.keepIn K (.ref CL) = true)
    (nCS_least : PySem.W.findIn K (.ref CS) "least" = some none)
    (nCS_greatest : PySem.W.findIn K (.ref CS) "greatest" = some none)
    (nCS_price : PySem.W.findIn K (.ref CS) "price" = some none)
    (nCL_least : PySem.W.findIn K (.ref CL) "least" = some none)
    (nCL_greatest : PySem.W.findIn K (.ref CL) "greatest" = some none)
    (nCL_sails : PySem.W.findIn K (.ref CL) "sails" = some none)
    (xR : K.lookup CR = some (excClassObj nmR qR CR NR bsR [.type "ValueError", .type "Exception", .type "BaseException", .type "object"] true snR subR abR colR ddR m0 m1 m2 m3 m5 "ValueError.__new__"))
    (saR : PySem.W.findIn K (.ref CR) "__setattr__" = some (some (.builtin "object.__setattr__")))
    (gaR : PySem.W.findIn K (.ref CR) "__getattribute__" = some (some (.builtin "BaseException.__getattribute__")))
    (ggR : PySem.W.findIn K (.ref CR) "__getattr__" = some none)
    (noR : PySem.W.findIn K (.ref CR) "answered" = some none)
    (kR : PySem.W.keepIn K (.ref CR) = true)
    (eR : PySem.W.subIn K (.ref CR) (.type "BaseException") = some true)
    (tR : PySem.W.typeIn K (.ref CR) = some (.type "type"))
    (hR : PySem.W.hasDictIn K CR = true)
    (iR : PySem.W.isClsIn K CR = true)
    (sR : PySem.W.subIn K (.ref CR) (.ref CR) = some true)
    (vR : PySem.W.findCls K (.type "ValueError") (.type "type") "__init__" = some (.val (.builtin "ValueError.__init__")))
    (z_range : PySem.W.nsIn K mainGlobals "range" = some none)
    (z_enumerate : PySem.W.nsIn K mainGlobals "enumerate" = some none)
    (z_zip : PySem.W.nsIn K mainGlobals "zip" = some none)
    (z_list : PySem.W.nsIn K mainGlobals "list" = some none)
    (z_sum : PySem.W.nsIn K mainGlobals "sum" = some none)
    (z_len : PySem.W.nsIn K mainGlobals "len" = some none)
    (z_all : PySem.W.nsIn K mainGlobals "all" = some none)
    (z_min : PySem.W.nsIn K mainGlobals "min" = some none)
    (z_sorted : PySem.W.nsIn K mainGlobals "sorted" = some none)
    (z_set : PySem.W.nsIn K mainGlobals "set" = some none)
    (z_ve : PySem.W.nsIn K mainGlobals "ValueError" = some none)
    (v_bad : PySem.W.nsIn K mainGlobals "BAD" = some (some (.int (-1) tk_bad)))
    (v_tooMany : PySem.W.nsIn K mainGlobals "TOO_MANY" = some (some (.int (-5) tk_tooMany)))
    (v_lacking : PySem.W.nsIn K mainGlobals "LACKING" = some (some (.int (-6) tk_lacking)))
    (v_mostWind : PySem.W.nsIn K mainGlobals "MOST_WIND" = some (some (.int (40) tk_mostWind)))
    (v_mostPrice : PySem.W.nsIn K mainGlobals "MOST_PRICE" = some (some (.int (1000) tk_mostPrice)))
    (v_mostSails : PySem.W.nsIn K mainGlobals "MOST_SAILS" = some (some (.int (9) tk_mostSails)))
    (v_mostTimes : PySem.W.nsIn K mainGlobals "MOST_TIMES" = some (some (.int (3) tk_mostTimes)))
    (aN : PySem.W.nsIn K mainGlobals "NUMBERS" = some (some (.ref nt)))
    (lN : K.lookup nt = some ⟨.type "tuple", dN, .seq #[.int 2 q0, .int 3 q1, .int 2 q2, .int 1 q3, .int 0 q4] qn, slN⟩)
    (aSt : PySem.W.nsIn K mainGlobals "standing" = some (some (.ref fSt)))
    (lSt : K.lookup fSt = some ⟨ocSt, odSt, .func (PySem.W.fnOf "standing" "standing" (defArgs sStanding) (defBody sStanding) (defScope sStanding) .none kVSt dcSt pmSt anSt cdSt ctSt), slSt⟩)
    (cSt : PySem.W.codeIn K cdSt "standing" = true)
    (kSt : PySem.W.keepIn K (.ref fSt) = true)
    (aFa : PySem.W.nsIn K mainGlobals "farthest" = some (some (.ref fFa)))
    (lFa : K.lookup fFa = some ⟨ocFa, odFa, .func (PySem.W.fnOf "farthest" "farthest" (defArgs sFarthest) (defBody sFarthest) (defScope sFarthest) .none kVFa dcFa pmFa anFa cdFa ctFa), slFa⟩)
    (cFa : PySem.W.codeIn K cdFa "farthest" = true)
    (kFa : PySem.W.keepIn K (.ref fFa) = true)
    (aHa : PySem.W.nsIn K mainGlobals "has" = some (some (.ref fHa)))
    (lHa : K.lookup fHa = some ⟨ocHa, odHa, .func (PySem.W.fnOf "has" "has" (defArgs sHas) (defBody sHas) (defScope sHas) .none kVHa dcHa pmHa anHa cdHa ctHa), slHa⟩)
    (cHa : PySem.W.codeIn K cdHa "has" = true)
    (kHa : PySem.W.keepIn K (.ref fHa) = true)
    (aNu : PySem.W.nsIn K mainGlobals "numbers_in" = some (some (.ref fNu)))
    (lNu : K.lookup fNu = some ⟨ocNu, odNu, .func (PySem.W.fnOf "numbers_in" "numbers_in" (defArgs sNumsIn) (defBody sNumsIn) (defScope sNumsIn) .none kVNu dcNu pmNu anNu cdNu ctNu), slNu⟩)
    (cNu : PySem.W.codeIn K cdNu "numbers_in" = true)
    (kNu : PySem.W.keepIn K (.ref fNu) = true)
    (aAs : PySem.W.nsIn K mainGlobals "as_set" = some (some (.ref fAs)))
    (lAs : K.lookup fAs = some ⟨ocAs, odAs, .func (PySem.W.fnOf "as_set" "as_set" (defArgs sAsSet) (defBody sAsSet) (defScope sAsSet) .none kVAs dcAs pmAs anAs cdAs ctAs), slAs⟩)
    (cAs : PySem.W.codeIn K cdAs "as_set" = true)
    (kAs : PySem.W.keepIn K (.ref fAs) = true)
    (aSz : PySem.W.nsIn K mainGlobals "all_sizes" = some (some (.ref fSz)))
    (lSz : K.lookup fSz = some ⟨ocSz, odSz, .func (PySem.W.fnOf "all_sizes" "all_sizes" (defArgs sSizes) (defBody sSizes) (defScope sSizes) .none kVSz dcSz pmSz anSz cdSz ctSz), slSz⟩)
    (cSz : PySem.W.codeIn K cdSz "all_sizes" = true)
    (kSz : PySem.W.keepIn K (.ref fSz) = true)
    (aPr : PySem.W.nsIn K mainGlobals "all_prices" = some (some (.ref fPr)))
    (lPr : K.lookup fPr = some ⟨ocPr, odPr, .func (PySem.W.fnOf "all_prices" "all_prices" (defArgs sPrices) (defBody sPrices) (defScope sPrices) .none kVPr dcPr pmPr anPr cdPr ctPr), slPr⟩)
    (cPr : PySem.W.codeIn K cdPr "all_prices" = true)
    (kPr : PySem.W.keepIn K (.ref fPr) = true)
    (aSs : PySem.W.nsIn K mainGlobals "standing_sets" = some (some (.ref fSs)))
    (lSs : K.lookup fSs = some ⟨ocSs, odSs, .func (PySem.W.fnOf "standing_sets" "standing_sets" (defArgs sStandSets) (defBody sStandSets) (defScope sStandSets) .none kVSs dcSs pmSs anSs cdSs ctSs), slSs⟩)
    (cSs : PySem.W.codeIn K cdSs "standing_sets" = true)
    (kSs : PySem.W.keepIn K (.ref fSs) = true)
    (aIe : PySem.W.nsIn K mainGlobals "is_enough" = some (some (.ref fIe)))
    (lIe : K.lookup fIe = some ⟨ocIe, odIe, .func (PySem.W.fnOf "is_enough" "is_enough" (defArgs sIsEnough) (defBody sIsEnough) (defScope sIsEnough) .none kVIe dcIe pmIe anIe cdIe ctIe), slIe⟩)
    (cIe : PySem.W.codeIn K cdIe "is_enough" = true)
    (kIe : PySem.W.keepIn K (.ref fIe) = true)
    (aEn : PySem.W.nsIn K mainGlobals "enough_sets" = some (some (.ref fEn)))
    (lEn : K.lookup fEn = some ⟨ocEn, odEn, .func (PySem.W.fnOf "enough_sets" "enough_sets" (defArgs sEnough) (defBody sEnough) (defScope sEnough) .none kVEn dcEn pmEn anEn cdEn ctEn), slEn⟩)
    (cEn : PySem.W.codeIn K cdEn "enough_sets" = true)
    (kEn : PySem.W.keepIn K (.ref fEn) = true)
    (aBs : PySem.W.nsIn K mainGlobals "best_sets" = some (some (.ref fBs)))
    (lBs : K.lookup fBs = some ⟨ocBs, odBs, .func (PySem.W.fnOf "best_sets" "best_sets" (defArgs sBestSets) (defBody sBestSets) (defScope sBestSets) .none kVBs dcBs pmBs anBs cdBs ctBs), slBs⟩)
    (cBs : PySem.W.codeIn K cdBs "best_sets" = true)
    (kBs : PySem.W.keepIn K (.ref fBs) = true)
    (aWa : PySem.W.nsIn K mainGlobals "want" = some (some (.ref fWa)))
    (lWa : K.lookup fWa = some ⟨ocWa, odWa, .func (PySem.W.fnOf "want" "want" (defArgs sWant) (defBody sWant) (defScope sWant) .none kVWa dcWa pmWa anWa cdWa ctWa), slWa⟩)
    (cWa : PySem.W.codeIn K cdWa "want" = true)
    (kWa : PySem.W.keepIn K (.ref fWa) = true)
    (aAw : PySem.W.nsIn K mainGlobals "are_winds" = some (some (.ref fAw)))
    (lAw : K.lookup fAw = some ⟨ocAw, odAw, .func (PySem.W.fnOf "are_winds" "are_winds" (defArgs sAreWinds) (defBody sAreWinds) (defScope sAreWinds) .none kVAw dcAw pmAw anAw cdAw ctAw), slAw⟩)
    (cAw : PySem.W.codeIn K cdAw "are_winds" = true)
    (kAw : PySem.W.keepIn K (.ref fAw) = true)
    (aTo : PySem.W.nsIn K mainGlobals "told" = some (some (.ref fTo)))
    (lTo : K.lookup fTo = some ⟨ocTo, odTo, .func (PySem.W.fnOf "told" "told" (defArgs sTold) (defBody sTold) (defScope sTold) .none kVTo dcTo pmTo anTo cdTo ctTo), slTo⟩)
    (cTo : PySem.W.codeIn K cdTo "told" = true)
    (kTo : PySem.W.keepIn K (.ref fTo) = true)
    (aAn : PySem.W.nsIn K mainGlobals "answer" = some (some (.ref fAn)))
    (lAn : K.lookup fAn = some ⟨ocAn, odAn, .func (PySem.W.fnOf "answer" "answer" (defArgs sAnswer) (defBody sAnswer) (defScope sAnswer) .none kVAn dcAn pmAn anAn cdAn ctAn), slAn⟩)
    (cAn : PySem.W.codeIn K cdAn "answer" = true)
    (kAn : PySem.W.keepIn K (.ref fAn) = true)
    (aAl : PySem.W.nsIn K mainGlobals "answers" = some (some (.ref fAl)))
    (lAl : K.lookup fAl = some ⟨ocAl, odAl, .func (PySem.W.fnOf "answers" "answers" (defArgs sAnswers) (defBody sAnswers) (defScope sAnswers) .none kVAl dcAl pmAl anAl cdAl ctAl), slAl⟩)
    (cAl : PySem.W.codeIn K cdAl "answers" = true)
    (kAl : PySem.W.keepIn K (.ref fAl) = true)
    (aSi : PySem.W.findIn K (.ref CS) "__init__" = some (some (.ref fSi)))
    (iSi : PySem.W.isFn K (.ref fSi) = true)
    (lSi : K.lookup fSi = some ⟨ocSi, odSi, .func (PySem.W.fnOf "__init__" "Sail.__init__" (defArgs sSailInit) (defBody sSailInit) (defScope sSailInit) .none kVSi dcSi pmSi anSi cdSi ctSi), slSi⟩)
    (cSi : PySem.W.codeIn K cdSi "Sail.__init__" = true)
    (kSi : PySem.W.keepIn K (.ref fSi) = true)
    (aSn : PySem.W.findIn K (.ref CS) "stands_in" = some (some (.ref fSn)))
    (iSn : PySem.W.isFn K (.ref fSn) = true)
    (lSn : K.lookup fSn = some ⟨ocSn, odSn, .func (PySem.W.fnOf "stands_in" "Sail.stands_in" (defArgs sStandsIn) (defBody sStandsIn) (defScope sStandsIn) .none kVSn dcSn pmSn anSn cdSn ctSn), slSn⟩)
    (cSn : PySem.W.codeIn K cdSn "Sail.stands_in" = true)
    (kSn : PySem.W.keepIn K (.ref fSn) = true)
    (aLi : PySem.W.findIn K (.ref CL) "__init__" = some (some (.ref fLi)))
    (iLi : PySem.W.isFn K (.ref fLi) = true)
    (lLi : K.lookup fLi = some ⟨ocLi, odLi, .func (PySem.W.fnOf "__init__" "Loft.__init__" (defArgs sLoftInit) (defBody sLoftInit) (defScope sLoftInit) .none kVLi dcLi pmLi anLi cdLi ctLi), slLi⟩)
    (cLi : PySem.W.codeIn K cdLi "Loft.__init__" = true)
    (kLi : PySem.W.keepIn K (.ref fLi) = true)
    (aLw : PySem.W.findIn K (.ref CL) "winds" = some (some (.ref fLw)))
    (iLw : PySem.W.isFn K (.ref fLw) = true)
    (lLw : K.lookup fLw = some ⟨ocLw, odLw, .func (PySem.W.fnOf "winds" "Loft.winds" (defArgs sWinds) (defBody sWinds) (defScope sWinds) .none kVLw dcLw pmLw anLw cdLw ctLw), slLw⟩)
    (cLw : PySem.W.codeIn K cdLw "Loft.winds" = true)
    (kLw : PySem.W.keepIn K (.ref fLw) = true)
    (aLb : PySem.W.findIn K (.ref CL) "begin" = some (some (.ref fLb)))
    (iLb : PySem.W.isFn K (.ref fLb) = true)
    (lLb : K.lookup fLb = some ⟨ocLb, odLb, .func (PySem.W.fnOf "begin" "Loft.begin" (defArgs sBegin) (defBody sBegin) (defScope sBegin) .none kVLb dcLb pmLb anLb cdLb ctLb), slLb⟩)
    (cLb : PySem.W.codeIn K cdLb "Loft.begin" = true)
    (kLb : PySem.W.keepIn K (.ref fLb) = true)
    (aLp : PySem.W.findIn K (.ref CL) "put_sail" = some (some (.ref fLp)))
    (iLp : PySem.W.isFn K (.ref fLp) = true)
    (lLp : K.lookup fLp = some ⟨ocLp, odLp, .func (PySem.W.fnOf "put_sail" "Loft.put_sail" (defArgs sPutSail) (defBody sPutSail) (defScope sPutSail) .none kVLp dcLp pmLp anLp cdLp ctLp), slLp⟩)
    (cLp : PySem.W.codeIn K cdLp "Loft.put_sail" = true)
    (kLp : PySem.W.keepIn K (.ref fLp) = true)
    (aLc : PySem.W.findIn K (.ref CL) "check" = some (some (.ref fLc)))
    (iLc : PySem.W.isFn K (.ref fLc) = true)
    (lLc : K.lookup fLc = some ⟨ocLc, odLc, .func (PySem.W.fnOf "check" "Loft.check" (defArgs sCheck) (defBody sCheck) (defScope sCheck) .none kVLc dcLc pmLc anLc cdLc ctLc), slLc⟩)
    (cLc : PySem.W.codeIn K cdLc "Loft.check" = true)
    (kLc : PySem.W.keepIn K (.ref fLc) = true)
    (aLt : PySem.W.findIn K (.ref CL) "best" = some (some (.ref fLt)))
    (iLt : PySem.W.isFn K (.ref fLt) = true)
    (lLt : K.lookup fLt = some ⟨ocLt, odLt, .func (PySem.W.fnOf "best" "Loft.best" (defArgs sBest) (defBody sBest) (defScope sBest) .none kVLt dcLt pmLt anLt cdLt ctLt), slLt⟩)
    (cLt : PySem.W.codeIn K cdLt "Loft.best" = true)
    (kLt : PySem.W.keepIn K (.ref fLt) = true)
    (aLf : PySem.W.findIn K (.ref CL) "fewest" = some (some (.ref fLf)))
    (iLf : PySem.W.isFn K (.ref fLf) = true)
    (lLf : K.lookup fLf = some ⟨ocLf, odLf, .func (PySem.W.fnOf "fewest" "Loft.fewest" (defArgs sFewest) (defBody sFewest) (defScope sFewest) .none kVLf dcLf pmLf anLf cdLf ctLf), slLf⟩)
    (cLf : PySem.W.codeIn K cdLf "Loft.fewest" = true)
    (kLf : PySem.W.keepIn K (.ref fLf) = true)
    (aRi : PySem.W.findIn K (.ref CR) "__init__" = some (some (.ref fRi)))
    (tRi : PySem.W.typeIn K (.ref fRi) = some (.type "function"))
    (lRi : K.lookup fRi = some ⟨ocRi, odRi, .func (PySem.W.fnOf "__init__" "Refused.__init__" (defArgs sRefInit) (defBody sRefInit) (defScope sRefInit) .none kVRi dcRi pmRi anRi cdRi ctRi), slRi⟩)
    (cRi : PySem.W.codeIn K cdRi "Refused.__init__" = true)
    (kRi : PySem.W.keepIn K (.ref fRi) = true)
    : ∃ fd : FuncData, (∀ (s : Shared) (us : List Value), us.length = (["calls"] : List Str).length → BindsTo s fd ⟨us, []⟩ ((["calls"] : List Str).zip us)) ∧
      ∀ base : Heap, K.In base → base.Ns mainGlobals mg → FnOk P w K mg base CX0 9 fa fd ["calls"] (spAnswers K) := by
  have e := hfa.symm.trans (PySem.W.mg_of X G aAl)
  cases e
  have T : Txt K mg CS CL CR :=
    { clS := ⟨pgCS, hdCS, poCS, saCS⟩, clL := ⟨pgCL, hdCL, poCL, saCL⟩, nSl := nCS_least, nSg := nCS_greatest, nSp := nCS_price, nLl := nCL_least, nLg := nCL_greatest, nLs := nCL_sails,
      gS := PySem.W.mg_of X G gCS, gL := PySem.W.mg_of X G gCL, gR := PySem.W.mg_of X G gCR,
      oex := { cls := ⟨nmR, qR, NR, bsR, _, snR, subR, abR, colR, ddR, m0, m1, m2, m3, m5, xR, by decide +kernel⟩, sa := saR, exC := eR, tyC := tR, kC := kR },
      xf := ⟨gaR, ggR, eR, hR⟩, noA := noR, eR := exm_self eR iR tR sR, vV := vR,
      range := PySem.W.mg_none_of X G z_range, enumerate := PySem.W.mg_none_of X G z_enumerate, zip := PySem.W.mg_none_of X G z_zip, list := PySem.W.mg_none_of X G z_list, sum := PySem.W.mg_none_of X G z_sum, len := PySem.W.mg_none_of X G z_len, all := PySem.W.mg_none_of X G z_all, min := PySem.W.mg_none_of X G z_min, sorted := PySem.W.mg_none_of X G z_sorted, set := PySem.W.mg_none_of X G z_set, ve := PySem.W.mg_none_of X G z_ve,
      bad := ⟨_, PySem.W.mg_of X G v_bad⟩, tooMany := ⟨_, PySem.W.mg_of X G v_tooMany⟩, lacking := ⟨_, PySem.W.mg_of X G v_lacking⟩, mostWind := ⟨_, PySem.W.mg_of X G v_mostWind⟩, mostPrice := ⟨_, PySem.W.mg_of X G v_mostPrice⟩, mostSails := ⟨_, PySem.W.mg_of X G v_mostSails⟩, mostTimes := ⟨_, PySem.W.mg_of X G v_mostTimes⟩ }
  have FSt := fun_mk (st := sStanding) lSt cSt kSt
  have bSt := FSt.binds (ps := ["sails", "wind"]) fun _ _ _ _ _ _ us hl => match us, hl with | [_, _], _ => rfl
  have mSt := PySem.W.mg_of X G aSt
  have FFa := fun_mk (st := sFarthest) lFa cFa kFa
  have bFa := FFa.binds (ps := ["sails", "numbers"]) fun _ _ _ _ _ _ us hl => match us, hl with | [_, _], _ => rfl
  have mFa := PySem.W.mg_of X G aFa
  have FHa := fun_mk (st := sHas) lHa cHa kHa
  have bHa := FHa.binds (ps := ["chosen", "number"]) fun _ _ _ _ _ _ us hl => match us, hl with | [_, _], _ => rfl
  have mHa := PySem.W.mg_of X G aHa
  have FNu := fun_mk (st := sNumsIn) lNu cNu kNu
  have bNu := FNu.binds (ps := ["chosen", "many"]) fun _ _ _ _ _ _ us hl => match us, hl with | [_, _], _ => rfl
  have mNu := PySem.W.mg_of X G aNu
  have FAs := fun_mk (st := sAsSet) lAs cAs kAs
  have bAs := FAs.binds (ps := ["numbers"]) fun _ _ _ _ _ _ us hl => match us, hl with | [_], _ => rfl
  have mAs := PySem.W.mg_of X G aAs
  have FSz := fun_mk (st := sSizes) lSz cSz kSz
  have bSz := FSz.binds (ps := ["many"]) fun _ _ _ _ _ _ us hl => match us, hl with | [_], _ => rfl
  have mSz := PySem.W.mg_of X G aSz
  have FPr := fun_mk (st := sPrices) lPr cPr kPr
  have bPr := FPr.binds (ps := ["sails"]) fun _ _ _ _ _ _ us hl => match us, hl with | [_], _ => rfl
  have mPr := PySem.W.mg_of X G aPr
  have FSs := fun_mk (st := sStandSets) lSs cSs kSs
  have bSs := FSs.binds (ps := ["sails", "winds"]) fun _ _ _ _ _ _ us hl => match us, hl with | [_, _], _ => rfl
  have mSs := PySem.W.mg_of X G aSs
  have FIe := fun_mk (st := sIsEnough) lIe cIe kIe
  have bIe := FIe.binds (ps := ["chosen", "sizes", "wanted", "k"]) fun _ _ _ _ _ _ us hl => match us, hl with | [_, _, _, _], _ => rfl
  have mIe := PySem.W.mg_of X G aIe
  have FEn := fun_mk (st := sEnough) lEn cEn kEn
  have bEn := FEn.binds (ps := ["sails", "winds", "k"]) fun _ _ _ _ _ _ us hl => match us, hl with | [_, _, _], _ => rfl
  have mEn := PySem.W.mg_of X G aEn
  have FBs := fun_mk (st := sBestSets) lBs cBs kBs
  have bBs := FBs.binds (ps := ["sails", "winds", "k"]) fun _ _ _ _ _ _ us hl => match us, hl with | [_, _, _], _ => rfl
  have mBs := PySem.W.mg_of X G aBs
  have FWa := fun_mk (st := sWant) lWa cWa kWa
  have bWa := FWa.binds (ps := ["truth", "answered"]) fun _ _ _ _ _ _ us hl => match us, hl with | [_, _], _ => rfl
  have mWa := PySem.W.mg_of X G aWa
  have FAw := fun_mk (st := sAreWinds) lAw cAw kAw
  have bAw := FAw.binds (ps := ["least", "greatest"]) fun _ _ _ _ _ _ us hl => match us, hl with | [_, _], _ => rfl
  have mAw := PySem.W.mg_of X G aAw
  have FTo := fun_mk (st := sTold) lTo cTo kTo
  have bTo := FTo.binds (ps := ["loft", "call", "n"]) fun _ _ _ _ _ _ us hl => match us, hl with | [_, _, _], _ => rfl
  have mTo := PySem.W.mg_of X G aTo
  have FAn := fun_mk (st := sAnswer) lAn cAn kAn
  have bAn := FAn.binds (ps := ["loft", "call", "n"]) fun _ _ _ _ _ _ us hl => match us, hl with | [_, _, _], _ => rfl
  have mAn := PySem.W.mg_of X G aAn
  have FAl := fun_mk (st := sAnswers) lAl cAl kAl
  have mAl := PySem.W.mg_of X G aAl
  have FSi := fun_mk (st := sSailInit) lSi cSi kSi
  have bSi := FSi.binds (ps := ["self", "least", "greatest", "price"]) fun _ _ _ _ _ _ us hl => match us, hl with | [_, _, _, _], _ => rfl
  have FSn := fun_mk (st := sStandsIn) lSn cSn kSn
  have bSn := FSn.binds (ps := ["self", "wind"]) fun _ _ _ _ _ _ us hl => match us, hl with | [_, _], _ => rfl
  have FLi := fun_mk (st := sLoftInit) lLi cLi kLi
  have bLi := FLi.binds (ps := ["self"]) fun _ _ _ _ _ _ us hl => match us, hl with | [_], _ => rfl
  have FLw := fun_mk (st := sWinds) lLw cLw kLw
  have bLw := FLw.binds (ps := ["self"]) fun _ _ _ _ _ _ us hl => match us, hl with | [_], _ => rfl
  have FLb := fun_mk (st := sBegin) lLb cLb kLb
  have bLb := FLb.binds (ps := ["self", "least", "greatest"]) fun _ _ _ _ _ _ us hl => match us, hl with | [_, _, _], _ => rfl
  have FLp := fun_mk (st := sPutSail) lLp cLp kLp
  have bLp := FLp.binds (ps := ["self", "least", "greatest", "price"]) fun _ _ _ _ _ _ us hl => match us, hl with | [_, _, _, _], _ => rfl
  have FLc := fun_mk (st := sCheck) lLc cLc kLc
  have bLc := FLc.binds (ps := ["self", "k", "chosen"]) fun _ _ _ _ _ _ us hl => match us, hl with | [_, _, _], _ => rfl
  have FLt := fun_mk (st := sBest) lLt cLt kLt
  have bLt := FLt.binds (ps := ["self", "k"]) fun _ _ _ _ _ _ us hl => match us, hl with | [_, _], _ => rfl
  have FLf := fun_mk (st := sFewest) lLf cLf kLf
  have bLf := FLf.binds (ps := ["self"]) fun _ _ _ _ _ _ us hl => match us, hl with | [_], _ => rfl
  have FRi := fun_mk (st := sRefInit) lRi cRi kRi
  have bRi := FRi.binds (ps := ["self", "answered"]) fun _ _ _ _ _ _ us hl => match us, hl with | [_, _], _ => rfl
  refine ⟨PySem.W.fnOf "answers" "answers" (defArgs sAnswers) (defBody sAnswers) (defScope sAnswers) .none kVAl dcAl pmAl anAl cdAl ctAl, fun s us hu => match us, hu with | [_], _ => .of_eq rfl, fun base _ _ => ?_⟩
  have GSi : FnOk P w K mg base CX0 1 _ _ _ _ := ok_sailInit FSi T
  have GSt : FnOk P w K mg base CX0 2 _ _ _ _ := ok_standing FSt T FSn bSn ⟨aSn, iSn, kSn⟩
  have GFa : FnOk P w K mg base CX0 1 _ _ _ _ := ok_farthest FFa T
  have GNu : FnOk P w K mg base CX0 2 _ _ _ _ := ok_numsIn FNu T FHa bHa mHa
  have GAs : FnOk P w K mg base CX0 1 _ _ _ _ := ok_asSet FAs T
  have GSz : FnOk P w K mg base CX0 1 _ _ _ _ := ok_sizes FSz T
  have GPr : FnOk P w K mg base CX0 1 _ _ _ _ := ok_prices FPr T
  have GSs : FnOk P w K mg base CX0 3 _ _ _ _ := ok_standSets FSs T GSt kSt bSt mSt GAs kAs bAs mAs
  have GIe : FnOk P w K mg base CX0 1 _ _ _ _ := ok_isEnough FIe T
  have GEn : FnOk P w K mg base CX0 4 _ _ _ _ := ok_enough FEn T GSz kSz bSz mSz GSs kSs bSs mSs GIe kIe bIe mIe
  have GBs : FnOk P w K mg base CX0 5 _ _ _ _ := ok_bestSets FBs T GPr kPr bPr mPr GSz kSz bSz mSz GEn kEn bEn mEn
  have GWa : FnOk P w K mg base (L2.CX P w) 3 _ _ _ _ := ok_want FWa T FRi bRi aRi tRi
  have GAw : FnOk P w K mg base CX0 1 _ _ _ _ := ok_areWinds FAw T
  have GLi : FnOk P w K mg base CX0 1 _ _ _ _ := ok_loftInit FLi T
  have GLw : FnOk P w K mg base CX0 1 _ _ _ _ := ok_winds FLw T
  have GLb : FnOk P w K mg base (L2.CX P w) 4 _ _ _ _ := ok_begin FLb T GWa kWa bWa mWa GAw kAw bAw mAw
  have GLp : FnOk P w K mg base (L2.CX P w) 4 _ _ _ _ := ok_putSail FLp T GWa kWa bWa mWa GAw kAw bAw mAw GSi ⟨mkCS, aSi, iSi, kcCS⟩ bSi
  have GLc : FnOk P w K mg base (L2.CX P w) 4 _ _ _ _ := ok_check FLc T GWa kWa bWa mWa GNu kNu bNu mNu GLw bLw ⟨aLw, iLw, kLw⟩ GSt kSt bSt mSt
  have GLt : FnOk P w K mg base (L2.CX P w) 6 _ _ _ _ := ok_best FLt T GWa kWa bWa mWa GNu kNu bNu mNu GLw bLw ⟨aLw, iLw, kLw⟩ GBs kBs bBs mBs
  have GLf : FnOk P w K mg base (L2.CX P w) 4 _ _ _ _ := ok_fewest FLf T GWa kWa bWa mWa GSt kSt bSt mSt GFa kFa bFa mFa
  have GTo : FnOk P w K mg base (L2.CX P w) 7 _ _ _ _ := ok_told FTo T GLb bLb ⟨aLb, iLb, kLb⟩ GLp bLp ⟨aLp, iLp, kLp⟩ GLc bLc ⟨aLc, iLc, kLc⟩ GLt bLt ⟨aLt, iLt, kLt⟩ GLf bLf ⟨aLf, iLf, kLf⟩
  have GAn : FnOk P w K mg base CX0 8 _ _ _ _ := ok_answer FAn T GTo kTo bTo mTo
  exact ok_answers FAl T GAn kAn bAn mAn GLi ⟨mkCL, aLi, iLi, kcCL⟩ bLi (PySem.W.mg_of X G aN) (nums_tup lN)
end Sw
open PySem PySem.W PyProof.Rows
set_option maxRecDepth 100000 in
set_option maxHeartbeats 8000000 in
theorem PySem.Challenge.cw_sailwardrobe_s01_answers_holds : PySem.Challenge.rw_sailwardrobe_s01_answers.Holds := by
  w_on; k_headS; (case hw => exact ⟨[.list [.int 4]], by decide +kernel, by decide +kernel⟩)
  k_fillS
  refine L2.walk_specK (r := PySem.Challenge.rw_sailwardrobe_s01_answers) (k := 9) (CX := L2.CX0) (ps := ["calls"]) (sp := Sw.spAnswers) (by decide +kernel) rfl rfl ⟨rfl, by decide, by decide⟩ (fun w h Y => PySem.W.kIn_of Y) ?F ?S (fun _ _ _ _ z => z)
  case F =>
    intro w mg fa h Y KX G hmg
    refine' Sw.all_mk KX G hmg ?gCS ?gCL ?gCR ?pgCS ?hdCS ?poCS ?saCS ?mkCS ?kcCS ?pgCL ?hdCL ?poCL ?saCL ?mkCL ?kcCL ?nCS_least ?nCS_greatest ?nCS_price ?nCL_least ?nCL_greatest ?nCL_sails ?xR ?saR ?gaR ?ggR ?noR ?kR ?eR ?tR ?hR ?iR ?sR ?vR ?z_range ?z_enumerate ?z_zip ?z_list ?z_sum ?z_len ?z_all ?z_min ?z_sorted ?z_set ?z_ve ?v_bad ?v_tooMany ?v_lacking ?v_mostWind ?v_mostPrice ?v_mostSails ?v_mostTimes ?aN ?lN ?aSt ?lSt ?cSt ?kSt ?aFa ?lFa ?cFa ?kFa ?aHa ?lHa ?cHa ?kHa ?aNu ?lNu ?cNu ?kNu ?aAs ?lAs ?cAs ?kAs ?aSz ?lSz ?cSz ?kSz ?aPr ?lPr ?cPr ?kPr ?aSs ?lSs ?cSs ?kSs ?aIe ?lIe ?cIe ?kIe ?aEn ?lEn ?cEn ?kEn ?aBs ?lBs ?cBs ?kBs ?aWa ?lWa ?cWa ?kWa ?aAw ?lAw ?cAw ?kAw ?aTo ?lTo ?cTo ?kTo ?aAn ?lAn ?cAn ?kAn ?aAl ?lAl ?cAl ?kAl ?aSi ?iSi ?lSi ?cSi ?kSi ?aSn ?iSn ?lSn ?cSn ?kSn ?aLi ?iLi ?lLi ?cLi ?kLi ?aLw ?iLw ?lLw ?cLw ?kLw ?aLb ?iLb ?lLb ?cLb ?kLb ?aLp ?iLp ?lLp ?cLp ?kLp ?aLc ?iLc ?lLc ?cLc ?kLc ?aLt ?iLt ?lLt ?cLt ?kLt ?aLf ?iLf ?lLf ?cLf ?kLf ?aRi ?tRi ?lRi ?cRi ?kRi
    (case gCS => k_is)
    (case gCL => k_is)
    (case gCR => k_is)
    (case pgCS => k_is)
    (case hdCS => k_is)
    (case poCS => k_is)
    (case saCS => k_is)
    (case mkCS => k_is)
    (case kcCS => k_is)
    (case pgCL => k_is)
    (case hdCL => k_is)
    (case poCL => k_is)
    (case saCL => k_is)
    (case mkCL => k_is)
    (case kcCL => k_is)
    (case nCS_least => k_is)
    (case nCS_greatest => k_is)
    (case nCS_price => k_is)
    (case nCL_least => k_is)
    (case nCL_greatest => k_is)
    (case nCL_sails => k_is)
    (case xR => k_is)
    (case saR => k_is)
    (case gaR => k_is)
    (case ggR => k_is)
    (case noR => k_is)
    (case kR => k_is)
    (case eR => k_is)
    (case tR => k_is)
    (case hR => k_is)
    (case iR => k_is)
    (case sR => first | k_is | rfl | decide +kernel)
    (case vR => first | k_is | rfl | decide +kernel)
    (case z_range => k_is)
    (case z_enumerate => k_is)
    (case z_zip => k_is)
    (case z_list => k_is)
    (case z_sum => k_is)
    (case z_len => k_is)
    (case z_all => k_is)
    (case z_min => k_is)
    (case z_sorted => k_is)
    (case z_set => k_is)
    (case z_ve => k_is)
    (case v_bad => k_is)
    (case v_tooMany => k_is)
    (case v_lacking => k_is)
    (case v_mostWind => k_is)
    (case v_mostPrice => k_is)
    (case v_mostSails => k_is)
    (case v_mostTimes => k_is)
    (case aN => k_is)
    (case lN => k_is)
    (case aSt => k_is)
    (case lSt => k_is)
    (case cSt => k_is)
    (case kSt => k_is)
    (case aFa => k_is)
    (case lFa => k_is)
    (case cFa => k_is)
    (case kFa => k_is)
    (case aHa => k_is)
    (case lHa => k_is)
    (case cHa => k_is)
    (case kHa => k_is)
    (case aNu => k_is)
    (case lNu => k_is)
    (case cNu => k_is)
    (case kNu => k_is)
    (case aAs => k_is)
    (case lAs => k_is)
    (case cAs => k_is)
    (case kAs => k_is)
    (case aSz => k_is)
    (case lSz => k_is)
    (case cSz => k_is)
    (case kSz => k_is)
    (case aPr => k_is)
    (case lPr => k_is)
    (case cPr => k_is)
    (case kPr => k_is)
    (case aSs => k_is)
    (case lSs => k_is)
    (case cSs => k_is)
    (case kSs => k_is)
    (case aIe => k_is)
    (case lIe => k_is)
    (case cIe => k_is)
    (case kIe => k_is)
    (case aEn => k_is)
    (case lEn => k_is)
    (case cEn => k_is)
    (case kEn => k_is)
    (case aBs => k_is)
    (case lBs => k_is)
    (case cBs => k_is)
    (case kBs => k_is)
    (case aWa => k_is)
    (case lWa => k_is)
    (case cWa => k_is)
    (case kWa => k_is)
    (case aAw => k_is)
    (case lAw => k_is)
    (case cAw => k_is)
    (case kAw => k_is)
    (case aTo => k_is)
    (case lTo => k_is)
    (case cTo => k_is)
    (case kTo => k_is)
    (case aAn => k_is)
    (case lAn => k_is)
    (case cAn => k_is)
    (case kAn => k_is)
    (case aAl => k_is)
    (case lAl => k_is)
    (case cAl => k_is)
    (case kAl => k_is)
    (case aSi => k_is)
    (case iSi => k_is)
    (case lSi => k_is)
    (case cSi => k_is)
    (case kSi => k_is)
    (case aSn => k_is)
    (case iSn => k_is)
    (case lSn => k_is)
    (case cSn => k_is)
    (case kSn => k_is)
    (case aLi => k_is)
    (case iLi => k_is)
    (case lLi => k_is)
    (case cLi => k_is)
    (case kLi => k_is)
    (case aLw => k_is)
    (case iLw => k_is)
    (case lLw => k_is)
    (case cLw => k_is)
    (case kLw => k_is)
    (case aLb => k_is)
    (case iLb => k_is)
    (case lLb => k_is)
    (case cLb => k_is)
    (case kLb => k_is)
    (case aLp => k_is)
    (case iLp => k_is)
    (case lLp => k_is)
    (case cLp => k_is)
    (case kLp => k_is)
    (case aLc => k_is)
    (case iLc => k_is)
    (case lLc => k_is)
    (case cLc => k_is)
    (case kLc => k_is)
    (case aLt => k_is)
    (case iLt => k_is)
    (case lLt => k_is)
    (case cLt => k_is)
    (case kLt => k_is)
    (case aLf => k_is)
    (case iLf => k_is)
    (case lLf => k_is)
    (case cLf => k_is)
    (case kLf => k_is)
    (case aRi => k_is)
    (case tRi => k_is)
    (case lRi => k_is)
    (case cRi => k_is)
    (case kRi => k_is)
  case S =>
    intro K H xs a hO hwi hask hx
    cases hx with
    | cons h1 h2 =>
      cases h2
      cases h1 with
      | lst hs ha =>
        have e := L2.ints_dw a.1 _ ha
        subst e
        exact ⟨_, a.1, rfl, hs, hask, fun H' p hp => .lst (L2.SqL.of hp) (L2.dw_ints _)⟩
#print axioms PySem.Challenge.cw_sailwardrobe_s01_answers_holds
