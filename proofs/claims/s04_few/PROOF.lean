import PyProof.Rows.All
import Wide.All
import OpenK.AllK
import Wide.FinOn
import PyProof.EqAt
import PyProof.EqKinds
import PyProof.TupleCall
import Open.SpecLaws
import KE.OsGo
import PySem.Challenge.RW_levelgroups_s04_few
import HandS.ForSpec
import HandS.Comp
import HandS.Dict
import HandS.Iter
import HandS.Walk
import HandS.Zip
import HandS.SortInts
import HandS.SetFor
import HandS.RevTup
import HandS.Rev
import HandS.ExcInit
import HandS.ExcField
set_option Elab.async false
set_option linter.all false
set_option maxRecDepth 100000
set_option maxHeartbeats 2000000
/-! The mathematics: what the program's loops keep, told of the specification's own functions. Plain Lean. -/
namespace Lg

/-! ### the cuts -/
theorem cuts_zero (size n : Nat) : Ks438.cuts size n 0 = [[]] := by cases n <;> rfl
theorem cuts_none (size m : Nat) (h : m ≠ 0) : Ks438.cuts size 0 m = [] := by simp [Ks438.cuts, h]
theorem cuts_succ (size n m : Nat) (h : m ≠ 0) : Ks438.cuts size (n + 1) m =
    (List.range (min size m)).flatMap fun i => (Ks438.cuts size n (m - (i + 1))).map fun r => (i + 1) :: r := by
  simp [Ks438.cuts, h]
theorem mem_cuts (size : Nat) : ∀ (n m : Nat) (c : List Nat), c ∈ Ks438.cuts size n m ↔ c.sum = m ∧ c.length ≤ n ∧ ∀ x ∈ c, 1 ≤ x ∧ x ≤ size
  | n, 0, c => by
    rw [cuts_zero, List.mem_singleton]
    constructor
    · rintro rfl
      simp
    · rintro ⟨h1, _, h3⟩
      cases c with
      | nil => rfl
      | cons x r =>
        have z := h3 x (List.mem_cons_self ..)
        rw [List.sum_cons] at h1
        omega
  | 0, m + 1, c => by
    rw [cuts_none size (m + 1) (by omega)]
    constructor
    · intro h
      cases h
    · rintro ⟨h1, h2, _⟩
      cases c with
      | nil => simp at h1
      | cons x r => simp at h2
  | n + 1, m + 1, c => by
    rw [cuts_succ size n (m + 1) (by omega)]
    simp only [List.mem_flatMap, List.mem_range, List.mem_map]
    constructor
    · rintro ⟨i, hi, r, hr, rfl⟩
      obtain ⟨h1, h2, h3⟩ := (mem_cuts size n _ r).mp hr
      refine ⟨?_, ?_, ?_⟩
      · rw [List.sum_cons]
        omega
      · rw [List.length_cons]
        omega
      · intro x hx
        rcases List.mem_cons.mp hx with e | hx
        · omega
        · exact h3 x hx
    · rintro ⟨h1, h2, h3⟩
      cases c with
      | nil => simp at h1
      | cons x r =>
        have z := h3 x (List.mem_cons_self ..)
        rw [List.sum_cons] at h1
        rw [List.length_cons] at h2
        refine ⟨x - 1, by omega, r, (mem_cuts size n _ r).mpr ⟨by omega, by omega, fun y hy => h3 y (List.mem_cons_of_mem _ hy)⟩, ?_⟩
        congr 1
        omega
/-- there are pieces just if all children fit -/
theorem cuts_empty (size : Nat) (h0 : 1 ≤ size) : ∀ (n m : Nat), Ks438.cuts size n m = [] ↔ n * size < m
  | n, 0 => by
    rw [cuts_zero]
    simp
  | 0, m + 1 => by
    rw [cuts_none size (m + 1) (by omega)]
    simp
  | n + 1, m + 1 => by
    have e : (n + 1) * size = n * size + size := Nat.succ_mul n size
    constructor
    · intro h
      have k := (cuts_empty size h0 n (m + 1 - min size (m + 1))).mp ?_
      · omega
      · rw [cuts_succ size n (m + 1) (by omega)] at h
        have q := List.flatMap_eq_nil_iff.mp h (min size (m + 1) - 1) (by rw [List.mem_range]; omega)
        have q' := List.map_eq_nil_iff.mp q
        have z : m + 1 - (min size (m + 1) - 1 + 1) = m + 1 - min size (m + 1) := by omega
        rw [z] at q'
        exact q'
    · intro h
      cases q : Ks438.cuts size (n + 1) (m + 1) with
      | nil => rfl
      | cons c r =>
        exfalso
        have hc : c ∈ Ks438.cuts size (n + 1) (m + 1) := by
          rw [q]
          exact List.mem_cons_self ..
        obtain ⟨h1, h2, h3⟩ := (mem_cuts size _ _ c).mp hc
        have k : ∀ (l : List Nat), (∀ x ∈ l, 1 ≤ x ∧ x ≤ size) → l.sum ≤ l.length * size := by
          intro l
          induction l with
          | nil => simp
          | cons a l ih =>
            intro hl
            have z := hl a (List.mem_cons_self ..)
            have zz := ih fun x hx => hl x (List.mem_cons_of_mem _ hx)
            rw [List.sum_cons, List.length_cons, Nat.succ_mul]
            omega
        have k1 := k c h3
        have k2 : c.length * size ≤ (n + 1) * size := Nat.mul_le_mul_right size h2
        omega

/-! ### the walk that finds them -/
/-- all that p can be made of -/
def comp (ch n size : Nat) (p : List Nat) : List (List Nat) := (Ks438.cuts size (n - p.length) (ch - p.sum)).map fun r => p ++ r
/-- p with one more piece behind it -/
def longer (p : List Nat) (left size : Nat) : List (List Nat) := (List.range (min size left)).map fun i => p ++ [i + 1]
theorem comp_full {ch n size : Nat} {p : List Nat} (h : p.sum = ch) : comp ch n size p = [p] := by
  unfold comp
  rw [h, Nat.sub_self, cuts_zero]
  simp
theorem comp_stop {ch n size : Nat} {p : List Nat} (h : p.sum < ch) (hn : ¬ p.length < n) : comp ch n size p = [] := by
  unfold comp
  rw [show n - p.length = 0 by omega, cuts_none size _ (by omega)]
  rfl
theorem comp_grow {ch n size : Nat} {p : List Nat} (h : p.sum < ch) (hn : p.length < n) : comp ch n size p = (longer p (ch - p.sum) size).flatMap (comp ch n size) := by
  unfold longer
  rw [List.flatMap_map]
  show (Ks438.cuts size (n - p.length) (ch - p.sum)).map (fun r => p ++ r) = _
  rw [show n - p.length = (n - (p.length + 1)) + 1 by omega, cuts_succ size _ _ (by omega), List.map_flatMap]
  congr 1
  funext i
  unfold comp
  rw [List.map_map, List.length_append, List.sum_append]
  show _ = List.map _ (Ks438.cuts size (n - (p.length + 1)) (ch - (p.sum + (i + 1))))
  rw [show ch - (p.sum + (i + 1)) = ch - p.sum - (i + 1) by omega]
  congr 1
  funext r
  simp
/-- how much a stack can still give -/
def weight (ch : Nat) (ws : List (List Nat)) : Nat := (ws.map fun p => 2 ^ (ch - p.sum)).sum
theorem weight_append (ch : Nat) (a b : List (List Nat)) : weight ch (a ++ b) = weight ch a + weight ch b := by
  unfold weight
  rw [List.map_append, List.sum_append]
theorem weight_one (ch : Nat) (p : List Nat) : weight ch [p] = 2 ^ (ch - p.sum) := by
  simp [weight]
theorem weight_pos (ch : Nat) (p : List Nat) : 1 ≤ weight ch [p] := by
  rw [weight_one]
  exact Nat.pos_of_ne_zero (by simp)
theorem length_le_weight (ch : Nat) : ∀ ws : List (List Nat), ws.length ≤ weight ch ws
  | [] => Nat.zero_le _
  | p :: r => by
    have ih := length_le_weight ch r
    have z := weight_pos ch p
    have e : weight ch (p :: r) = weight ch [p] + weight ch r := weight_append ch [p] r
    rw [e, List.length_cons]
    omega
theorem sum_reverse : ∀ l : List Nat, l.reverse.sum = l.sum
  | [] => rfl
  | a :: l => by
    rw [List.reverse_cons, List.sum_append, sum_reverse l, List.sum_cons]
    simp
    omega
theorem weight_reverse (ch : Nat) (ws : List (List Nat)) : weight ch ws.reverse = weight ch ws := by
  unfold weight
  rw [List.map_reverse, sum_reverse]
theorem geo (L : Nat) : ∀ k, k ≤ L → ((List.range k).map fun i => 2 ^ (L - (i + 1))).sum + 2 ^ (L - k) = 2 ^ L
  | 0, _ => by simp
  | k + 1, h => by
    have ih := geo L k (by omega)
    rw [List.range_succ, List.map_append, List.sum_append]
    have e : 2 ^ (L - k) = 2 ^ (L - (k + 1)) + 2 ^ (L - (k + 1)) := by
      rw [show L - k = (L - (k + 1)) + 1 by omega, Nat.pow_succ]
      omega
    simp only [List.map_cons, List.map_nil, List.sum_cons, List.sum_nil]
    omega
theorem weight_longer {ch size : Nat} {p : List Nat} (h : p.sum < ch) : weight ch (longer p (ch - p.sum) size) < weight ch [p] := by
  rw [weight_one]
  unfold weight longer
  rw [List.map_map]
  have e : (fun i => 2 ^ (ch - p.sum - (i + 1))) = ((fun q : List Nat => 2 ^ (ch - q.sum)) ∘ fun i => p ++ [i + 1]) := by
    funext i
    show _ = 2 ^ (ch - (p ++ [i + 1]).sum)
    rw [List.sum_append]
    congr 1
    simp
    omega
  rw [← e]
  have z := geo (ch - p.sum) (min size (ch - p.sum)) (by omega)
  have zz : 0 < 2 ^ (ch - p.sum - min size (ch - p.sum)) := Nat.pos_of_ne_zero (by simp)
  omega
/-- what the loop of all_pieces keeps: found so far, waiting -/
structure Walk (ch n size : Nat) (done ws : List (List Nat)) : Prop where
  eq : done ++ ws.reverse.flatMap (comp ch n size) = Ks438.cuts size n ch
  le : ∀ p ∈ ws, p.sum ≤ ch
  wt : done.length + weight ch ws ≤ 2 ^ ch
theorem Walk.start (ch n size : Nat) : Walk ch n size [] [[]] := by
  refine ⟨?_, ?_, ?_⟩
  · simp [comp]
  · simp
  · simp [weight]
theorem Walk.full {ch n size : Nat} {done ws : List (List Nat)} {p : List Nat} (w : Walk ch n size done (ws ++ [p])) (h : p.sum = ch) : Walk ch n size (done ++ [p]) ws := by
  refine ⟨?_, fun q hq => w.le q (List.mem_append_left _ hq), ?_⟩
  · have e := w.eq
    rw [List.reverse_append, List.reverse_singleton, List.singleton_append, List.flatMap_cons, comp_full h] at e
    rw [← e, List.append_assoc]
  · have e := w.wt
    have z := weight_pos ch p
    rw [weight_append] at e
    rw [List.length_append, List.length_singleton]
    omega
theorem Walk.stop {ch n size : Nat} {done ws : List (List Nat)} {p : List Nat} (w : Walk ch n size done (ws ++ [p])) (h : p.sum ≠ ch) (hn : ¬ p.length < n) : Walk ch n size done ws := by
  have hp := w.le p (by simp)
  refine ⟨?_, fun q hq => w.le q (List.mem_append_left _ hq), ?_⟩
  · have e := w.eq
    rw [List.reverse_append, List.reverse_singleton, List.singleton_append, List.flatMap_cons, comp_stop (by omega) hn] at e
    exact e
  · have e := w.wt
    rw [weight_append] at e
    omega
theorem Walk.grow {ch n size : Nat} {done ws : List (List Nat)} {p : List Nat} (w : Walk ch n size done (ws ++ [p])) (h : p.sum ≠ ch) (hn : p.length < n) :
    Walk ch n size done (ws ++ (longer p (ch - p.sum) size).reverse) := by
  have hp := w.le p (by simp)
  refine ⟨?_, ?_, ?_⟩
  · have e := w.eq
    rw [List.reverse_append, List.reverse_singleton, List.singleton_append, List.flatMap_cons, comp_grow (by omega) hn] at e
    rw [List.reverse_append, List.reverse_reverse, List.flatMap_append]
    exact e
  · intro q hq
    rcases List.mem_append.mp hq with hq | hq
    · exact w.le q (List.mem_append_left _ hq)
    · rw [List.mem_reverse] at hq
      unfold longer at hq
      obtain ⟨i, hi, rfl⟩ := List.mem_map.mp hq
      rw [List.mem_range] at hi
      rw [List.sum_append]
      simp
      omega
  · have e := w.wt
    have z := weight_longer (size := size) (show p.sum < ch by omega)
    rw [weight_append] at e
    rw [weight_append, weight_reverse]
    omega
theorem Walk.fin {ch n size : Nat} {done : List (List Nat)} (w : Walk ch n size done []) : done = Ks438.cuts size n ch := by
  have e := w.eq
  simpa using e
/-- the three weights behind a turn are less -/
theorem Walk.less_drop {ch : Nat} {ws : List (List Nat)} {p : List Nat} : weight ch ws < weight ch (ws ++ [p]) := by
  have z := weight_pos ch p
  rw [weight_append]
  omega
theorem Walk.less_grow {ch size : Nat} {ws : List (List Nat)} {p : List Nat} (h : p.sum < ch) : weight ch (ws ++ (longer p (ch - p.sum) size).reverse) < weight ch (ws ++ [p]) := by
  have z := weight_longer (size := size) h
  rw [weight_append, weight_append, weight_reverse]
  omega
theorem Walk.small {ch n size : Nat} {done ws : List (List Nat)} (w : Walk ch n size done ws) (h : ch ≤ 9) : done.length ≤ 512 ∧ ws.length ≤ 512 := by
  have e := w.wt
  have z := length_le_weight ch ws
  have k : 2 ^ ch ≤ 2 ^ 9 := Nat.pow_le_pow_right (by decide) h
  have k9 : 2 ^ 9 = 512 := by decide
  omega

/-! ### the first of the least -/
theorem first_snoc (f : List Nat → Nat) (l : List (List Nat)) (c : List Nat) :
    Ks438.first f (l ++ [c]) = some (match Ks438.first f l with | none => c | some b => if f c < f b then c else b) := by
  cases l with
  | nil => rfl
  | cons a r =>
    show some ((r ++ [c]).foldl _ a) = some (if f c < f (r.foldl _ a) then c else _)
    rw [List.foldl_append]
    rfl
theorem first_mem {f : List Nat → Nat} : ∀ {l : List (List Nat)} {x : List Nat}, Ks438.first f l = some x → x ∈ l := by
  intro l x h
  cases l with
  | nil => cases h
  | cons a r =>
    have e : r.foldl (fun b c => if f c < f b then c else b) a = x := Option.some.inj h
    have k : ∀ (r : List (List Nat)) (a : List Nat), r.foldl (fun b c => if f c < f b then c else b) a ∈ a :: r := by
      intro r
      induction r with
      | nil =>
        intro a
        simp
      | cons b r ih =>
        intro a
        rw [List.foldl_cons]
        have z := ih (if f b < f a then b else a)
        rcases List.mem_cons.mp z with z | z
        · rw [z]
          split
          · simp
          · simp
        · exact List.mem_cons_of_mem _ (List.mem_cons_of_mem _ z)
    rw [← e]
    exact k r a
theorem first_least {f : List Nat → Nat} : ∀ {l : List (List Nat)} {x : List Nat}, Ks438.first f l = some x → ∀ y ∈ l, f x ≤ f y := by
  intro l x h
  cases l with
  | nil => cases h
  | cons a r =>
    have e : r.foldl (fun b c => if f c < f b then c else b) a = x := Option.some.inj h
    have k : ∀ (r : List (List Nat)) (a : List Nat), ∀ y ∈ a :: r, f (r.foldl (fun b c => if f c < f b then c else b) a) ≤ f y := by
      intro r
      induction r with
      | nil =>
        intro a y hy
        have e : y = a := by simpa using hy
        rw [e]
        exact Nat.le_refl _
      | cons b r ih =>
        intro a y hy
        rw [List.foldl_cons]
        have z := ih (if f b < f a then b else a)
        rcases List.mem_cons.mp hy with hy | hy
        · have z1 := z _ (List.mem_cons_self ..)
          rw [hy]
          by_cases q : f b < f a
          · rw [if_pos q] at z1 ⊢
            omega
          · rw [if_neg q] at z1 ⊢
            exact z1
        · rcases List.mem_cons.mp hy with hy | hy
          · have z1 := z _ (List.mem_cons_self ..)
            rw [hy]
            by_cases q : f b < f a
            · rw [if_pos q] at z1 ⊢
              exact z1
            · rw [if_neg q] at z1 ⊢
              omega
          · exact z y (List.mem_cons_of_mem _ hy)
    rw [← e]
    exact k r a
theorem first_some {f : List Nat → Nat} {l : List (List Nat)} (h : l ≠ []) : ∃ x, Ks438.first f l = some x := by
  cases l with
  | nil => exact absurd rfl h
  | cons a r => exact ⟨_, rfl⟩
theorem first_none {f : List Nat → Nat} {l : List (List Nat)} (h : Ks438.first f l = none) : l = [] := by
  cases l with
  | nil => rfl
  | cons a r => cases h

/-! ### the pieces of a row -/
theorem pieces_snoc : ∀ (c : List Nat) (l : List Nat) (k : Nat), Ks438.pieces l (c ++ [k]) = Ks438.pieces l c ++ [(l.drop c.sum).take k]
  | [], l, k => by simp [Ks438.pieces]
  | a :: c, l, k => by
    have ih := pieces_snoc c (l.drop a) k
    show l.take a :: Ks438.pieces (l.drop a) (c ++ [k]) = l.take a :: Ks438.pieces (l.drop a) c ++ [_]
    rw [ih, List.drop_drop, List.sum_cons]
    rfl
theorem pieces_length : ∀ (c l : List Nat), (Ks438.pieces l c).length = c.length
  | [], _ => rfl
  | a :: c, l => by
    show (Ks438.pieces (l.drop a) c).length + 1 = c.length + 1
    rw [pieces_length c]
/-- the spreads of the pieces -/
def spreads (s c : List Nat) : List Nat := (Ks438.pieces s c).map Ks438.spread
theorem spreads_snoc (s c : List Nat) (k : Nat) : spreads s (c ++ [k]) = spreads s c ++ [Ks438.spread ((s.drop c.sum).take k)] := by
  unfold spreads
  rw [pieces_snoc, List.map_append]
  rfl
theorem spreads_length (s c : List Nat) : (spreads s c).length = c.length := by
  unfold spreads
  rw [List.length_map, pieces_length]
def top (l : List Nat) : Nat := l.foldl max 0
theorem top_snoc (l : List Nat) (k : Nat) : top (l ++ [k]) = max (top l) k := by
  unfold top
  rw [List.foldl_append]
  rfl
theorem greatest_eq (s c : List Nat) : Ks438.greatest s c = top (spreads s c) := rfl
theorem sum_eq (s c : List Nat) : Ks438.sum s c = (spreads s c).sum := rfl

/-! ### a spread -/
theorem max_of (a : Nat) (r : List Nat) : r.foldl max a ∈ a :: r ∧ ∀ y ∈ a :: r, y ≤ r.foldl max a := by
  induction r generalizing a with
  | nil => simp
  | cons b r ih =>
    rw [List.foldl_cons]
    obtain ⟨h1, h2⟩ := ih (max a b)
    constructor
    · rcases List.mem_cons.mp h1 with e | e
      · rw [e]
        by_cases q : a ≤ b
        · rw [Nat.max_eq_right q]
          simp
        · rw [Nat.max_eq_left (by omega)]
          simp
      · exact List.mem_cons_of_mem _ (List.mem_cons_of_mem _ e)
    · intro y hy
      have z := h2 (max a b) (List.mem_cons_self ..)
      rcases List.mem_cons.mp hy with e | hy
      · omega
      · rcases List.mem_cons.mp hy with e | hy
        · omega
        · exact h2 y (List.mem_cons_of_mem _ hy)
theorem min_of (a : Nat) (r : List Nat) : r.foldl min a ∈ a :: r ∧ ∀ y ∈ a :: r, r.foldl min a ≤ y := by
  induction r generalizing a with
  | nil => simp
  | cons b r ih =>
    rw [List.foldl_cons]
    obtain ⟨h1, h2⟩ := ih (min a b)
    constructor
    · rcases List.mem_cons.mp h1 with e | e
      · rw [e]
        by_cases q : a ≤ b
        · rw [Nat.min_eq_left q]
          simp
        · rw [Nat.min_eq_right (by omega)]
          simp
      · exact List.mem_cons_of_mem _ (List.mem_cons_of_mem _ e)
    · intro y hy
      have z := h2 (min a b) (List.mem_cons_self ..)
      rcases List.mem_cons.mp hy with e | hy
      · omega
      · rcases List.mem_cons.mp hy with e | hy
        · omega
        · exact h2 y (List.mem_cons_of_mem _ hy)
/-- a list of naturals as toI -/
abbrev toI (l : List Nat) : List Int := l.map fun (n : Nat) => (n : Int)
/-- a greatest less a least, whichever they are -/
theorem spread_is {a : Nat} {r : List Nat} {m k : Int} (hm : m ∈ toI (a :: r)) (hm' : ∀ y ∈ toI (a :: r), y ≤ m) (hk : k ∈ toI (a :: r)) (hk' : ∀ y ∈ toI (a :: r), k ≤ y) :
    m - k = ((Ks438.spread (a :: r) : Nat) : Int) := by
  obtain ⟨m', hm1, rfl⟩ := List.mem_map.mp hm
  obtain ⟨k', hk1, rfl⟩ := List.mem_map.mp hk
  obtain ⟨h1, h2⟩ := max_of a r
  obtain ⟨h3, h4⟩ := min_of a r
  have e1 := h2 m' hm1
  have e2 := h4 k' hk1
  have e3 : ((r.foldl max a : Nat) : Int) ≤ (m' : Int) := hm' _ (List.mem_map.mpr ⟨_, h1, rfl⟩)
  have e4 : (k' : Int) ≤ ((r.foldl min a : Nat) : Int) := hk' _ (List.mem_map.mpr ⟨_, h3, rfl⟩)
  have e5 := h2 _ h3
  show (m' : Int) - (k' : Int) = ((r.foldl max a - r.foldl min a : Nat) : Int)
  omega
theorem toI_sum : ∀ l : List Nat, (toI l).sum = ((l.sum : Nat) : Int)
  | [] => rfl
  | a :: l => by
    show (a : Int) + (toI l).sum = _
    rw [toI_sum l, List.sum_cons]
    omega

/-! ### the row -/
theorem insert_perm (x : Nat) : ∀ l : List Nat, (Ks438.insert x l).Perm (x :: l)
  | [] => .refl _
  | y :: l => by
    unfold Ks438.insert
    split
    · exact .refl _
    · exact ((insert_perm x l).cons y).trans (.swap x y l)
theorem sorted_perm : ∀ l : List Nat, (Ks438.sorted l).Perm l
  | [] => .refl _
  | a :: l => (insert_perm a (Ks438.sorted l)).trans ((sorted_perm l).cons a)
theorem insert_sorted (x : Nat) : ∀ l : List Nat, l.Pairwise (· ≤ ·) → (Ks438.insert x l).Pairwise (· ≤ ·)
  | [], _ => by simp [Ks438.insert]
  | y :: l, h => by
    obtain ⟨h1, h2⟩ := List.pairwise_cons.mp h
    unfold Ks438.insert
    split
    · rename_i q
      refine List.pairwise_cons.mpr ⟨fun z hz => ?_, h⟩
      rcases List.mem_cons.mp hz with e | hz
      · omega
      · have := h1 z hz
        omega
    · rename_i q
      refine List.pairwise_cons.mpr ⟨fun z hz => ?_, insert_sorted x l h2⟩
      rcases List.mem_cons.mp ((insert_perm x l).mem_iff.mp hz) with e | hz
      · omega
      · exact h1 z hz
theorem sorted_sorted : ∀ l : List Nat, (Ks438.sorted l).Pairwise (· ≤ ·)
  | [] => List.Pairwise.nil
  | a :: l => insert_sorted a _ (sorted_sorted l)
theorem sorted_length (l : List Nat) : (Ks438.sorted l).length = l.length := (sorted_perm l).length_eq
theorem row_is {l : List Nat} {ns : List Int} (hp : ns.Perm (toI l)) (hs : ns.Pairwise (· ≤ ·)) : ns = toI (Ks438.sorted l) := by
  refine List.Perm.eq_of_pairwise (le := (· ≤ ·)) (fun a b _ _ h1 h2 => Int.le_antisymm h1 h2) hs ?_ (hp.trans ((sorted_perm l).map _).symm)
  exact List.Pairwise.map _ (fun a b h => by omega) (sorted_sorted l)

/-! ### few -/
theorem spread_small : ∀ {l : List Nat}, l.length ≤ 1 → Ks438.spread l = 0
  | [], _ => rfl
  | [a], _ => by
    show a - a = 0
    omega
  | _ :: _ :: _, h => by simp at h
theorem top_zero : ∀ {l : List Nat}, (∀ x ∈ l, x = 0) → top l = 0 := by
  intro l h
  have k : ∀ (l : List Nat), (∀ x ∈ l, x = 0) → l.foldl max 0 = 0 := by
    intro l
    induction l with
    | nil =>
      intro _
      rfl
    | cons a l ih =>
      intro h
      rw [List.foldl_cons, h a (List.mem_cons_self ..)]
      exact ih fun x hx => h x (List.mem_cons_of_mem _ hx)
  exact k l h
theorem pieces_ones : ∀ (c s : List Nat), (∀ x ∈ c, x = 1) → ∀ p ∈ Ks438.pieces s c, p.length ≤ 1
  | [], _, _, p, hp => by cases hp
  | a :: c, s, h, p, hp => by
    rcases List.mem_cons.mp hp with e | hp
    · rw [e, h a (List.mem_cons_self ..), List.length_take]
      omega
    · exact pieces_ones c _ (fun x hx => h x (List.mem_cons_of_mem _ hx)) p hp
theorem ones_greatest (s : List Nat) (m : Nat) : Ks438.greatest s (List.replicate m 1) = 0 := by
  rw [greatest_eq]
  refine top_zero fun x hx => ?_
  obtain ⟨p, hp, rfl⟩ := List.mem_map.mp hx
  exact spread_small (pieces_ones _ s (fun x hx => (List.mem_replicate.mp hx).2) p hp)
/-- one turn of fewest_within -/
def turn (s : List Nat) (most : Nat) (b : Nat) (c : List Nat) : Nat := if Ks438.greatest s c ≤ most then min b c.length else b
def fewest (s : List Nat) (most : Nat) (cs : List (List Nat)) : Nat := cs.foldl (turn s most) s.length
theorem fewest_snoc (s : List Nat) (most : Nat) (cs : List (List Nat)) (c : List Nat) : fewest s most (cs ++ [c]) = turn s most (fewest s most cs) c := by
  unfold fewest
  rw [List.foldl_append]
  rfl
theorem fewest_fold (s : List Nat) (most : Nat) : ∀ (cs : List (List Nat)) (b : Nat),
    cs.foldl (turn s most) b ≤ b ∧ (∀ c ∈ cs, Ks438.greatest s c ≤ most → cs.foldl (turn s most) b ≤ c.length) ∧
      (cs.foldl (turn s most) b = b ∨ ∃ c ∈ cs, Ks438.greatest s c ≤ most ∧ cs.foldl (turn s most) b = c.length)
  | [], b => ⟨Nat.le_refl _, fun c hc => (by cases hc), .inl rfl⟩
  | c :: cs, b => by
    obtain ⟨h1, h2, h3⟩ := fewest_fold s most cs (turn s most b c)
    rw [List.foldl_cons]
    by_cases q : Ks438.greatest s c ≤ most
    · have e : turn s most b c = min b c.length := if_pos q
      refine ⟨by omega, ?_, ?_⟩
      · intro d hd hg
        rcases List.mem_cons.mp hd with x | hd
        · rw [x]
          omega
        · exact h2 d hd hg
      · rcases h3 with x | ⟨d, hd, hg, x⟩
        · by_cases z : b ≤ c.length
          · exact .inl (by omega)
          · exact .inr ⟨c, List.mem_cons_self .., q, by omega⟩
        · exact .inr ⟨d, List.mem_cons_of_mem _ hd, hg, x⟩
    · have e : turn s most b c = b := if_neg q
      refine ⟨by omega, ?_, ?_⟩
      · intro d hd hg
        rcases List.mem_cons.mp hd with x | hd
        · rw [x] at hg
          exact absurd hg q
        · exact h2 d hd hg
      · rcases h3 with x | ⟨d, hd, hg, x⟩
        · exact .inl (by omega)
        · exact .inr ⟨d, List.mem_cons_of_mem _ hd, hg, x⟩
theorem length_le_sum : ∀ {c : List Nat}, (∀ x ∈ c, 1 ≤ x) → c.length ≤ c.sum
  | [], _ => Nat.le_refl _
  | a :: c, h => by
    have z := h a (List.mem_cons_self ..)
    have zz := length_le_sum (c := c) fun x hx => h x (List.mem_cons_of_mem _ hx)
    rw [List.length_cons, List.sum_cons]
    omega
/-- whether so many pieces are enough -/
theorem even_le (size most n : Nat) (l : List Nat) : (match Ks438.even n size l with
    | none => false
    | some c => decide (Ks438.greatest (Ks438.sorted l) c ≤ most)) = true ↔ ∃ c ∈ Ks438.cuts size n l.length, Ks438.greatest (Ks438.sorted l) c ≤ most := by
  unfold Ks438.even
  cases q : Ks438.first (Ks438.greatest (Ks438.sorted l)) (Ks438.cuts size n l.length) with
  | none =>
    have e := first_none q
    rw [e]
    simp
  | some c =>
    constructor
    · intro h
      exact ⟨c, first_mem q, of_decide_eq_true h⟩
    · rintro ⟨d, hd, hg⟩
      exact decide_eq_true (Nat.le_trans (first_least q d hd) hg)
theorem few_is (size most : Nat) (l : List Nat) (h : 1 ≤ size) : Ks438.few size most l = some (fewest (Ks438.sorted l) most (Ks438.cuts size l.length l.length)) := by
  unfold Ks438.few
  obtain ⟨h1, h2, h3⟩ := fewest_fold (Ks438.sorted l) most (Ks438.cuts size l.length l.length) (Ks438.sorted l).length
  rw [List.find?_range_eq_some]
  have hl := sorted_length l
  have ones : List.replicate l.length 1 ∈ Ks438.cuts size l.length l.length :=
    (mem_cuts size _ _ _).mpr ⟨by simp, by simp, fun x hx => by rw [(List.mem_replicate.mp hx).2]; omega⟩
  refine ⟨?_, ?_, ?_⟩
  · refine (even_le size most _ l).mpr ?_
    rcases h3 with e | ⟨c, hc, hg, e⟩
    · refine ⟨List.replicate l.length 1, ?_, by rw [ones_greatest]; exact Nat.zero_le _⟩
      show _ ∈ Ks438.cuts size (List.foldl _ _ _) _
      rw [e, hl]
      exact ones
    · refine ⟨c, ?_, hg⟩
      show _ ∈ Ks438.cuts size (List.foldl _ _ _) _
      rw [e]
      obtain ⟨k1, _, k3⟩ := (mem_cuts size _ _ c).mp hc
      exact (mem_cuts size _ _ c).mpr ⟨k1, Nat.le_refl _, k3⟩
  · rw [List.mem_range]
    show List.foldl _ _ _ < _
    omega
  · intro j hj
    rw [Bool.not_eq_true']
    refine Bool.eq_false_iff.mpr fun q => ?_
    obtain ⟨c, hc, hg⟩ := (even_le size most j l).mp q
    obtain ⟨k1, k2, k3⟩ := (mem_cuts size _ _ c).mp hc
    have hcl : c.length ≤ l.length := by
      have z := length_le_sum (c := c) fun x hx => (k3 x hx).1
      omega
    have z := h2 c ((mem_cuts size _ _ c).mpr ⟨k1, hcl, k3⟩) hg
    have hj' : j < List.foldl (turn (Ks438.sorted l) most) (Ks438.sorted l).length (Ks438.cuts size l.length l.length) := hj
    omega
end Lg
/-! The mathematics, further: groups, and what is answered. Plain Lean. -/
namespace Lg
/-! ### groups -/
theorem group_nil (k : Nat) : Ks438.group [] [] k = [] := rfl
theorem group_more {l g : List Nat} {i k a b : Nat} (ha : l[i]? = some a) (hb : g[i]? = some b) :
    Ks438.group (l.take (i + 1)) (g.take (i + 1)) k = if b = k then Ks438.group (l.take i) (g.take i) k ++ [a] else Ks438.group (l.take i) (g.take i) k := by
  have e1 : l.take (i + 1) = l.take i ++ [a] := by
    rw [List.take_add_one, ha]
    rfl
  have e2 : g.take (i + 1) = g.take i ++ [b] := by
    rw [List.take_add_one, hb]
    rfl
  have hl := (List.getElem?_eq_some_iff.mp ha).1
  have hg := (List.getElem?_eq_some_iff.mp hb).1
  unfold Ks438.group
  rw [e1, e2, List.zip_append (by rw [List.length_take, List.length_take]; omega), List.filter_append, List.map_append]
  by_cases q : b = k
  · rw [if_pos q]
    simp [q]
  · rw [if_neg q]
    have z : (b == k) = false := by simpa using q
    simp [z]
theorem group_count (k : Nat) : ∀ (l g : List Nat), g.length = l.length → (Ks438.group l g k).length = g.count k
  | [], [], _ => rfl
  | [], b :: g, h => by simp at h
  | a :: l, [], h => by simp at h
  | a :: l, b :: g, h => by
    have ih := group_count k l g (by simpa using h)
    unfold Ks438.group at ih ⊢
    rw [List.length_map] at ih ⊢
    rw [List.zip_cons_cons, List.filter_cons, List.count_cons]
    by_cases q : b = k
    · have z : (b == k) = true := by simpa using q
      rw [if_pos z, if_pos z, List.length_cons, ih]
    · have z : (b == k) = false := by simpa using q
      rw [if_neg (by simp [z]), if_neg (by simp [z]), ih]
      rfl
theorem count_ints (k : Nat) (g : List Nat) : (toI g).count (k : Int) = g.count k := by
  induction g with
  | nil => rfl
  | cons b g ih =>
    show ((b : Int) :: toI g).count (k : Int) = _
    rw [List.count_cons, List.count_cons, ih]
    by_cases q : b = k
    · rw [if_pos (by simp [q]), if_pos (by simp [q])]
    · rw [if_neg (by simp; omega), if_neg (by simp [q])]
theorem group_le (l g : List Nat) (k : Nat) : (Ks438.group l g k).length ≤ l.length := by
  unfold Ks438.group
  rw [List.length_map]
  refine Nat.le_trans (List.length_filter_le _ _) ?_
  rw [List.length_zip]
  omega
def gspreads (n : Nat) (l g : List Nat) : List Nat := (List.range n).map fun k => Ks438.spread (Ks438.group l g k)
theorem cost_eq (n : Nat) (l g : List Nat) : Ks438.cost n l g = (gspreads n l g).sum := rfl
theorem worst_eq (n : Nat) (l g : List Nat) : Ks438.worst n l g = top (gspreads n l g) := rfl

/-! ### what is refused -/
def okL (l : List Nat) : Bool := decide (l.length ≤ 9) && l.all fun v => decide (v ≤ 1000)
def okS (size : Nat) : Bool := decide (1 ≤ size) && decide (size ≤ 9)
def okG (n : Nat) (l g : List Nat) : Bool := decide (g.length = l.length) && g.all fun v => decide (v < n)
def fit (n size : Nat) (g : List Nat) : Bool := (List.range n).all fun k => decide (g.count k ≤ size)
theorem okL_len {l : List Nat} (h : okL l = true) : l.length ≤ 9 := of_decide_eq_true (Bool.and_eq_true_iff.mp h).1
theorem okS_le {s : Nat} (h : okS s = true) : 1 ≤ s ∧ s ≤ 9 := ⟨of_decide_eq_true (Bool.and_eq_true_iff.mp h).1, of_decide_eq_true (Bool.and_eq_true_iff.mp h).2⟩
theorem okG_len {n : Nat} {l g : List Nat} (h : okG n l g = true) : g.length = l.length := of_decide_eq_true (Bool.and_eq_true_iff.mp h).1
theorem given_ok {size : Nat} {l : List Nat} {b : Bool} {f : Unit → Ks438.Ans} (hb : b = true) (hl : okL l = true) (hs : okS size = true) : Ks438.given size l b f = f () := by
  unfold okL at hl
  unfold okS at hs
  unfold Ks438.given Ks438.CHILDREN
  rw [if_pos]
  simp only [Bool.and_eq_true] at hl hs ⊢
  exact ⟨⟨⟨⟨hb, hs.1⟩, hs.2⟩, hl.1⟩, hl.2⟩
theorem given_no {size : Nat} {l : List Nat} {b : Bool} {f : Unit → Ks438.Ans} (h : ¬ (b = true ∧ okL l = true ∧ okS size = true)) : Ks438.given size l b f = Ks438.no (-22) := by
  unfold Ks438.given Ks438.CHILDREN
  rw [if_neg]
  intro z
  apply h
  unfold okL okS
  simp only [Bool.and_eq_true] at z ⊢
  exact ⟨z.1.1.1.1, ⟨z.1.2, z.2⟩, z.1.1.1.2, z.1.1.2⟩
theorem okN_is (n : Nat) : Ks438.okN n = okS n := rfl

/-! ### the answers -/
def looksA (n size : Nat) (l g : List Nat) : List Int := Ks438Neutral.out (Ks438.answer (.looks n size l g))
def bestA (n size : Nat) (l : List Nat) : List Int := Ks438Neutral.out (Ks438.answer (.best n size l))
def evenA (n size : Nat) (l : List Nat) : List Int := Ks438Neutral.out (Ks438.answer (.even n size l))
def fewA (size most : Nat) (l : List Nat) : List Int := Ks438Neutral.out (Ks438.answer (.few size most l))
theorem out_no (v : Int) : Ks438Neutral.out (Ks438.no v) = [v] := rfl
theorem looks_no {n size : Nat} {l g : List Nat} (h : ¬ (okL l = true ∧ okS n = true ∧ okS size = true ∧ okG n l g = true)) : looksA n size l g = [-22] := by
  unfold looksA Ks438.answer
  dsimp only
  by_cases q : okS n = true ∧ okL l = true ∧ okS size = true
  · rw [given_ok (by rw [okN_is]; exact q.1) q.2.1 q.2.2]
    have z : ¬ okG n l g = true := fun z => h ⟨q.2.1, q.1, q.2.2, z⟩
    rw [if_pos, out_no]
    by_cases e : g.length = l.length
    · refine .inr ?_
      have k : (g.all fun v => decide (v < n)) = false := by
        cases k : (g.all fun v => decide (v < n)) with
        | false => rfl
        | true => exact absurd (by unfold okG; rw [k, decide_eq_true e]; rfl) z
      rw [← Bool.not_eq_true, List.all_eq_true] at k
      rw [List.any_eq_true]
      apply Classical.byContradiction
      intro no
      refine k fun v hv => decide_eq_true ?_
      by_cases lt : v < n
      · exact lt
      · exact absurd ⟨v, hv, decide_eq_true (by omega)⟩ no
    · exact .inl e
  · rw [given_no (by rw [okN_is]; exact q), out_no]
theorem looks_in {n size : Nat} {l g : List Nat} (hl : okL l = true) (hn : okS n = true) (hs : okS size = true) (hg : okG n l g = true) :
    looksA n size l g = if fit n size g = true then [((Ks438.cost n l g : Nat) : Int), ((Ks438.worst n l g : Nat) : Int)] else [-28] := by
  unfold looksA Ks438.answer
  dsimp only
  rw [given_ok (by rw [okN_is]; exact hn) hl hs]
  have e : g.length = l.length := okG_len hg
  have a : (g.all fun v => decide (v < n)) = true := (Bool.and_eq_true_iff.mp hg).2
  rw [if_neg]
  · have r : Ks438.right n size l g = fit n size g := by
      unfold Ks438.right fit
      rw [a, e]
      simp only [beq_self_eq_true, Bool.true_and]
      congr 1
      funext k
      rw [group_count k l g e]
    rw [r]
    split
    · rfl
    · rfl
  · rintro (z | z)
    · exact z e
    · rw [List.any_eq_true] at z
      obtain ⟨v, hv, z⟩ := z
      have k := of_decide_eq_true (List.all_eq_true.mp a v hv)
      have k2 := of_decide_eq_true z
      omega
theorem looks_full {n size : Nat} {l g : List Nat} (hl : okL l = true) (hn : okS n = true) (hs : okS size = true) (hg : okG n l g = true) (hf : fit n size g = false) : looksA n size l g = [-28] := by
  rw [looks_in hl hn hs hg, hf, if_neg (by decide)]
theorem looks_yes {n size : Nat} {l g : List Nat} (hl : okL l = true) (hn : okS n = true) (hs : okS size = true) (hg : okG n l g = true) (hf : fit n size g = true) :
    looksA n size l g = [((Ks438.cost n l g : Nat) : Int), ((Ks438.worst n l g : Nat) : Int)] := by
  rw [looks_in hl hn hs hg, hf, if_pos rfl]
/-- the row's best cut by a measure, as it is told -/
def toldA (f : List Nat → Nat) (c : List Nat) : List Int := (f c : Int) :: (c.length : Int) :: toI c
theorem best_no {n size : Nat} {l : List Nat} (h : ¬ (okL l = true ∧ okS n = true ∧ okS size = true)) : bestA n size l = [-22] := by
  unfold bestA Ks438.answer
  dsimp only
  rw [given_no (by rw [okN_is]; exact fun z => h ⟨z.2.1, z.1, z.2.2⟩), out_no]
theorem even_no {n size : Nat} {l : List Nat} (h : ¬ (okL l = true ∧ okS n = true ∧ okS size = true)) : evenA n size l = [-22] := by
  unfold evenA Ks438.answer
  dsimp only
  rw [given_no (by rw [okN_is]; exact fun z => h ⟨z.2.1, z.1, z.2.2⟩), out_no]
theorem best_room {n size : Nat} {l : List Nat} (hl : okL l = true) (hn : okS n = true) (hs : okS size = true) (h : ¬ l.length ≤ n * size) : bestA n size l = [-33] := by
  unfold bestA Ks438.answer
  dsimp only
  rw [given_ok (by rw [okN_is]; exact hn) hl hs]
  have e := (cuts_empty size (okS_le hs).1 n l.length).mpr (by omega)
  have z : Ks438.best n size l = none := by
    unfold Ks438.best
    rw [e]
    rfl
  rw [z]
  rfl
theorem even_room {n size : Nat} {l : List Nat} (hl : okL l = true) (hn : okS n = true) (hs : okS size = true) (h : ¬ l.length ≤ n * size) : evenA n size l = [-33] := by
  unfold evenA Ks438.answer
  dsimp only
  rw [given_ok (by rw [okN_is]; exact hn) hl hs]
  have e := (cuts_empty size (okS_le hs).1 n l.length).mpr (by omega)
  have z : Ks438.even n size l = none := by
    unfold Ks438.even
    rw [e]
    rfl
  rw [z]
  rfl
theorem best_yes {n size : Nat} {l c : List Nat} (hl : okL l = true) (hn : okS n = true) (hs : okS size = true) (h : Ks438.first (Ks438.sum (Ks438.sorted l)) (Ks438.cuts size n l.length) = some c) :
    bestA n size l = toldA (Ks438.sum (Ks438.sorted l)) c := by
  unfold bestA Ks438.answer
  dsimp only
  rw [given_ok (by rw [okN_is]; exact hn) hl hs]
  have z : Ks438.best n size l = some c := h
  rw [z]
  rfl
theorem even_yes {n size : Nat} {l c : List Nat} (hl : okL l = true) (hn : okS n = true) (hs : okS size = true) (h : Ks438.first (Ks438.greatest (Ks438.sorted l)) (Ks438.cuts size n l.length) = some c) :
    evenA n size l = toldA (Ks438.greatest (Ks438.sorted l)) c := by
  unfold evenA Ks438.answer
  dsimp only
  rw [given_ok (by rw [okN_is]; exact hn) hl hs]
  have z : Ks438.even n size l = some c := h
  rw [z]
  rfl
theorem cuts_some {n size m : Nat} (hs : okS size = true) (h : m ≤ n * size) : Ks438.cuts size n m ≠ [] := fun z => by
  have := (cuts_empty size (okS_le hs).1 n m).mp z
  omega
theorem few_no {size most : Nat} {l : List Nat} (h : ¬ (okL l = true ∧ okS size = true ∧ most ≤ 1000)) : fewA size most l = [-22] := by
  unfold fewA Ks438.answer
  dsimp only
  rw [given_no (fun z => h ⟨z.2.1, z.2.2, of_decide_eq_true z.1⟩), out_no]
theorem few_yes {size most : Nat} {l : List Nat} (hl : okL l = true) (hs : okS size = true) (hm : most ≤ 1000) :
    fewA size most l = [((fewest (Ks438.sorted l) most (Ks438.cuts size l.length l.length) : Nat) : Int)] := by
  unfold fewA Ks438.answer
  dsimp only
  rw [given_ok (decide_eq_true hm) hl hs, few_is size most l (okS_le hs).1]
  rfl
end Lg

namespace Lev
open PySem PySem.Spec PyProof.Rows L2
/-! ### the text -/
def topS (i : Nat) : Stmt := PySem.Challenge.pw_levelgroups_s04_few.main.body.getD i (.Pass ⟨0, 0, 0, 0⟩)
abbrev sInit : Stmt := inClass (topS 5) 0
abbrev sNeed : Stmt := topS 6
abbrev sNeedLevels : Stmt := topS 7
abbrev sNeedSize : Stmt := topS 8
abbrev sNeedMost : Stmt := topS 9
abbrev sSpreadOf : Stmt := topS 11
abbrev sSpreadsOfPieces : Stmt := topS 12
abbrev sGreatest : Stmt := topS 13
abbrev sLongerByOne : Stmt := topS 15
abbrev sAllPieces : Stmt := topS 16
abbrev sFewestWithin : Stmt := topS 17
abbrev sFew : Stmt := topS 19
end Lev

/-! list(reversed(a list)): a rule of our own -/
namespace LRev
open PySem PySem.Spec PyProof.Rows RT
section
variable {prog : Program} {w : World} {A : Around} {E : Value → Shared → Prop} {s : Shared}
theorem extend_rev {R : Result → Shared → Prop} (hh : A.handled = none) {it l S : Addr} {items : Array Value} (hit : s.heap.IsRevIter it l ((items.size : Int) - 1)) (hl : s.heap.IsList l items) (hne : l ≠ it) (hn : items.size ≤ sizeLine)
    (res : Value) (c0 : Nat) (hS : s.heap.get? S = some { cls := .type "list", data := .seq #[] c0 }) (hSi : S ≠ it) (hSl : S ≠ l)
    (hR : ∀ h' tk acc' c', (∀ b o, b ≠ S → b ≠ it → s.heap.get? b = some o → h'.get? b = some o) → h'.get? S = some { cls := .type "list", dict := none, data := .seq acc' c', slots := #[] } →
      ItemsOf (fun i v => items[items.size - 1 - i]? = some v) acc' items.size → R (.ok (.ret res)) { s with heap := h', toks := tk }) :
    wpAny (model prog w) A.in1 (Builtin.List.listExtendWith (.ref S) (.ref it) res)
      (fun fin s' => match fin with | .done f => R (.ok f) s' | .again c' => c'.quiet = true ∧ codeAny (model prog w) A c' R s') (fun e s' => R (.error e) s') s := by
  have W := (Walks.listRev (prog := prog) (w := w) (A := A.in1) hh it l hne items).toS
  have hSf : S ∉ [it, l] := by simp only [List.mem_cons, List.not_mem_nil, or_false, not_or]; exact ⟨hSi, hSl⟩
  have hT : s.TypeIs (.ref it) "list_reverseiterator" := hit.typeIs
  have h1 : Builtin.List.listSameRef (.ref S) (.ref it) = false := by simp [Builtin.List.listSameRef, hSi]
  unfold Builtin.List.listExtendWith
  refine wpAny_bind (wpAny_typeOf hT ?_)
  rw [if_neg (by rw [h1]; decide)]
  refine wpAny_bind (wpAny_pyIter_revIter hit ?_)
  refine wpAny_bind (wpAny_holding ?_)
  unfold Builtin.List.listLengthHint
  refine wpAny_bind (wpAny_specialOf hT nolen_lri ?_)
  show wpAny _ A.in1 (specialOf (Value.ref it) (Str.ofString "__length_hint__") >>= _) _ _ _
  refine wpAny_bind (wpAny_specialOf hT hint_lri ?_)
  generalize hid : ("list_reverseiterator.__length_hint__" : String) = id0
  wp_delta
  rw [show splitId id0 = some ("list_reverseiterator", "__length_hint__") from by subst hid; decide +kernel]
  subst hid
  refine wpAny_bind (wpAny_isInstance (b := true) hT (by rw [isSubtype_type]; kernel_rfl) ?_)
  refine wpAny_pure ?_
  rw [if_neg (by decide)]
  have e0 : ((items.size : Nat) : Int) - 1 - ((0 : Nat) : Int) = (items.size : Int) - 1 := by omega
  refine wpAny_pure ⟨plainId_quiet F.plain_extend_loop _, codeAny_extend_loopS W hn _ hSf _ items.size 0 _ _ _ rfl (Nat.zero_le _) ⟨Nat.zero_le _, by rw [e0]; exact hit, hl⟩ hS (ItemsOf.nil _) fun s' acc' c' hm hS' hacc => ?_⟩
  rw [Moved.eq_with hm]
  refine hR s'.heap s'.toks acc' c' (fun b o hb hb2 e => hm.heap b o (fun hmem => ?_) e) hS' hacc
  rcases List.mem_cons.mp hmem with e' | hmem
  · exact hb e'
  · exact hb2 (List.mem_singleton.mp hmem)
theorem init_rev {R : Result → Shared → Prop} (hh : A.handled = none) {it l S : Addr} {items : Array Value} (hit : s.heap.IsRevIter it l ((items.size : Int) - 1)) (hl : s.heap.IsList l items) (hne : l ≠ it) (hn : items.size ≤ sizeLine)
    (hS : s.heap.get? S = some { cls := .type "list", data := .seq #[] }) (hSi : S ≠ it) (hSl : S ≠ l)
    (hR : ∀ h' tk acc' c', (∀ b o, b ≠ S → b ≠ it → s.heap.get? b = some o → h'.get? b = some o) → h'.get? S = some { cls := .type "list", dict := none, data := .seq acc' c', slots := #[] } →
      ItemsOf (fun i v => items[items.size - 1 - i]? = some v) acc' items.size → R (.ok (.ret .none)) { s with heap := h', toks := tk }) :
    wpAny (model prog w) A.in1 (Builtin.«list.__init__» ⟨[.ref S, .ref it], []⟩)
      (fun fin s' => match fin with | .done f => R (.ok f) s' | .again c' => c'.quiet = true ∧ codeAny (model prog w) A c' R s') (fun e s' => R (.error e) s') s := by
  show wpAny _ _ (do let old ← Builtin.List.listItems (.ref S); Builtin.List.listUpdate (.ref S) (fun _ => #[]); letGo old.toList.reverse; Builtin.List.listExtendWith (.ref S) (.ref it) .none) _ _ s
  refine wpAny_bind ?_
  unfold Builtin.List.listItems
  refine wpAny_bind (wpAny_seqItems hS rfl (wpAny_pure ?_))
  show wpAny _ _ (updateSeq S (fun _ => #[]) >>= fun _ => letGo (#[] : Array Value).toList.reverse >>= fun _ => Builtin.List.listExtendWith (.ref S) (.ref it) .none) _ _ s
  refine wpAny_bind (wpAny_updateSeq hS rfl ?_)
  have hS2 := Heap.get?_update_self (Obj.mapSeq (fun _ => (#[] : Array Value))) hS rfl
  have oth : ∀ b o, b ≠ S → s.heap.get? b = some o → (s.heap.update S (Obj.mapSeq (fun _ => (#[] : Array Value)))).get? b = some o :=
    fun b o hb e => (Heap.get?_update_other _ _ (Ne.symm hb)).trans e
  refine wpAny_bind (wpAny_letGo ?_)
  have hl2 : (s.heap.update S (Obj.mapSeq (fun _ => (#[] : Array Value)))).IsList l items := by
    obtain ⟨o, e, c, n, d⟩ := hl
    exact ⟨o, oth l o (Ne.symm hSl) e, c, n, d⟩
  refine extend_rev (s := { s with heap := s.heap.update S (Obj.mapSeq (fun _ => (#[] : Array Value))) }) hh (hit.at fun o e => oth it o (Ne.symm hSi) e) hl2 hne hn .none _ hS2 hSi hSl fun h' tk acc' c' hk hS' hacc => ?_
  exact hR h' tk acc' c' (fun b o hb hb2 e => hk b o hb hb2 (oth b o hb e)) hS' hacc
theorem call_list_rev {it l : Addr} {items : Array Value} {Q : Value → Shared → Prop} (hh : A.handled = none) (hit : s.heap.IsRevIter it l ((items.size : Int) - 1)) (hl : s.heap.IsList l items) (hne : l ≠ it) (hn : items.size ≤ sizeLine)
    (hQ : ∀ h' tk acc' c', (∀ b o, b ≠ it → s.heap.get? b = some o → h'.get? b = some o) →
      h'.get? s.heap.objs.size = some { cls := .type "list", dict := none, data := .seq acc' c', slots := #[] } → ItemsOf (fun i v => items[items.size - 1 - i]? = some v) acc' items.size → Q (.ref s.heap.objs.size) { s with heap := h', toks := tk }) :
    wpAny (model prog w) A (call (.type "list") [.ref it]) Q E s := by
  refine callType_codes (Q₁ := fun obj s₁ => obj = .ref s.heap.objs.size ∧ s₁ = { s with heap := s.heap.push { cls := .type "list", data := .seq #[] } }) F.called_list (F.typeCall_list_1 _) F.entry_list_init
    (code_list_new _ ⟨rfl, rfl⟩) fun obj s1 h1 => ?_
  obtain ⟨rfl, rfl⟩ := h1
  have hS : (s.heap.push { cls := .type "list", data := .seq #[] }).get? s.heap.objs.size = some { cls := .type "list", data := .seq #[] } := Heap.get?_push_size _ rfl
  obtain ⟨oi, hoi, _⟩ := id hit
  obtain ⟨ol, hol, _⟩ := id hl
  have hSi : s.heap.objs.size ≠ it := Nat.ne_of_gt (Heap.lt_size hoi)
  have hSl : s.heap.objs.size ≠ l := Nat.ne_of_gt (Heap.lt_size hol)
  refine ⟨⟨_, hS, rfl⟩, F.args_list_init_2 _ _, init_rev (A := A.in1) hh (hit.at fun o e => Heap.get?_push_of_some _ e) (hl.push _) hne hn hS hSi hSl fun h' tk acc' c' hk hS' hacc => ?_⟩
  exact ⟨rfl, hQ h' tk acc' c' (fun b o hb e => hk b o (Nat.ne_of_lt (Heap.lt_size e)) hb (Heap.get?_push_of_some _ e)) hS' hacc⟩
end
end LRev
namespace LRev
open PySem PySem.Spec PyProof.Rows L2 RT
/-- list(reversed(x)), x a list: a new list -/
def tListRev (K : PySem.W.Frag) (te : TE) : TE := fun σ H Q => te σ H fun v H1 => ∃ (a : Addr) (xs : List V), v = .ref a ∧ SqL K H1 a xs ∧ ∀ q, H1 q = none → Q (.ref q) (upd H1 q (.lst xs.reverse))
section
variable {X : Cx}
theorem pe_listRev {e : Expr} {te : TE} {p p2 pos pos2 : Pos} (hc : X.calm = true) (hg : Gl X "list") (hm : X.mg "list" = none) (hg2 : Gl X "reversed") (hm2 : X.mg "reversed" = none) (he : PE X e te)
    (hs : starEach [e] X.env = (false, eval e X.env) :: starEach [] X.env := by rfl)
    (hs2 : starEach [.Call (.Name "reversed" p2) [e] [] pos2] X.env = (false, eval (.Call (.Name "reversed" p2) [e] [] pos2) X.env) :: starEach [] X.env := by rfl) :
    PE X (.Call (.Name "list" p) [.Call (.Name "reversed" p2) [e] [] pos2] [] pos) (tListRev X.K te) := by
  refine ⟨fun pins s σ H Q I h => ?_⟩
  refine Call_ (ld_blt I hg hm boot_list (PyProof.Rows.callWith_type1 (args_cons (Call_ (ld_blt I hg2 hm2 PyProof.Rows.boot_reversed (PyProof.Rows.callWith_type1 (args_cons (thn (he.run pins s σ H _ I h) fun u s1 ⟨v, H1, I1, r1, q1⟩ => args_nil ?_) hs) hs rfl))) hs2) hs2 rfl))
  obtain ⟨a, xs, ev, hq, q⟩ := q1
  subst ev
  obtain rfl : u = Value.ref a := r1
  obtain ⟨its, rv, p', hz⟩ := I1.list hq
  refine call_reversed_list p'.isList (args_nil ?_)
  have hl := p'.isList
  obtain ⟨ol, hol, _⟩ := id hl
  have hne : a ≠ s1.heap.objs.size := Nat.ne_of_lt (Heap.lt_size hol)
  have hn : its.toArray.size ≤ sizeLine := by rw [List.size_toArray, ← rv.length]; exact hz
  refine call_list_rev (s := { s1 with heap := s1.heap.push (revObj a ((its.toArray.size : Int) - 1)) }) (I1.ok.hd hc) ⟨_, Heap.get?_push_size _ rfl, rfl, rfl⟩ (hl.push _) hne hn fun h' tk acc c' hk hS hi => ?_
  have old : ∀ b o, s1.heap.get? b = some o → h'.get? b = some o := fun b o e => hk b o (Nat.ne_of_lt (Heap.lt_size e)) (Heap.get?_push_of_some _ e)
  have hle : s1.heap.objs.size ≤ (s1.heap.push (revObj a ((its.toArray.size : Int) - 1))).objs.size := by
    rw [Heap.size_push]
    exact Nat.le_succ _
  have ob : ObjOk X.prog X.w (upd H1 (s1.heap.push (revObj a ((its.toArray.size : Int) - 1))).objs.size (.lst xs.reverse)) h' (s1.heap.push (revObj a ((its.toArray.size : Int) - 1))).objs.size (.lst xs.reverse) :=
    ⟨by rw [List.length_reverse]; exact hz, acc.toList, c', vals_rev rv hi, by rw [Array.toArray_toList]; exact hS⟩
  exact ⟨.ref _, _, I1.laid (t' := tk) old hle ob, rfl, q _ (I1.hok.fresh hle)⟩
end
end LRev

namespace Lev
open PySem PySem.Spec PyProof.Rows L2
/-! ### naturals as values, rows of lists -/
def vI (l : List Nat) : List V := (Lg.toI l).map V.int
theorem vI_len (l : List Nat) : (vI l).length = l.length := by
  unfold vI
  rw [List.length_map, List.length_map]
theorem vI_at {l : List Nat} {i : Nat} {x : V} (h : (vI l)[i]? = some x) : ∃ n, l[i]? = some n ∧ x = .int (n : Int) := by
  unfold vI Lg.toI at h
  rw [List.getElem?_map, List.getElem?_map] at h
  cases e : l[i]? with
  | none =>
    rw [e] at h
    cases h
  | some n =>
    rw [e] at h
    exact ⟨n, rfl, (Option.some.inj h).symm⟩
theorem vI_get {l : List Nat} {i n : Nat} (h : l[i]? = some n) : (vI l)[i]? = some (.int (n : Int)) := by
  unfold vI Lg.toI
  rw [List.getElem?_map, List.getElem?_map, h]
  rfl
theorem vI_app (l r : List Nat) : vI (l ++ r) = vI l ++ vI r := by
  unfold vI Lg.toI
  rw [List.map_append, List.map_append]
theorem vI_one (n : Nat) : vI [n] = [.int (n : Int)] := rfl
theorem take_more {α : Type} {l : List α} {i : Nat} {x : α} (h : l[i]? = some x) : l.take (i + 1) = l.take i ++ [x] := by
  rw [List.take_add_one, h]
  rfl
theorem take_all (l : List Nat) : l.take (vI l).length = l := by
  rw [vI_len, List.take_length]
theorem map_more {α β : Type} {f : α → β} {l : List α} {i : Nat} {x : α} (h : l[i]? = some x) : (l.take (i + 1)).map f = (l.take i).map f ++ [f x] := by
  rw [take_more h, List.map_append]
  rfl
theorem same_upd {H : Hp} {p : Addr} {o : HO} (h : H p = none) : Same H (upd H p o) := fun b x e => by
  rw [upd_ne (ne_of_none e h)]
  exact e
/-- a store at what was new -/
theorem same_upd2 {H H1 : Hp} {p : Addr} {o : HO} (s : Same H H1) (h : H p = none) : Same H (upd H1 p o) := fun b x e => by
  rw [upd_ne (ne_of_none e h)]
  exact s b x e
theorem lst_ne {H : Hp} {p q : Addr} {o : HO} (h : H p = some o) (hq : H q = none) : p ≠ q := ne_of_none h hq
theorem sq {K : PySem.W.Frag} {H : Hp} {p : Addr} {xs : List V} (h : H p = some (.lst xs)) : SqL K H p xs := .inl (.inl h)
theorem line_small {n : Nat} (h : n ≤ 100000) : n < sizeLine := Nat.lt_of_le_of_lt h (by decide)
theorem line_le {n : Nat} (h : n ≤ 100000) : n ≤ sizeLine := Nat.le_of_lt (line_small h)
theorem iteB {c : Bool} {A B : Prop} (h1 : c = true → A) (h2 : c = false → B) : if c = true then A else B := by
  cases c with
  | true =>
    rw [if_pos rfl]
    exact h1 rfl
  | false =>
    rw [if_neg Bool.false_ne_true]
    exact h2 rfl
/-- the lists at ps hold the rows cs, in order -/
def Rows (H : Hp) : List Addr → List (List Nat) → Prop
  | [], [] => True
  | p :: ps, c :: cs => H p = some (.lst (vI c)) ∧ Rows H ps cs
  | [], _ :: _ => False
  | _ :: _, [] => False
theorem Rows.len {H : Hp} : ∀ {ps : List Addr} {cs : List (List Nat)}, Rows H ps cs → ps.length = cs.length
  | [], [], _ => rfl
  | _ :: ps, _ :: cs, h => by
    rw [List.length_cons, List.length_cons, Rows.len h.2]
  | [], _ :: _, h => h.elim
  | _ :: _, [], h => h.elim
theorem Rows.keep {H H' : Hp} : ∀ {ps : List Addr} {cs : List (List Nat)}, Rows H ps cs → (∀ p ∈ ps, ∀ o, H p = some o → H' p = some o) → Rows H' ps cs
  | [], [], _, _ => trivial
  | p :: ps, c :: cs, h, k => ⟨k p (List.mem_cons_self ..) _ h.1, Rows.keep h.2 fun q hq => k q (List.mem_cons_of_mem _ hq)⟩
  | [], _ :: _, h, _ => h.elim
  | _ :: _, [], h, _ => h.elim
theorem Rows.same {H H' : Hp} {ps : List Addr} {cs : List (List Nat)} (h : Rows H ps cs) (s : Same H H') : Rows H' ps cs := h.keep fun p _ o e => s p o e
theorem Rows.there {H : Hp} : ∀ {ps : List Addr} {cs : List (List Nat)}, Rows H ps cs → ∀ p ∈ ps, ∃ c ∈ cs, H p = some (.lst (vI c))
  | [], [], _, p, hp => by cases hp
  | q :: ps, c :: cs, h, p, hp => by
    rcases List.mem_cons.mp hp with e | hp
    · rw [e]
      exact ⟨c, List.mem_cons_self .., h.1⟩
    · obtain ⟨d, hd, e⟩ := Rows.there h.2 p hp
      exact ⟨d, List.mem_cons_of_mem _ hd, e⟩
  | [], _ :: _, h, _, _ => h.elim
  | _ :: _, [], h, _, _ => h.elim
theorem Rows.app {H : Hp} : ∀ {ps qs : List Addr} {cs ds : List (List Nat)}, Rows H ps cs → Rows H qs ds → Rows H (ps ++ qs) (cs ++ ds)
  | [], _, [], _, _, h => h
  | _ :: ps, _, _ :: cs, _, h, g => ⟨h.1, Rows.app h.2 g⟩
  | [], _, _ :: _, _, h, _ => h.elim
  | _ :: _, _, [], _, h, _ => h.elim
theorem Rows.one {H : Hp} {p : Addr} {c : List Nat} (h : H p = some (.lst (vI c))) : Rows H [p] [c] := ⟨h, trivial⟩
theorem Rows.rev {H : Hp} : ∀ {ps : List Addr} {cs : List (List Nat)}, Rows H ps cs → Rows H ps.reverse cs.reverse
  | [], [], h => h
  | p :: ps, c :: cs, h => by
    rw [List.reverse_cons, List.reverse_cons]
    exact (Rows.rev h.2).app (Rows.one h.1)
  | [], _ :: _, h => h.elim
  | _ :: _, [], h => h.elim
theorem Rows.get {H : Hp} : ∀ {ps : List Addr} {cs : List (List Nat)} {i : Nat} {p : Addr}, Rows H ps cs → ps[i]? = some p → ∃ c, cs[i]? = some c ∧ H p = some (.lst (vI c))
  | [], [], i, p, _, e => by simp at e
  | q :: ps, c :: cs, 0, p, h, e => by
    have e' : q = p := Option.some.inj e
    subst e'
    exact ⟨c, rfl, h.1⟩
  | q :: ps, c :: cs, i + 1, p, h, e => Rows.get (ps := ps) (cs := cs) (i := i) h.2 e
  | [], _ :: _, _, _, h, _ => h.elim
  | _ :: _, [], _, _, h, _ => h.elim
theorem Rows.last {H : Hp} : ∀ {ps : List Addr} {cs : List (List Nat)}, Rows H ps cs → cs ≠ [] → ∃ ps' p cs' c, ps = ps' ++ [p] ∧ cs = cs' ++ [c] ∧ Rows H ps' cs' ∧ H p = some (.lst (vI c))
  | [], [], _, n => absurd rfl n
  | [p], [c], h, _ => ⟨[], p, [], c, rfl, rfl, trivial, h.1⟩
  | p :: q :: ps, c :: d :: cs, h, _ => by
    obtain ⟨ps', p', cs', c', e1, e2, r, e⟩ := Rows.last (ps := q :: ps) (cs := d :: cs) h.2 (by simp)
    exact ⟨p :: ps', p', c :: cs', c', by rw [e1]; rfl, by rw [e2]; rfl, ⟨h.1, r⟩, e⟩
  | [p], c :: d :: cs, h, _ => h.2.elim
  | p :: q :: ps, [c], h, _ => h.2.elim
  | [], _ :: _, h, _ => h.elim
  | _ :: _, [], h, _ => h.elim
theorem ref_at {ps : List Addr} {i : Nat} {x : V} (h : (ps.map V.ref)[i]? = some x) : ∃ p, ps[i]? = some p ∧ x = .ref p := by
  rw [List.getElem?_map] at h
  cases e : ps[i]? with
  | none =>
    rw [e] at h
    cases h
  | some p =>
    rw [e] at h
    exact ⟨p, rfl, (Option.some.inj h).symm⟩
/-! ### what a caller needs of a def -/
structure Callee (P : Program) (w : World) (K : PySem.W.Frag) (mg : Str → Option Value) (base : Heap) (CX : CXT) (k : Nat) (x : Str) (ps : List Str) (sp : Sp) : Prop where
  ex : ∃ (f : Addr) (fd : FuncData), FnOk P w K mg base CX k f fd ps sp ∧ mg x = some (.ref f) ∧ PySem.W.keepIn K (.ref f) = true ∧ Binds K fd ps []
theorem callee {P : Program} {w : World} {K : PySem.W.Frag} {mg : Str → Option Value} {base : Heap} {CX : CXT} {k : Nat} {x x2 q : Str} {st : Stmt} {f : Addr} {fd : FuncData} {ps : List Str} {sp : Sp} (ok : FnOk P w K mg base CX k f fd ps sp) (m : mg x = some (.ref f))
    (F : Fun K x2 q st f fd) (b : Binds K fd ps []) : Callee P w K mg base CX k x ps sp := ⟨⟨f, fd, ok, m, F.kp, b⟩⟩
/-- the refusal by the number n: a new error of the class at C whose own dict holds it; what was tracked stands -/
def Ref (C : Addr) (H : Hp) (n : Int) (E : XK) : Prop := ∀ (d : Addr) (H' : Hp), Same H H' → H' d = some (.xd [(("number" : Str), .int n)]) → E (.ref C) (some d) H'
theorem Ref.later {C : Addr} {H H1 : Hp} {n : Int} {E : XK} (r : Ref C H n E) (s : Same H H1) : Ref C H1 n E := fun d H' s' e => r d H' (s.trans s') e
/-- a constant of the module -/
def Num (mg : Str → Option Value) (x : Str) (n : Int) : Prop := ∃ t, mg x = some (.int n t)
theorem pe_num {X : Cx} {x : Str} {n : Int} {t : Tok} {pos : Pos} (hg : Gl X x) (hm : X.mg x = some (.int n t)) (hd : (x == ("__debug__" : Str)) = false := by decide) : PE X (.Name x pos) (tC (.int n)) := pe_glob hg hm ⟨t, rfl⟩ hd
/-- names that the module leaves to the built-ins -/
structure Blt (mg : Str → Option Value) : Prop where
  len : mg "len" = none
  all : mg "all" = none
  range : mg "range" = none
  max : mg "max" = none
  min : mg "min" = none
  sum : mg "sum" = none
  zip : mg "zip" = none
  sorted : mg "sorted" = none
  list : mg "list" = none
  reversed : mg "reversed" = none
/-- what the written part says of the class Refused, at C -/
structure RefC (K : PySem.W.Frag) (mg : Str → Option Value) (C : Addr) : Prop where
  g : mg "Refused" = some (.ref C)
  o : OexC K C
  x : XfC K C
  no : PySem.W.findIn K (.ref C) "number" = some none
  te : PySem.W.exmOne K (.ref C) (.ref C) = some true
/-- an error of the class at S is what «except S» names -/
theorem exm_self {K : PySem.W.Frag} {S : Addr} (h1 : PySem.W.subIn K (.ref S) (.type "BaseException") = some true) (h2 : PySem.W.isClsIn K S = true) (h3 : PySem.W.typeIn K (.ref S) = some (.type "type")) (h4 : PySem.W.subIn K (.ref S) (.ref S) = some true) :
    PySem.W.exmOne K (.ref S) (.ref S) = some true := by
  have e1 : (PySem.W.subIn K (.ref S) (.type "BaseException") == some true) = true := by rw [h1] <;> rfl
  have e2 : ((PySem.W.clsIn K S).isSome && PySem.W.typeIn K (.ref S) == some (.type "type")) = true := by
    have h2' : (PySem.W.clsIn K S).isSome = true := h2
    rw [h2', h3] <;> rfl
  show (if (PySem.W.subIn K (.ref S) (.type "BaseException") == some true) = true then (if ((PySem.W.clsIn K S).isSome && PySem.W.typeIn K (.ref S) == some (.type "type")) = true then PySem.W.subIn K (.ref S) (.ref S) else none) else none) = some true
  rw [if_pos e1, if_pos e2]
  exact h4
/-! ### the request -/
/-- a codec's whole number from 0 on -/
theorem in_int {lo hi : Int} {z : Int} (h : PySem.W.Codec.inInt lo hi z = true) (h0 : 0 ≤ lo) : z = ((z.toNat : Nat) : Int) ∧ z ≤ hi := by
  obtain ⟨h1, h2⟩ := Bool.and_eq_true_iff.mp h
  have e1 := of_decide_eq_true h1
  have e2 := of_decide_eq_true h2
  omega
theorem in_list {lo hi : Int} {least most : Nat} {ns : List Int} (h : PySem.W.Codec.inList least most (PySem.W.Codec.inInt lo hi) ns = true) (h0 : 0 ≤ lo) : ns = Lg.toI (ns.map Int.toNat) ∧ (ns.map Int.toNat).length ≤ most := by
  obtain ⟨h1, h2⟩ := Bool.and_eq_true_iff.mp h
  obtain ⟨h3, h4⟩ := Bool.and_eq_true_iff.mp h1
  refine ⟨?_, by rw [List.length_map]; exact of_decide_eq_true h4⟩
  have k : ∀ l : List Int, (l.all (PySem.W.Codec.inInt lo hi)) = true → l = Lg.toI (l.map Int.toNat) := by
    intro l
    induction l with
    | nil =>
      intro _
      rfl
    | cons a l ih =>
      intro hl
      obtain ⟨q1, q2⟩ := Bool.and_eq_true_iff.mp hl
      show a :: l = ((a.toNat : Nat) : Int) :: Lg.toI (l.map Int.toNat)
      rw [← (in_int q1 h0).1, ← ih q2]
  exact k ns h2
end Lev

namespace Lev
open PySem PySem.Spec PyProof.Rows L2
/-! ### lists as data, for == and != -/
def dI (l : List Nat) : PyData := .list ((Lg.toI l).map PyData.int)
def dR (cs : List (List Nat)) : PyData := .list (cs.map dI)
theorem dp_ints {K : PySem.W.Frag} {H : Hp} : ∀ ns : List Int, DpAll K H (ns.map V.int) (ns.map PyData.int)
  | [] => .nil
  | n :: r => .cons (.int n) (dp_ints r)
theorem dp_dI {K : PySem.W.Frag} {H : Hp} {a : Addr} {l : List Nat} (h : SqL K H a (vI l)) : Dp K H (.ref a) (dI l) := .lst h (dp_ints _)
theorem dp_nil {K : PySem.W.Frag} {H : Hp} {a : Addr} (h : H a = some (.lst [])) : Dp K H (.ref a) (.list []) := .lst (sq h) .nil
theorem dp_rows {K : PySem.W.Frag} {H : Hp} : ∀ {ps : List Addr} {cs : List (List Nat)}, Rows H ps cs → DpAll K H (ps.map V.ref) (cs.map dI)
  | [], [], _ => .nil
  | _ :: ps, _ :: cs, h => .cons (dp_dI (sq h.1)) (dp_rows h.2)
  | [], _ :: _, h => h.elim
  | _ :: _, [], h => h.elim
theorem dp_dR {K : PySem.W.Frag} {H : Hp} {a : Addr} {ps : List Addr} {cs : List (List Nat)} (h : SqL K H a (ps.map V.ref)) (r : Rows H ps cs) : Dp K H (.ref a) (dR cs) := .lst h (dp_rows r)
theorem lay_ints : ∀ ns : List Int, PyData.canLayAll0 (ns.map PyData.int) = true ∧ PyData.depthAll (ns.map PyData.int) = 0
  | [] => by simp [PyData.canLayAll0, PyData.depthAll]
  | n :: r => by
    obtain ⟨h1, h2⟩ := lay_ints r
    simp [PyData.canLayAll0, PyData.depthAll, PyData.canLay0, PyData.depth, h1, h2]
theorem lay_dI (l : List Nat) : PyData.canLay0 (dI l) = true ∧ PyData.depth (dI l) = 1 := by
  obtain ⟨h1, h2⟩ := lay_ints (Lg.toI l)
  unfold dI
  simp only [PyData.canLay0, PyData.depth, h1, h2]
  exact ⟨trivial, trivial⟩
theorem lay_rows : ∀ cs : List (List Nat), PyData.canLayAll0 (cs.map dI) = true ∧ PyData.depthAll (cs.map dI) ≤ 1
  | [] => by simp [PyData.canLayAll0, PyData.depthAll]
  | c :: r => by
    obtain ⟨h1, h2⟩ := lay_rows r
    obtain ⟨h3, h4⟩ := lay_dI c
    simp only [List.map_cons, PyData.canLayAll0, PyData.depthAll, h1, h3, h4, Bool.and_self]
    exact ⟨trivial, by omega⟩
theorem shaped_dI (l : List Nat) : SeqAt.shaped (dI l) = true := by
  obtain ⟨h1, h2⟩ := lay_dI l
  unfold SeqAt.shaped
  rw [h1, h2]
  rfl
theorem shaped_dR (cs : List (List Nat)) : SeqAt.shaped (dR cs) = true := by
  obtain ⟨h1, h2⟩ := lay_rows cs
  unfold SeqAt.shaped dR
  simp only [PyData.canLay0, PyData.depth, h1, Bool.true_and]
  exact decide_eq_true (by omega)
theorem shaped_nil : SeqAt.shaped (.list []) = true := by
  unfold SeqAt.shaped
  simp [PyData.canLay0, PyData.canLayAll0, PyData.depth, PyData.depthAll]
theorem eqv_nil (ds : List PyData) : PyData.eqv (.list ds) (.list []) = ds.isEmpty := by
  cases ds with
  | nil => simp [PyData.eqv, PyData.eqvAll]
  | cons d r => simp [PyData.eqv, PyData.eqvAll]
theorem eqv_dI (l : List Nat) : PyData.eqv (dI l) (.list []) = l.isEmpty := by
  unfold dI
  rw [eqv_nil]
  cases l <;> rfl
theorem eqv_dR (cs : List (List Nat)) : PyData.eqv (dR cs) (.list []) = cs.isEmpty := by
  unfold dR
  rw [eqv_nil]
  cases cs <;> rfl
end Lev

namespace Lev
open PySem PySem.Spec PyProof.Rows L2
section
variable {P : Program} {w : World} {K : PySem.W.Frag} {mg : Str → Option Value} {base : Heap} {C : Addr}
/-! ### __init__ of Refused -/
theorem scInit : FnScope ["self", "number"] ["self", "number"] (defScope sInit) := ⟨rfl, rfl, rfl, by decide +kernel, rfl, by decide +kernel, by decide +kernel⟩
def spInit (K : PySem.W.Frag) (C : Addr) : Sp := fun vs H Q _ => ∃ (a : Addr) (n : Int), vs = [.ref a, .int n] ∧ OexC K C ∧ PySem.W.findIn K (.ref C) "number" = some none ∧ H a = some (exo a C none) ∧
  ∀ dx, H dx = none → dx ≠ a → Q .non (upd (upd H dx (exd dx [(("number" : Str), .int n)])) a (exo a C (some dx)))
theorem ok_init {f : Addr} {fd : FuncData} (F : Fun K "__init__" "Refused.__init__" sInit f fd) : FnOk P w K mg base CX0 1 f fd ["self", "number"] (spInit K C) := by
  refine F.ok scInit (fun vs H Q E h => ?_) (fun cdv A outer s H vs Q E hr h => ?_)
  · obtain ⟨a, n, rfl, _⟩ := h
    rfl
  · obtain ⟨a, n, rfl, T, no, e, q⟩ := h
    refine ⟨_, pss_one (ps_ost (pv 0) (pv 1)), ?_⟩
    exact ⟨_, rfl, _, rfl, a, C, rfl, T, no, .inl ⟨e, fun dx nd ne => q dx nd ne⟩⟩
/-! ### need -/
theorem scNeed : FnScope ["truth", "number"] ["truth", "number"] (defScope sNeed) := ⟨rfl, rfl, rfl, by decide +kernel, rfl, by decide +kernel, by decide +kernel⟩
def spNeed (C : Addr) : Sp := fun vs H Q E => ∃ (t : Bool) (n : Int), vs = [.bl t, .int n] ∧ (t = true → Q .non H) ∧ (t = false → Ref C H n E)
theorem ok_need {f fI : Addr} {fd fdI : FuncData} (F : Fun K "need" "need" sNeed f fd) (R : RefC K mg C) (iC : PySem.W.findIn K (.ref C) "__init__" = some (some (.ref fI))) (tI : PySem.W.typeIn K (.ref fI) = some (.type "function"))
    (FI : Fun K "__init__" "Refused.__init__" sInit fI fdI) (bI : Binds K fdI ["self", "number"] []) : FnOk P w K mg base (L2.CX P w) 3 f fd ["truth", "number"] (spNeed C) := by
  have GI : FnOk P w K mg base CX0 1 fI fdI ["self", "number"] (spInit K C) := ok_init FI
  refine F.okX scNeed (fun vs H Q E h => ?_) (fun cdv A outer s H vs Q E hr h => ?_)
  · obtain ⟨t, n, rfl, _⟩ := h
    rfl
  · obtain ⟨t, n, rfl, kT, kF⟩ := h
    refine ⟨_, pss_one (ps_if (pt_not (pt_val (pv 0))) (pss_one (ps_raise (W := fun cls d _ H => E cls d H) rfl (takes_of rfl rfl rfl rfl) (pmk_oex (dvs := []) R.o iC tI GI hr bI .nil pass0 (by rfl) R.g (by exact (pa_cons (pv 1) pa_nil))))) pss_nil), ?_⟩
    refine ⟨_, rfl, t, rfl, ?_⟩
    cases t with
    | true => exact iteF (kT rfl)
    | false =>
      refine iteT ⟨_, rfl, (by show 1 ≤ 1000; decide), fun a na => ?_⟩
      refine ⟨a, n, rfl, R.o, R.no, upd_same, fun dx nd ne => ⟨rfl, dx, [(("number" : Str), V.int n)], upd_same, ?_, ?_, ?_⟩⟩
      · rw [upd_ne ne, upd_same]
      · rw [upd_ne ne] at nd
        exact nd
      · refine kF rfl dx _ (fun b o e => ?_) upd_same
        rw [upd_ne ne] at nd
        have h1 := ne_of_none e nd
        have h2 := ne_of_none e na
        rw [upd_ne h1, del_ne h2, upd_ne h2, upd_ne h1, upd_ne h2]
        exact e
end
end Lev

namespace Lev
open PySem PySem.Spec PyProof.Rows L2
section
variable {P : Program} {w : World} {K : PySem.W.Frag} {mg : Str → Option Value} {base : Heap} {C : Addr}
/-! ### need_levels. Slots: levels, level -/
theorem scNeedLevels : FnScope ["levels", "level"] ["levels"] (defScope sNeedLevels) := ⟨rfl, rfl, rfl, by decide +kernel, rfl, by decide +kernel, by decide +kernel⟩
def spNeedLevels (K : PySem.W.Frag) (C : Addr) : Sp := fun vs H Q E => ∃ (a : Addr) (l : List Nat), vs = [.ref a] ∧ SqL K H a (vI l) ∧ l.length ≤ 1000 ∧
  (Lg.okL l = true → ∀ H', Same H H' → Q .non H') ∧ (Lg.okL l = false → Ref C H (-22) E)
theorem okL_short {l : List Nat} (h : decide (((vI l).length : Int) ≤ 9) = false) : Lg.okL l = false := by
  have h1 := of_decide_eq_false h
  rw [vI_len] at h1
  unfold Lg.okL
  rw [decide_eq_false (by omega)]
  rfl
theorem okL_all {l : List Nat} (h : decide (((vI l).length : Int) ≤ 9) = true) : Lg.okL l = (l.map fun v : Nat => decide ((v : Int) ≤ 1000)).all id := by
  have h1 := of_decide_eq_true h
  rw [vI_len] at h1
  unfold Lg.okL
  rw [decide_eq_true (by omega), Bool.true_and, List.all_map]
  congr 1
  funext v
  show decide (v ≤ 1000) = decide ((v : Int) ≤ 1000)
  by_cases q : v ≤ 1000
  · rw [decide_eq_true q, decide_eq_true (by omega)]
  · rw [decide_eq_false q, decide_eq_false (by omega)]
theorem ok_need_levels {f : Addr} {fd : FuncData} (F : Fun K "need_levels" "need_levels" sNeedLevels f fd) (B : Blt mg) (cN : Callee P w K mg base (L2.CX P w) 3 "need" ["truth", "number"] (spNeed C))
    (cM : Num mg "MOST_CHILDREN" 9) (cG : Num mg "GREATEST_LEVEL" 1000) (cW : Num mg "WRONG" (-22)) : FnOk P w K mg base (L2.CX P w) 4 f fd ["levels"] (spNeedLevels K C) := by
  refine F.okX scNeedLevels (fun vs H Q E h => ?_) (fun cdv A outer s H vs Q E hr h => ?_)
  · obtain ⟨a, l, rfl, _⟩ := h
    rfl
  · obtain ⟨a, l, rfl, hS, hlen, kT, kF⟩ := h
    obtain ⟨fN, fdN, GN, mN, kN, bN⟩ := cN.ex
    obtain ⟨t1, mM⟩ := cM
    obtain ⟨t2, mG⟩ := cG
    obtain ⟨t3, mW⟩ := cW
    refine ⟨_, pss_cons (ps_expr (pe_call GN hr rfl mN kN bN .nil (passes_call (takes_of rfl rfl rfl rfl) fun _ _ _ _ h => h)
        (pa_cons (pe_cmpR op_le (pe_callB call_len_seq (by rfl) B.len PySem.boot_len (pa_cons (pv 0) pa_nil)) (pe_num rfl mM) (nomark _)) (pa_cons (pe_num rfl mW) pa_nil))))
      (pss_one (ps_expr (pe_call GN hr rfl mN kN bN .nil (passes_call (takes_of rfl rfl rfl rfl) fun _ _ _ _ h => h)
        (pa_cons (pe_callB (cr_all rfl) (by rfl) B.all (by decide +kernel) (pa_cons
          (pe_lc (own := [("level", 1)]) (g := gName 1) (by rfl) scNeedLevels.nd (pi_list (pv 0)) (blkOk_by (own := [("level", 1)]) (N := ["levels", "level"]) (sc := defScope sNeedLevels) (by decide +kernel))
            (fun _ _ _ _ _ => pg_name (i := 1) scNeedLevels.nd rfl (Or.inl rfl)) (fun _ _ _ _ _ => pts_nil) (fun _ _ _ _ _ => pe_cmpR op_le (pv 1) (pe_num rfl mG) (nomark _))) pa_nil))
          (pa_cons (pe_num rfl mW) pa_nil))))), ?_⟩
    refine ⟨_, rfl, a, vI l, rfl, .inl hS, _, _, rfl, rfl, _, _, rfl, fun t => ?_, fun t => kF (okL_short t)⟩
    -- all([level <= GREATEST_LEVEL for level in levels])
    refine ⟨_, rfl, a, rfl, ⟨_, hS⟩, fun D nD => lc_list (K := K) (a := a) (xs := vI l)
      (fun i H' => Same H H' ∧ H' D = some (.lst ((l.take i).map fun v : Nat => V.bl (decide ((v : Int) ≤ 1000)))))
      ⟨same_upd nD, upd_same⟩ (fun i H' _ h => h.1.seq hS) ?_ ?_⟩
    · rintro i x H' hx ⟨s1, e1⟩
      obtain ⟨n, hn, rfl⟩ := vI_at hx
      refine ⟨rfl, ?_⟩
      refine ⟨_, rfl, _, _, rfl, rfl, _, e1, ?_, same_upd2 s1 nD, ?_⟩
      · refine line_small ?_
        rw [List.length_map, List.length_take]
        omega
      · rw [map_more hn]
        exact upd_same
    · rintro H' ⟨s1, e1⟩
      rw [take_all] at e1
      refine ⟨D, l.map fun v : Nat => decide ((v : Int) ≤ 1000), rfl, sq (by rw [e1, List.map_map]; rfl), _, _, rfl, fun z => ?_, fun z => ?_⟩
      · exact kT (by rw [okL_all t]; exact z) H' s1
      · exact (kF (by rw [okL_all t]; exact z)).later s1
/-! ### need_size -/
theorem scNeedSize : FnScope ["size"] ["size"] (defScope sNeedSize) := ⟨rfl, rfl, rfl, by decide +kernel, rfl, by decide +kernel, by decide +kernel⟩
def spNeedSize (C : Addr) : Sp := fun vs H Q E => ∃ n : Nat, vs = [.int (n : Int)] ∧ (Lg.okS n = true → Q .non H) ∧ (Lg.okS n = false → Ref C H (-22) E)
theorem okS_int (n : Nat) : Lg.okS n = (decide ((1 : Int) ≤ (n : Int)) && decide ((n : Int) ≤ 9)) := by
  unfold Lg.okS
  have e1 : decide ((1 : Int) ≤ (n : Int)) = decide (1 ≤ n) := by
    by_cases q : 1 ≤ n
    · rw [decide_eq_true q, decide_eq_true (by omega)]
    · rw [decide_eq_false q, decide_eq_false (by omega)]
  have e2 : decide ((n : Int) ≤ 9) = decide (n ≤ 9) := by
    by_cases q : n ≤ 9
    · rw [decide_eq_true q, decide_eq_true (by omega)]
    · rw [decide_eq_false q, decide_eq_false (by omega)]
  rw [e1, e2]
theorem ok_need_size {f : Addr} {fd : FuncData} (F : Fun K "need_size" "need_size" sNeedSize f fd) (cN : Callee P w K mg base (L2.CX P w) 3 "need" ["truth", "number"] (spNeed C))
    (cM : Num mg "MOST_SIZE" 9) (cW : Num mg "WRONG" (-22)) : FnOk P w K mg base (L2.CX P w) 4 f fd ["size"] (spNeedSize C) := by
  refine F.okX scNeedSize (fun vs H Q E h => ?_) (fun cdv A outer s H vs Q E hr h => ?_)
  · obtain ⟨n, rfl, _⟩ := h
    rfl
  · obtain ⟨n, rfl, kT, kF⟩ := h
    obtain ⟨fN, fdN, GN, mN, kN, bN⟩ := cN.ex
    obtain ⟨t1, mM⟩ := cM
    obtain ⟨t3, mW⟩ := cW
    refine ⟨_, pss_one (ps_expr (pe_call GN hr rfl mN kN bN .nil (passes_call (takes_of rfl rfl rfl rfl) fun _ _ _ _ h => h)
        (pa_cons (pe_chain op_le op_le pe_int (pv 0) (pe_num rfl mM)) (pa_cons (pe_num rfl mW) pa_nil)))), ?_⟩
    refine ⟨_, rfl, _, _, rfl, rfl, _, rfl, iteB (fun c => ?_) (fun c => ?_)⟩
    · refine ⟨_, _, rfl, rfl, _, _, rfl, fun z => kT ?_, fun z => kF ?_⟩
      · rw [okS_int, c, z]
        rfl
      · rw [okS_int, c, z]
        rfl
    · refine ⟨_, _, rfl, fun z => (Bool.false_ne_true z).elim, fun z => kF ?_⟩
      rw [okS_int, c]
      rfl
end
end Lev

namespace Lev
open PySem PySem.Spec PyProof.Rows L2
section
variable {P : Program} {w : World} {K : PySem.W.Frag} {mg : Str → Option Value} {base : Heap} {C : Addr}
/-! ### need_most -/
theorem scNeedMost : FnScope ["most"] ["most"] (defScope sNeedMost) := ⟨rfl, rfl, rfl, by decide +kernel, rfl, by decide +kernel, by decide +kernel⟩
def spNeedMost (C : Addr) : Sp := fun vs H Q E => ∃ n : Nat, vs = [.int (n : Int)] ∧ (n ≤ 1000 → Q .non H) ∧ (¬ n ≤ 1000 → Ref C H (-22) E)
theorem ok_need_most {f : Addr} {fd : FuncData} (F : Fun K "need_most" "need_most" sNeedMost f fd) (cN : Callee P w K mg base (L2.CX P w) 3 "need" ["truth", "number"] (spNeed C))
    (cG : Num mg "GREATEST_LEVEL" 1000) (cW : Num mg "WRONG" (-22)) : FnOk P w K mg base (L2.CX P w) 4 f fd ["most"] (spNeedMost C) := by
  refine F.okX scNeedMost (fun vs H Q E h => ?_) (fun cdv A outer s H vs Q E hr h => ?_)
  · obtain ⟨n, rfl, _⟩ := h
    rfl
  · obtain ⟨n, rfl, kT, kF⟩ := h
    obtain ⟨fN, fdN, GN, mN, kN, bN⟩ := cN.ex
    obtain ⟨t1, mG⟩ := cG
    obtain ⟨t3, mW⟩ := cW
    refine ⟨_, pss_one (ps_expr (pe_call GN hr rfl mN kN bN .nil (passes_call (takes_of rfl rfl rfl rfl) fun _ _ _ _ h => h)
        (pa_cons (pe_cmpR op_le (pv 0) (pe_num rfl mG) (nomark _)) (pa_cons (pe_num rfl mW) pa_nil)))), ?_⟩
    refine ⟨_, rfl, _, _, rfl, rfl, _, _, rfl, fun z => kT ?_, fun z => kF ?_⟩
    · have z' := of_decide_eq_true z
      omega
    · have z' := of_decide_eq_false z
      omega
end
end Lev

namespace Lev
open PySem PySem.Spec PyProof.Rows L2
section
variable {P : Program} {w : World} {K : PySem.W.Frag} {mg : Str → Option Value} {base : Heap}
/-! ### spread_of -/
theorem scSpreadOf : FnScope ["levels"] ["levels"] (defScope sSpreadOf) := ⟨rfl, rfl, rfl, by decide +kernel, rfl, by decide +kernel, by decide +kernel⟩
def spSpread (K : PySem.W.Frag) : Sp := fun vs H Q _ => ∃ (a : Addr) (l : List Nat), vs = [.ref a] ∧ SqL K H a (vI l) ∧ ∀ H', Same H H' → Q (.int ((Ks438.spread l : Nat) : Int)) H'
theorem ok_spread_of {f : Addr} {fd : FuncData} (F : Fun K "spread_of" "spread_of" sSpreadOf f fd) (B : Blt mg) : FnOk P w K mg base CX0 1 f fd ["levels"] (spSpread K) := by
  refine F.ok scSpreadOf (fun vs H Q E h => ?_) (fun cdv A outer s H vs Q E hr h => ?_)
  · obtain ⟨a, l, rfl, _⟩ := h
    rfl
  · obtain ⟨a, l, rfl, hS, q⟩ := h
    refine ⟨_, pss_cons (ps_if (pt_cmpR (op_eqD hr.units) (pv 0) (pe_lst pa_nil) (nomark _)) (pss_one (ps_ret pe_int)) pss_nil)
      (pss_one (ps_ret (pe_op op_sub (pe_callB (cr_max rfl) (by rfl) B.max (by decide +kernel) (pa_cons (pv 0) pa_nil)) (pe_callB (cr_min rfl) (by rfl) B.min (by decide +kernel) (pa_cons (pv 0) pa_nil))))), ?_⟩
    refine ⟨_, rfl, Nat.zero_le _, fun p np => ?_⟩
    have s1 : Same H (upd H p (.lst [])) := same_upd np
    refine ⟨dI l, .list [], dp_dI (s1.seq hS), dp_nil upd_same, shaped_dI l, shaped_nil, _, rfl, ?_⟩
    rw [eqv_dI]
    cases l with
    | nil => exact iteT (q _ s1)
    | cons x r =>
      refine iteF ?_
      have h0 : 0 < (Lg.toI (x :: r)).length := by
        rw [List.length_map, List.length_cons]
        omega
      refine ⟨_, rfl, a, Lg.toI (x :: r), rfl, s1.seq hS, h0, fun m hm hm' => ?_⟩
      refine ⟨_, rfl, a, Lg.toI (x :: r), rfl, s1.seq hS, h0, fun k hk hk' => ?_⟩
      refine ⟨_, _, rfl, rfl, ?_⟩
      show Q (.int (m - k)) _
      rw [Lg.spread_is hm hm' hk hk']
      exact q _ s1
end
end Lev

namespace Lev
open PySem PySem.Spec PyProof.Rows L2
section
variable {P : Program} {w : World} {K : PySem.W.Frag} {mg : Str → Option Value} {base : Heap}
/-! ### spreads_of_pieces. Slots: row, pieces, found, begin, many -/
theorem scOfPieces : FnScope ["row", "pieces", "found", "begin", "many"] ["row", "pieces"] (defScope sSpreadsOfPieces) := ⟨rfl, rfl, rfl, by decide +kernel, rfl, by decide +kernel, by decide +kernel⟩
def spOfPieces (K : PySem.W.Frag) : Sp := fun vs H Q _ => ∃ (a b : Addr) (row c : List Nat), vs = [.ref a, .ref b] ∧ SqL K H a (vI row) ∧ SqL K H b (vI c) ∧ c.length ≤ 1000 ∧
  ∀ H' p, Same H H' → H p = none → H' p = some (.lst (vI (Lg.spreads row c))) → Q (.ref p) H'
/-- row[b:b + k] -/
theorem cut_row (row : List Nat) (b k : Nat) : cutV (vI row) (some (b : Int)) (some ((b : Int) + (k : Int))) = vI ((row.drop b).take k) := by
  unfold cutV
  have e : (b : Int) + (k : Int) = ((b + k : Nat) : Int) := by omega
  rw [e, HT.sIx_nat, HT.sIx_nat, vI_len]
  unfold vI Lg.toI
  rw [List.map_take, List.map_take, List.map_drop, List.map_drop]
  by_cases h : b ≤ row.length
  · rw [show min b row.length = b from Nat.min_eq_left h]
    by_cases h2 : b + k ≤ row.length
    · rw [show min (b + k) row.length = b + k from Nat.min_eq_left h2, Nat.add_sub_cancel_left]
    · rw [show min (b + k) row.length = row.length from Nat.min_eq_right (by omega), List.take_of_length_le (by simp), List.take_of_length_le (by simp; omega)]
  · rw [show min b row.length = row.length from Nat.min_eq_right (by omega), List.drop_of_length_le (i := row.length) (by simp), List.drop_of_length_le (i := b) (by simp; omega)]
    simp
theorem sum_more {c : List Nat} {i k : Nat} (h : c[i]? = some k) : (c.take (i + 1)).sum = (c.take i).sum + k := by
  rw [take_more h, List.sum_append]
  simp
theorem ok_spreads_of_pieces {f : Addr} {fd : FuncData} (F : Fun K "spreads_of_pieces" "spreads_of_pieces" sSpreadsOfPieces f fd) (cS : Callee P w K mg base CX0 1 "spread_of" ["levels"] (spSpread K)) :
    FnOk P w K mg base CX0 2 f fd ["row", "pieces"] (spOfPieces K) := by
  refine F.ok scOfPieces (fun vs H Q E h => ?_) (fun cdv A outer s H vs Q E hr h => ?_)
  · obtain ⟨a, b, row, c, rfl, _⟩ := h
    rfl
  · obtain ⟨a, b, row, c, rfl, hS, hC, hlen, q⟩ := h
    obtain ⟨fS, fdS, GS, mS, kS, bS⟩ := cS.ex
    refine ⟨_, pss_cons (ps_set (i := 2) scOfPieces.nd rfl (.inl rfl) (pe_lst pa_nil))
      (pss_cons (ps_set (i := 3) scOfPieces.nd rfl (.inl rfl) pe_int)
      (pss_cons (ps_for PassesOwn.never rfl (pi_list (pv 1)) (pg_name (i := 4) scOfPieces.nd rfl (Or.inl rfl))
        (pss_cons (ps_expr (pe_bm PySem.F.plainAttrs_list PySem.F.slot_list_append PySem.F.type_list_append mt_append (pv 2)
            (pa_cons (pe_call GS hr rfl mS kS bS .nil pass0 (pa_cons (pe_slice sl_list (pv 0) (po_some (pv 3)) (po_some (pe_op op_add (pv 3) (pv 4)))) pa_nil)) pa_nil)))
          (pss_one (ps_aug (i := 3) scOfPieces.nd rfl (.inl rfl) (pv 4) ip_add))))
      (pss_one (ps_ret (pv 2))))), ?_⟩
    refine ⟨Nat.zero_le _, fun D nD => ?_⟩
    have s0 : Same H (upd H D (.lst [])) := same_upd nD
    refine ⟨.ref b, rfl, b, rfl, ⟨_, s0.seq hC⟩, for_list (K := K) (a := b) (xs := vI c)
      (fun i σ H' => ∃ v, σ = [some (.ref a), some (.ref b), some (.ref D), some (.int (((c.take i).sum : Nat) : Int)), v] ∧ Same H H' ∧ H' D = some (.lst (vI (Lg.spreads row (c.take i)))))
      ⟨none, rfl, s0, upd_same⟩ (fun i σ H' _ ⟨_, _, s1, _⟩ => s1.seq hC) ?_ ?_⟩
    · rintro i x σ H1 hx ⟨v, rfl, s1, e1⟩
      obtain ⟨k, hk, rfl⟩ := vI_at hx
      refine ⟨_, rfl, .inl ⟨rfl, _, sq e1⟩, .ref a, rfl, _, rfl, _, rfl, _, rfl, _, rfl, _, _, rfl, rfl, _, rfl, a, vI row, rfl, s1.seq hS, fun p np => ?_⟩
      rw [cut_row] at *
      have s2 := same_upd (o := .lst (vI ((row.drop (c.take i).sum).take k))) np
      refine ⟨p, _, rfl, sq upd_same, fun H2 s3 => ?_⟩
      have s13 : Same H1 H2 := s2.trans s3
      refine ⟨D, _, _, rfl, rfl, s13 _ _ e1, ?_, ?_⟩
      · refine line_small ?_
        rw [vI_len, Lg.spreads_length, List.length_take]
        omega
      · refine ⟨_, rfl, _, rfl, _, _, rfl, rfl, some (.int (k : Int)), ?_, same_upd2 (s1.trans s13) nD, ?_⟩
        · rw [sum_more hk, Int.natCast_add]
          rfl
        · rw [take_more hk, Lg.spreads_snoc, vI_app, vI_one]
          exact upd_same
    · rintro σ H' ⟨v, rfl, s1, e1⟩
      rw [take_all] at e1
      exact ⟨_, rfl, q H' D s1 nD e1⟩
end
end Lev

namespace Lev
open PySem PySem.Spec PyProof.Rows L2
section
variable {P : Program} {w : World} {K : PySem.W.Frag} {mg : Str → Option Value} {base : Heap}
/-! ### greatest. Slots: spreads, found, spread -/
theorem scGreatest : FnScope ["spreads", "found", "spread"] ["spreads"] (defScope sGreatest) := ⟨rfl, rfl, rfl, by decide +kernel, rfl, by decide +kernel, by decide +kernel⟩
def spGreatest (K : PySem.W.Frag) : Sp := fun vs H Q _ => ∃ (a : Addr) (l : List Nat), vs = [.ref a] ∧ SqL K H a (vI l) ∧ Q (.int ((Lg.top l : Nat) : Int)) H
theorem max_int (i j : Nat) : (if (j : Int) > (i : Int) then (j : Int) else (i : Int)) = ((max i j : Nat) : Int) := by
  by_cases q : i < j
  · rw [if_pos (by omega), Nat.max_eq_right (by omega)]
  · rw [if_neg (by omega), Nat.max_eq_left (by omega)]
theorem ok_greatest {f : Addr} {fd : FuncData} (F : Fun K "greatest" "greatest" sGreatest f fd) (B : Blt mg) : FnOk P w K mg base CX0 1 f fd ["spreads"] (spGreatest K) := by
  refine F.ok scGreatest (fun vs H Q E h => ?_) (fun cdv A outer s H vs Q E hr h => ?_)
  · obtain ⟨a, l, rfl, _⟩ := h
    rfl
  · obtain ⟨a, l, rfl, hS, q⟩ := h
    refine ⟨_, pss_cons (ps_set (i := 1) scGreatest.nd rfl (.inl rfl) pe_int)
      (pss_cons (ps_for PassesOwn.never rfl (pi_list (pv 0)) (pg_name (i := 2) scGreatest.nd rfl (Or.inl rfl))
        (pss_one (ps_set (i := 1) scGreatest.nd rfl (.inl rfl) (pe_callB (call_max2 rfl) (by rfl) B.max (by decide +kernel) (pa_cons (pv 1) (pa_cons (pv 2) pa_nil))))))
      (pss_one (ps_ret (pv 1)))), ?_⟩
    refine ⟨_, rfl, a, rfl, ⟨_, hS⟩, for_list (K := K) (a := a) (xs := vI l)
      (fun i σ H' => ∃ v, σ = [some (.ref a), some (.int ((Lg.top (l.take i) : Nat) : Int)), v] ∧ H' = H) ⟨none, rfl, rfl⟩ (fun i σ H' _ ⟨_, _, e⟩ => by rw [e]; exact hS) ?_ ?_⟩
    · rintro i x σ H' hx ⟨v, rfl, rfl⟩
      obtain ⟨n, hn, rfl⟩ := vI_at hx
      refine ⟨_, rfl, _, rfl, _, _, rfl, ?_⟩
      refine ⟨some (.int (n : Int)), ?_, rfl⟩
      rw [take_more hn, Lg.top_snoc, max_int]
      rfl
    · rintro σ H' ⟨v, rfl, rfl⟩
      rw [take_all]
      exact ⟨_, rfl, q⟩
end
end Lev

namespace Lev
open PySem PySem.Spec PyProof.Rows L2
section
variable {P : Program} {w : World} {K : PySem.W.Frag} {mg : Str → Option Value} {base : Heap}
/-! ### longer_by_one. Slots: pieces, left, size, many -/
theorem scLonger : FnScope ["pieces", "left", "size", "many"] ["pieces", "left", "size"] (defScope sLongerByOne) := ⟨rfl, rfl, rfl, by decide +kernel, rfl, by decide +kernel, by decide +kernel⟩
def spLonger : Sp := fun vs H Q _ => ∃ (a : Addr) (p : List Nat) (left size : Nat), vs = [.ref a, .int (left : Int), .int (size : Int)] ∧ H a = some (.lst (vI p)) ∧ p.length ≤ 1000 ∧ left ≤ 1000 ∧ size ≤ 1000 ∧
  ∀ H' q ps, Same H H' → H q = none → H' q = some (.lst (ps.map V.ref)) → Rows H' ps (Lg.longer p left size) → (∀ r ∈ ps, H r = none) → q ∉ ps → Q (.ref q) H'
def lon (p : List Nat) (i : Nat) : List (List Nat) := (List.range i).map fun j => p ++ [j + 1]
theorem lon_more (p : List Nat) (i : Nat) : lon p (i + 1) = lon p i ++ [p ++ [i + 1]] := by
  unfold lon
  rw [List.range_succ, List.map_append]
  rfl
theorem lon_len (p : List Nat) (i : Nat) : (lon p i).length = i := by
  unfold lon
  rw [List.length_map, List.length_range]
theorem min_int (i j : Nat) : (if (j : Int) < (i : Int) then (j : Int) else (i : Int)) = ((min i j : Nat) : Int) := by
  by_cases q : j < i
  · rw [if_pos (by omega), Nat.min_eq_right (by omega)]
  · rw [if_neg (by omega), Nat.min_eq_left (by omega)]
theorem ok_longer_by_one {f : Addr} {fd : FuncData} (F : Fun K "longer_by_one" "longer_by_one" sLongerByOne f fd) (B : Blt mg) : FnOk P w K mg base CX0 1 f fd ["pieces", "left", "size"] spLonger := by
  refine F.ok scLonger (fun vs H Q E h => ?_) (fun cdv A outer s H vs Q E hr h => ?_)
  · obtain ⟨a, p, left, size, rfl, _⟩ := h
    rfl
  · obtain ⟨a, p, left, size, rfl, hA, hp, hl, hz, q⟩ := h
    refine ⟨_, pss_one (ps_ret (pe_lc (own := [("many", 3)]) (g := gName 3) (by rfl) scLonger.nd
      (pi_range2 (by rfl) B.range (pa_cons pe_int (pa_cons (pe_op op_add (pe_callB (call_min2 rfl) (by rfl) B.min (by decide +kernel) (pa_cons (pv 2) (pa_cons (pv 1) pa_nil))) pe_int) pa_nil)))
      (blkOk_by (own := [("many", 3)]) (N := ["pieces", "left", "size", "many"]) (sc := defScope sLongerByOne) (by decide +kernel))
      (fun _ _ _ _ _ => pg_name (i := 3) scLonger.nd rfl (Or.inl rfl)) (fun _ _ _ _ _ => pts_nil)
      (fun _ _ _ _ _ => pe_op op_cat (pv 0) (pe_lst (pa_cons (pv 3) pa_nil))))), ?_⟩
    have en : ((((min size left : Nat) : Int) + 1) - 1).toNat = min size left := by omega
    refine ⟨_, rfl, _, rfl, _, _, rfl, _, _, rfl, rfl, 1, ((min size left : Nat) : Int) + 1, by rw [min_int], by omega, fun D nD => lc_range (lo := 1) (n := ((((min size left : Nat) : Int) + 1) - 1).toNat)
      (fun i H' => Same H H' ∧ ∃ ps : List Addr, H' D = some (.lst (ps.map V.ref)) ∧ Rows H' ps (lon p i) ∧ (∀ r ∈ ps, H r = none) ∧ D ∉ ps) ⟨same_upd nD, [], upd_same, trivial, fun r hr => (by cases hr), fun hr => (by cases hr)⟩ ?_ ?_⟩
    · rintro i H1 hi ⟨s1, ps, e1, r1, f1, d1⟩
      rw [en] at hi
      refine ⟨rfl, ?_⟩
      refine ⟨_, rfl, _, rfl, (by show 1 ≤ sizeLine; decide), fun t nt => ?_⟩
      have s2 := same_upd (o := .lst [.int ((1 : Int) + (i : Int))]) nt
      refine ⟨a, t, _, _, rfl, rfl, s2 _ _ (s1 _ _ hA), upd_same, ?_, fun r nr => ?_⟩
      · refine line_le ?_
        rw [vI_len, List.length_singleton]
        omega
      · have s3 := same_upd (o := .lst (vI p ++ [.int ((1 : Int) + (i : Int))])) nr
        have s13 := s2.trans s3
        have eD := s13 _ _ e1
        have nr0 : H r = none := s1.free (s2.free nr)
        have hrD : r ≠ D := fun z => by
          rw [z, s2 _ _ e1] at nr
          cases nr
        refine ⟨_, eD, ?_, same_upd2 (s1.trans s13) nD, ps ++ [r], ?_, ?_, ?_, ?_⟩
        · refine line_small ?_
          rw [List.length_map, r1.len, lon_len]
          omega
        · rw [List.map_append]
          exact upd_same
        · rw [lon_more]
          refine Rows.app ((r1.same s13).keep fun x hx o e => ?_) (Rows.one ?_)
          · rw [upd_ne (show x ≠ D from fun z => d1 (by rw [← z]; exact hx))]
            exact e
          · rw [upd_ne hrD, upd_same, vI_app]
            have ei : (1 : Int) + (i : Int) = ((i + 1 : Nat) : Int) := by omega
            rw [ei]
            rfl
        · intro x hx
          rcases List.mem_append.mp hx with hx | hx
          · exact f1 x hx
          · rw [List.mem_singleton.mp hx]
            exact nr0
        · intro hx
          rcases List.mem_append.mp hx with hx | hx
          · exact d1 hx
          · exact hrD (List.mem_singleton.mp hx).symm
    · rintro H' ⟨s1, ps, e1, r1, f1, d1⟩
      rw [en] at r1
      exact q H' D ps s1 nD e1 r1 f1 d1
end
end Lev

namespace Lev
open PySem PySem.Spec PyProof.Rows L2
section
variable {P : Program} {w : World} {K : PySem.W.Frag} {mg : Str → Option Value} {base : Heap}
/-! ### all_pieces. Slots: children, many, size, found, waiting, pieces, left -/
theorem scAllPieces : FnScope ["children", "many", "size", "found", "waiting", "pieces", "left"] ["children", "many", "size"] (defScope sAllPieces) := ⟨rfl, rfl, rfl, by decide +kernel, rfl, by decide +kernel, by decide +kernel⟩
def spAllPieces : Sp := fun vs H Q _ => ∃ (ch n size : Nat), vs = [.int (ch : Int), .int (n : Int), .int (size : Int)] ∧ ch ≤ 9 ∧ n ≤ 1000 ∧ size ≤ 1000 ∧
  ∀ H' p ps, Same H H' → H' p = some (.lst (ps.map V.ref)) → Rows H' ps (Ks438.cuts size n ch) → Q (.ref p) H'
/-- what stands while the loop runs: found at f, waiting at b -/
structure Loop (H0 H' : Hp) (f b : Addr) (fs ws : List Addr) (done pend : List (List Nat)) : Prop where
  same : Same H0 H'
  nf : H0 f = none
  nb : H0 b = none
  ne : f ≠ b
  ef : H' f = some (.lst (fs.map V.ref))
  eb : H' b = some (.lst (ws.map V.ref))
  rf : Rows H' fs done
  rb : Rows H' ws pend
  ff : f ∉ fs
  fw : f ∉ ws
  bf : b ∉ fs
  bw : b ∉ ws
theorem Loop.later {H0 H1 H2 : Hp} {f b : Addr} {fs ws : List Addr} {done pend : List (List Nat)} (L : Loop H0 H1 f b fs ws done pend) (s : Same H1 H2) : Loop H0 H2 f b fs ws done pend :=
  ⟨L.same.trans s, L.nf, L.nb, L.ne, s _ _ L.ef, s _ _ L.eb, L.rf.same s, L.rb.same s, L.ff, L.fw, L.bf, L.bw⟩
/-- a store at found, at waiting -/
theorem Loop.setF {H0 H1 : Hp} {f b : Addr} {fs ws fs2 : List Addr} {done pend done2 : List (List Nat)} (L : Loop H0 H1 f b fs ws done pend) (r : Rows H1 fs2 done2) (h1 : f ∉ fs2) (h2 : b ∉ fs2) :
    Loop H0 (upd H1 f (.lst (fs2.map V.ref))) f b fs2 ws done2 pend :=
  ⟨same_upd2 L.same L.nf, L.nf, L.nb, L.ne, upd_same, by rw [upd_ne (Ne.symm L.ne)]; exact L.eb, r.keep fun x hx o e => by rw [upd_ne (fun z => absurd hx (by rw [z]; exact h1))]; exact e,
    L.rb.keep fun x hx o e => by rw [upd_ne (fun z => absurd hx (by rw [z]; exact L.fw))]; exact e, h1, L.fw, h2, L.bw⟩
theorem Loop.setB {H0 H1 : Hp} {f b : Addr} {fs ws ws2 : List Addr} {done pend pend2 : List (List Nat)} (L : Loop H0 H1 f b fs ws done pend) (r : Rows H1 ws2 pend2) (h1 : f ∉ ws2) (h2 : b ∉ ws2) :
    Loop H0 (upd H1 b (.lst (ws2.map V.ref))) f b fs ws2 done pend2 :=
  ⟨same_upd2 L.same L.nb, L.nf, L.nb, L.ne, by rw [upd_ne L.ne]; exact L.ef, upd_same, L.rf.keep fun x hx o e => by rw [upd_ne (fun z => absurd hx (by rw [z]; exact L.bf))]; exact e,
    r.keep fun x hx o e => by rw [upd_ne (fun z => absurd hx (by rw [z]; exact h2))]; exact e, L.ff, h1, L.bf, h2⟩
theorem ok_all_pieces {f : Addr} {fd : FuncData} (F : Fun K "all_pieces" "all_pieces" sAllPieces f fd) (B : Blt mg) (cL : Callee P w K mg base CX0 1 "longer_by_one" ["pieces", "left", "size"] spLonger) :
    FnOk P w K mg base CX0 2 f fd ["children", "many", "size"] spAllPieces := by
  refine F.ok scAllPieces (fun vs H Q E h => ?_) (fun cdv A outer s H vs Q E hr h => ?_)
  · obtain ⟨ch, n, size, rfl, _⟩ := h
    rfl
  · obtain ⟨ch, n, size, rfl, hch, hn, hz, q⟩ := h
    obtain ⟨fL, fdL, GL, mL, kL, bL⟩ := cL.ex
    refine ⟨_, pss_cons (ps_set (i := 3) scAllPieces.nd rfl (.inl rfl) (pe_lst pa_nil))
      (pss_cons (ps_set (i := 4) scAllPieces.nd rfl (.inl rfl) (pe_lst (pa_cons (pe_lst pa_nil) pa_nil)))
      (pss_cons (ps_while PassesOwn.never (pt_cmpR (op_neD hr.units) (pv 4) (pe_lst pa_nil) (nomark _))
        (pss_cons (ps_set (i := 5) scAllPieces.nd rfl (.inl rfl) (pe_bm0 PySem.F.plainAttrs_list PySem.F.slot_list_pop PySem.F.type_list_pop mt_pop (pv 4)))
        (pss_cons (ps_set (i := 6) scAllPieces.nd rfl (.inl rfl) (pe_op op_sub (pv 0) (pe_callB (cr_sum rfl) (by rfl) B.sum (by decide +kernel) (pa_cons (pv 5) pa_nil))))
        (pss_one (ps_if (pt_cmpR op_eq (pv 6) pe_int (nomark _))
          (pss_one (ps_expr (pe_bm PySem.F.plainAttrs_list PySem.F.slot_list_append PySem.F.type_list_append mt_append (pv 3) (pa_cons (pv 5) pa_nil))))
          (pss_one (ps_if (pt_cmpR op_lt (pe_callB call_len_seq (by rfl) B.len PySem.boot_len (pa_cons (pv 5) pa_nil)) (pv 1) (nomark _))
            (pss_one (ps_expr (pe_bm PySem.F.plainAttrs_list PySem.F.slot_list_extend PySem.F.type_list_extend mt_extend (pv 4)
              (pa_cons (LRev.pe_listRev rfl (by rfl) B.list (by rfl) B.reversed (pe_call GL hr rfl mL kL bL .nil pass0 (pa_cons (pv 5) (pa_cons (pv 6) (pa_cons (pv 2) pa_nil))))) pa_nil))))
            pss_nil)))))))
      (pss_one (ps_ret (pv 3))))), ?_⟩
    -- found = []; waiting = [[]]
    refine ⟨Nat.zero_le _, fun f nf => ⟨Nat.zero_le _, fun p np => ⟨(by show 1 ≤ sizeLine; decide), fun b nb => ?_⟩⟩⟩
    have hpf : p ≠ f := fun z => by
      rw [z, upd_same] at np
      cases np
    have hbp : b ≠ p := fun z => by
      rw [z, upd_same] at nb
      cases nb
    have hbf : b ≠ f := fun z => by
      rw [z, upd_ne (Ne.symm hpf), upd_same] at nb
      cases nb
    have np0 : H p = none := by
      rw [upd_ne hpf] at np
      exact np
    have nb0 : H b = none := by
      rw [upd_ne hbp, upd_ne hbf] at nb
      exact nb
    have L0 : Loop H (upd (upd (upd H f (.lst [])) p (.lst [])) b (.lst [.ref p])) f b [] [p] [] [[]] := by
      refine ⟨same_upd2 (same_upd2 (same_upd nf) np0) nb0, nf, nb0, Ne.symm hbf, ?_, upd_same, trivial, Rows.one ?_, fun z => (by cases z), fun z => hpf (List.mem_singleton.mp z).symm, fun z => (by cases z), fun z => hbp (List.mem_singleton.mp z)⟩
      · rw [upd_ne (Ne.symm hbf), upd_ne (Ne.symm hpf), upd_same]
        rfl
      · rw [upd_ne (Ne.symm hbp), upd_same]
        rfl
    refine ⟨fun m σ H' => ∃ v5 v6 fs ws done pend, σ = [some (.int (ch : Int)), some (.int (n : Int)), some (.int (size : Int)), some (.ref f), some (.ref b), v5, v6] ∧ m = Lg.weight ch pend ∧ Loop H H' f b fs ws done pend ∧ Lg.Walk ch n size done pend,
      ⟨_, none, none, [], [p], [], [[]], rfl, rfl, L0, Lg.Walk.start ch n size⟩, ?_⟩
    rintro m σ H1 ⟨v5, v6, fs, ws, done, pend, rfl, rfl, L, W⟩
    -- waiting != []
    refine ⟨_, rfl, Nat.zero_le _, fun e ne => ?_⟩
    have L2 := L.later (same_upd (o := .lst []) ne)
    refine ⟨Lev.dR pend, .list [], dp_dR (sq L2.eb) L2.rb, dp_nil upd_same, shaped_dR pend, shaped_nil, _, rfl, ?_⟩
    rw [eqv_dR]
    revert L2
    generalize upd H1 e (.lst []) = H2
    intro L2
    by_cases hpe : pend = []
    · subst hpe
      refine iteF ?_
      refine ⟨_, rfl, q H2 f fs L2.same L2.ef ?_⟩
      rw [← W.fin]
      exact L2.rf
    · have he : pend.isEmpty = false := by
        cases pend with
        | nil => exact absurd rfl hpe
        | cons c0 r0 => rfl
      rw [he]
      refine iteT ?_
      obtain ⟨ws', p1, pend', c, rfl, e2, rb', ep⟩ := L2.rb.last hpe
      clear hpe he
      subst e2
      have hle : c.sum ≤ ch := W.le c (by simp)
      have hpb : p1 ≠ b := fun z => L2.bw (by rw [z]; simp)
      have hpf1 : p1 ≠ f := fun z => L2.fw (by rw [z]; simp)
      refine ⟨fun σ' H' => ∃ v5 v6 fs ws done pe, σ' = [some (.int (ch : Int)), some (.int (n : Int)), some (.int (size : Int)), some (.ref f), some (.ref b), v5, v6] ∧ Lg.weight ch pe < Lg.weight ch (pend' ++ [c]) ∧ Loop H H' f b fs ws done pe ∧ Lg.Walk ch n size done pe,
        fun σ' H' ⟨v5, v6, fs, ws, done, pe, e, lt, L, W⟩ => ⟨_, lt, v5, v6, fs, ws, done, pe, e, rfl, L, W⟩, ?_⟩
      have el : ((ws' ++ [p1]).map V.ref)[((ws' ++ [p1]).map V.ref).length - 1]? = some (.ref p1) := by simp
      have ed : ((ws' ++ [p1]).map V.ref).dropLast = ws'.map V.ref := by simp
      -- pieces = waiting.pop()
      refine ⟨_, rfl, .inl ⟨rfl, _, sq L2.eb⟩, b, _, _, rfl, rfl, L2.eb, el, ?_⟩
      rw [ed]
      have L3 := L2.setB rb' (fun z => L2.fw (List.mem_append_left _ z)) (fun z => L2.bw (List.mem_append_left _ z))
      have ep3 : upd H2 b (.lst (ws'.map V.ref)) p1 = some (.lst (vI c)) := by
        rw [upd_ne hpb]
        exact ep
      revert L3 ep3
      generalize upd H2 b (.lst (ws'.map V.ref)) = H3
      intro L3 ep3
      -- left = children - sum(pieces)
      refine ⟨_, rfl, _, rfl, p1, Lg.toI c, rfl, sq ep3, _, _, rfl, rfl, ?_⟩
      have eleft : (ch : Int) - (Lg.toI c).sum = ((ch - c.sum : Nat) : Int) := by
        rw [Lg.toI_sum]
        omega
      refine ⟨_, rfl, rfl, _, rfl, iteB (fun z => ?_) (fun z => ?_)⟩
      · -- found.append(pieces)
        have hs : c.sum = ch := by
          have z' : V.int ((ch : Int) - (Lg.toI c).sum) = V.int 0 := of_decide_eq_true z
          rw [eleft] at z'
          injection z' with z'
          omega
        have W' := W.full hs
        refine ⟨_, rfl, .inl ⟨rfl, _, sq L3.ef⟩, _, rfl, f, _, _, rfl, rfl, L3.ef, ?_, ?_⟩
        · refine line_small ?_
          have z1 := (W.small hch).1
          rw [List.length_map, L3.rf.len]
          omega
        · have L4 := L3.setF (fs2 := fs ++ [p1]) (done2 := done ++ [c]) (L3.rf.app (Rows.one ep3)) (fun z => by
              rcases List.mem_append.mp z with z | z
              · exact L3.ff z
              · exact hpf1 (List.mem_singleton.mp z).symm) (fun z => by
              rcases List.mem_append.mp z with z | z
              · exact L3.bf z
              · exact hpb (List.mem_singleton.mp z).symm)
          rw [List.map_append] at L4
          exact ⟨_, _, fs ++ [p1], ws', done ++ [c], pend', rfl, Lg.Walk.less_drop, L4, W'⟩
      · have hs : c.sum ≠ ch := by
          have z' : ¬ V.int ((ch : Int) - (Lg.toI c).sum) = V.int 0 := of_decide_eq_false z
          rw [eleft] at z'
          intro z2
          apply z'
          rw [z2, Nat.sub_self]
          rfl
        refine ⟨_, rfl, p1, vI c, rfl, .inl (sq ep3), _, rfl, _, _, rfl, rfl, _, rfl, iteB (fun y => ?_) (fun y => ?_)⟩
        · -- waiting.extend(list(reversed(longer_by_one(pieces, left, size))))
          have hl : c.length < n := by
            have y' := of_decide_eq_true y
            rw [vI_len] at y'
            omega
          have W' := W.grow hs hl
          refine ⟨_, rfl, .inl ⟨rfl, _, sq L3.eb⟩, _, rfl, _, rfl, _, rfl, p1, c, ch - c.sum, size, by show [V.ref p1, V.int ((ch : Int) - (Lg.toI c).sum), V.int (size : Int)] = _; rw [eleft], ep3, by omega, by omega, hz, fun H4 q4 ps s4 nq e4 r4 f4 d4 => ?_⟩
          refine ⟨q4, _, rfl, sq e4, fun r nr => ?_⟩
          have s5 := same_upd (o := .lst (ps.map V.ref).reverse) nr
          have L5 := L3.later (s4.trans s5)
          have hps : ∀ {x : Addr} {o : HO}, H3 x = some o → x ∉ ps := fun {x o} hx hm => by
            rw [f4 x hm] at hx
            cases hx
          refine ⟨b, r, _, _, rfl, rfl, L5.eb, upd_same, ?_, ?_⟩
          · refine line_le ?_
            have z1 := (W'.small hch).2
            rw [List.length_append, List.length_reverse] at z1
            rw [List.length_map, List.length_reverse, List.length_map, r4.len, L3.rb.len]
            omega
          · have L6 := L5.setB (ws2 := ws' ++ ps.reverse) (pend2 := pend' ++ (Lg.longer c (ch - c.sum) size).reverse) (L5.rb.app (r4.same s5).rev) (fun z => by
                rcases List.mem_append.mp z with z | z
                · exact L3.fw z
                · exact hps L3.ef (List.mem_reverse.mp z)) (fun z => by
                rcases List.mem_append.mp z with z | z
                · exact L3.bw z
                · exact hps L3.eb (List.mem_reverse.mp z))
            rw [List.map_append, List.map_reverse] at L6
            exact ⟨_, _, fs, ws' ++ ps.reverse, done, pend' ++ (Lg.longer c (ch - c.sum) size).reverse, rfl, Lg.Walk.less_grow (by omega), L6, W'⟩
        · have hl : ¬ c.length < n := by
            have y' := of_decide_eq_false y
            rw [vI_len] at y'
            omega
          exact ⟨_, _, fs, ws', done, pend', rfl, Lg.Walk.less_drop, L3, W.stop hs hl⟩
end
end Lev

namespace Lev
open PySem PySem.Spec PyProof.Rows L2
section
variable {P : Program} {w : World} {K : PySem.W.Frag} {mg : Str → Option Value} {base : Heap}
/-! ### fewest_within. Slots: row, some, most, best, pieces -/
theorem scFewest : FnScope ["row", "some", "most", "best", "pieces"] ["row", "some", "most"] (defScope sFewestWithin) := ⟨rfl, rfl, rfl, by decide +kernel, rfl, by decide +kernel, by decide +kernel⟩
def spFewest (K : PySem.W.Frag) : Sp := fun vs H Q _ => ∃ (a b : Addr) (most : Nat) (row : List Nat) (ps : List Addr) (cs : List (List Nat)), vs = [.ref a, .ref b, .int (most : Int)] ∧ SqL K H a (vI row) ∧ H b = some (.lst (ps.map V.ref)) ∧ Rows H ps cs ∧
  (∀ c ∈ cs, c.length ≤ 1000) ∧ ∀ H', Same H H' → Q (.int ((Lg.fewest row most cs : Nat) : Int)) H'
theorem min_of_ints (i j : Nat) : (if (j : Int) < (i : Int) then (j : Int) else (i : Int)) = ((min i j : Nat) : Int) := by
  by_cases q : j < i
  · rw [if_pos (by omega), Nat.min_eq_right (by omega)]
  · rw [if_neg (by omega), Nat.min_eq_left (by omega)]
theorem ok_fewest_within {f : Addr} {fd : FuncData} (F : Fun K "fewest_within" "fewest_within" sFewestWithin f fd) (B : Blt mg) (cA : Callee P w K mg base CX0 1 "greatest" ["spreads"] (spGreatest K))
    (cP : Callee P w K mg base CX0 2 "spreads_of_pieces" ["row", "pieces"] (spOfPieces K)) : FnOk P w K mg base CX0 3 f fd ["row", "some", "most"] (spFewest K) := by
  refine F.ok scFewest (fun vs H Q E h => ?_) (fun cdv A outer s H vs Q E hr h => ?_)
  · obtain ⟨a, b, most, row, ps, cs, rfl, _⟩ := h
    rfl
  · obtain ⟨a, b, most, row, ps, cs, rfl, hS, hB, hR, hc, q⟩ := h
    obtain ⟨fA, fdA, GA, mA, kA, bA⟩ := cA.ex
    obtain ⟨fP, fdP, GP, mP, kP, bP⟩ := cP.ex
    have hr1 : Room 1 _ := hr.mono (by decide)
    refine ⟨_, pss_cons (ps_set (i := 3) scFewest.nd rfl (.inl rfl) (pe_callB call_len_seq (by rfl) B.len PySem.boot_len (pa_cons (pv 0) pa_nil)))
      (pss_cons (ps_for PassesOwn.never rfl (pi_list (pv 1)) (pg_name (i := 4) scFewest.nd rfl (Or.inl rfl))
        (pss_one (ps_if (pt_cmpR op_le (pe_call GA hr1 rfl mA kA bA .nil pass0 (pa_cons (pe_call GP hr rfl mP kP bP .nil pass0 (pa_cons (pv 0) (pa_cons (pv 4) pa_nil))) pa_nil)) (pv 2) (nomark _))
          (pss_one (ps_set (i := 3) scFewest.nd rfl (.inl rfl) (pe_callB (call_min2 rfl) (by rfl) B.min (by decide +kernel) (pa_cons (pv 3) (pa_cons (pe_callB call_len_seq (by rfl) B.len PySem.boot_len (pa_cons (pv 4) pa_nil)) pa_nil))))) pss_nil)))
      (pss_one (ps_ret (pv 3)))), ?_⟩
    refine ⟨_, rfl, a, vI row, rfl, .inl hS, ?_⟩
    refine ⟨_, rfl, b, rfl, ⟨_, sq hB⟩, for_list (K := K) (a := b) (xs := ps.map V.ref)
      (fun i σ H' => ∃ v4, σ = [some (.ref a), some (.ref b), some (.int (most : Int)), some (.int ((Lg.fewest row most (cs.take i) : Nat) : Int)), v4] ∧ Same H H')
      ⟨none, by rw [vI_len]; rfl, fun _ _ e => e⟩ (fun i σ H' _ ⟨_, _, s1⟩ => s1.seq (sq hB)) ?_ ?_⟩
    · rintro i x σ H1 hx ⟨v4, rfl, s1⟩
      obtain ⟨p, hp, rfl⟩ := ref_at hx
      obtain ⟨c, hci, ep⟩ := hR.get hp
      have ep1 := s1 _ _ ep
      refine ⟨_, rfl, _, rfl, a, p, row, c, rfl, s1.seq hS, sq ep1, hc c (List.mem_of_getElem? hci), fun H2 q2 s2 nq e2 => ?_⟩
      have s12 := s1.trans s2
      have ep2 := s2 _ _ ep1
      refine ⟨q2, _, rfl, sq e2, _, rfl, _, _, rfl, rfl, _, rfl, iteB (fun z => ?_) (fun z => ?_)⟩
      · have z' := of_decide_eq_true z
        refine ⟨_, rfl, _, rfl, p, vI c, rfl, .inl (sq ep2), _, _, rfl, some (.ref p), ?_, s12⟩
        have hle : Ks438.greatest row c ≤ most := by
          rw [Lg.greatest_eq]
          omega
        rw [take_more hci, Lg.fewest_snoc]
        unfold Lg.turn
        rw [if_pos hle, vI_len, min_of_ints]
        rfl
      · have z' := of_decide_eq_false z
        refine ⟨some (.ref p), ?_, s12⟩
        have hle : ¬ Ks438.greatest row c ≤ most := by
          rw [Lg.greatest_eq]
          omega
        rw [take_more hci, Lg.fewest_snoc]
        unfold Lg.turn
        rw [if_neg hle]
        rfl
    · rintro σ H' ⟨v4, rfl, s1⟩
      have el : cs.take (ps.map V.ref).length = cs := by
        rw [List.length_map, hR.len, List.take_length]
      rw [el]
      exact ⟨_, rfl, q H' s1⟩
end
end Lev

namespace Lev
open PySem PySem.Spec PyProof.Rows L2
section
variable {P : Program} {w : World} {K : PySem.W.Frag} {mg : Str → Option Value} {base : Heap} {C : Addr}
/-- the reading of len of a list or a tuple -/
def rLen (K : PySem.W.Frag) : List V → Hp → VK → Prop := fun xs H Q => ∃ p ys, xs = [.ref p] ∧ (SqL K H p ys ∨ SqT K H p ys) ∧ Q (.int ys.length) H
/-! ### few. Slots: size, most, levels, refusal -/
theorem scFew : FnScope ["size", "most", "levels", "refusal"] ["size", "most", "levels"] (defScope sFew) := ⟨rfl, rfl, rfl, by decide +kernel, rfl, by decide +kernel, by decide +kernel⟩
def spFew (K : PySem.W.Frag) : Sp := fun vs H Q _ => ∃ (size most : Nat) (a : Addr) (l : List Nat), vs = [.int (size : Int), .int (most : Int), .ref a] ∧ SqL K H a (vI l) ∧ l.length ≤ 15 ∧
  ∀ H' p, H' p = some (.lst ((Lg.fewA size most l).map V.int)) → Q (.ref p) H'
theorem ok_few {f : Addr} {fd : FuncData} (F : Fun K "few" "few" sFew f fd) (B : Blt mg) (R : RefC K mg C)
    (c1 : Callee P w K mg base (L2.CX P w) 4 "need_levels" ["levels"] (spNeedLevels K C)) (c2 : Callee P w K mg base (L2.CX P w) 4 "need_size" ["size"] (spNeedSize C))
    (c3 : Callee P w K mg base (L2.CX P w) 4 "need_most" ["most"] (spNeedMost C)) (c4 : Callee P w K mg base CX0 2 "all_pieces" ["children", "many", "size"] spAllPieces)
    (c5 : Callee P w K mg base CX0 3 "fewest_within" ["row", "some", "most"] (spFewest K)) : FnOk P w K mg base CX0 6 f fd ["size", "most", "levels"] (spFew K) := by
  refine F.ok scFew (fun vs H Q E h => ?_) (fun cdv A outer s H vs Q E hr h => ?_)
  · obtain ⟨size, most, a, l, rfl, _⟩ := h
    rfl
  · obtain ⟨size, most, a, l, rfl, hS, hl, kQ⟩ := h
    obtain ⟨f1, fd1, G1, m1, k1, b1⟩ := c1.ex
    obtain ⟨f2, fd2, G2, m2, k2, b2⟩ := c2.ex
    obtain ⟨f3, fd3, G3, m3, k3, b3⟩ := c3.ex
    obtain ⟨f4, fd4, G4, m4, k4, b4⟩ := c4.ex
    obtain ⟨f5, fd5, G5, m5, k5, b5⟩ := c5.ex
    have hr2 : Room 2 _ := hr.mono (by decide)
    have hr3 : Room 3 _ := hr.mono (by decide)
    have hr4 : Room 4 _ := hr.mono (by decide)
    refine ⟨_, pss_one (ps_try_as (i := 3)
      (tb := fun W => tSeq (tDrop (tCallS (spNeedLevels K C) (WE W) (tCons (tVar 2) tNil))) (tSeq (tDrop (tCallS (spNeedSize C) (WE W) (tCons (tVar 0) tNil))) (tSeq (tDrop (tCallS (spNeedMost C) (WE W) (tCons (tVar 1) tNil)))
        (tRet (tLst (tCons (tCall (spFewest K) [] E0 (tCons (tCB (rSortedI K) (tCons (tVar 2) tNil)) (tCons (tCall spAllPieces [] E0
          (tCons (tCB (rLen K) (tCons (tVar 2) tNil)) (tCons (tCB (rLen K) (tCons (tVar 2) tNil)) (tCons (tVar 0) tNil)))) (tCons (tVar 1) tNil)))) tNil))))))
      (ts := fun a cls d => tRet (tLst (tCons (tXf a cls d C "number" (tVar 3)) tNil))) (Wout := fun _ _ _ _ => False) rfl rfl scFew.nd rfl rfl ⟨rfl, by decide, Or.inl R.g⟩ takes0
      (fun W pn xe tk _ => pss_cons (ps_expr (by exact (pe_callS G1 hr4 rfl m1 k1 b1 (fun σ => passAt tk σ) (by exact (pa_cons (pv 2) pa_nil)))))
        (pss_cons (ps_expr (by exact (pe_callS G2 hr4 rfl m2 k2 b2 (fun σ => passAt tk σ) (by exact (pa_cons (pv 0) pa_nil)))))
        (pss_cons (ps_expr (by exact (pe_callS G3 hr4 rfl m3 k3 b3 (fun σ => passAt tk σ) (by exact (pa_cons (pv 1) pa_nil)))))
        (pss_one (ps_ret (by exact (pe_lst (by exact (pa_cons (pe_call G5 hr3 rfl m5 k5 b5 .nil pass0 (by exact (pa_cons (pe_callB cr_sortedI (by rfl) B.sorted (by decide +kernel) (pa_cons (pv 2) pa_nil))
          (pa_cons (pe_call G4 hr2 rfl m4 k4 b4 .nil pass0 (by exact (pa_cons (pe_callB call_len_seq (by rfl) B.len PySem.boot_len (pa_cons (pv 2) pa_nil)) (pa_cons (pe_callB call_len_seq (by rfl) B.len PySem.boot_len (pa_cons (pv 2) pa_nil)) (pa_cons (pv 0) pa_nil)))))
          (pa_cons (pv 1) pa_nil))))) pa_nil)))))))))
      (fun a oe cls d pn hz hf => pss_one (ps_ret (pe_lst (pa_cons (pe_xf R.x R.no hz hf (pv 3)) pa_nil))))), ?_⟩
    have catch_ : ∀ (m : Int), Lg.fewA size most l = [m] → ∀ (d : Addr) (H' : Hp), H' d = some (.xd [(("number" : Str), .int m)]) →
        wAs K (.ref C) 3 (fun a cls d => tRet (tLst (tCons (tXf a cls d C "number" (tVar 3)) tNil))) (fun _ _ _ _ => False) { nx := fun _ H' => Q .non H', rt := Q } (.ref C) (some d) [some (.int (size : Int)), some (.int (most : Int)), some (.ref a), none] H' := fun m em d H' e => by
      refine ⟨true, R.te, fun _ a0 na => ?_, fun q => Bool.noConfusion q⟩
      refine ⟨_, rfl, rfl, rfl, d, _, _, rfl, e, rfl, (by show 1 ≤ sizeLine; decide), fun p np => kQ _ p ?_⟩
      rw [em]
      exact upd_same
    refine ⟨_, rfl, a, l, rfl, hS, by omega, fun o1 H1 s1 => ?_, fun z d H' s e => catch_ (-22) (Lg.few_no fun x => by rw [z] at x; exact Bool.false_ne_true x.1) d H' e⟩
    refine ⟨_, rfl, size, rfl, fun o2 => ?_, fun z d H' s e => catch_ (-22) (Lg.few_no fun x => by rw [z] at x; exact Bool.false_ne_true x.2.1) d H' e⟩
    refine ⟨_, rfl, most, rfl, fun o3 => ?_, fun z d H' s e => catch_ (-22) (Lg.few_no fun x => z x.2.2) d H' e⟩
    have hz := (Lg.okS_le o2).2
    have h9 := Lg.okL_len o1
    refine ⟨_, rfl, a, Lg.toI l, rfl, s1.seq hS, fun ns r hperm hpair nr => ?_⟩
    have erow := Lg.row_is hperm hpair
    subst erow
    have s2 := same_upd (o := .lst ((Lg.toI (Ks438.sorted l)).map V.int)) nr
    have hS2 := s2.seq (s1.seq hS)
    refine ⟨_, rfl, a, vI l, rfl, .inl hS2, _, rfl, a, vI l, rfl, .inl hS2, _, rfl, l.length, l.length, size, by rw [vI_len]; rfl, h9, by omega, by omega, fun H2 p ps s3 ep rp => ?_⟩
    have hlen : ∀ c ∈ Ks438.cuts size l.length l.length, c.length ≤ 1000 := fun c hc => by
      have z := ((Lg.mem_cuts size _ _ c).mp hc).2.1
      omega
    refine ⟨_, rfl, r, p, most, Ks438.sorted l, ps, _, rfl, s3.seq (sq upd_same), ep, rp, hlen, fun H3 s4 => ?_⟩
    refine ⟨(by show 1 ≤ sizeLine; decide), fun q nq => kQ _ q ?_⟩
    rw [Lg.few_yes o1 o2 o3]
    exact upd_same
end
end Lev

namespace Lev
open PySem PySem.Spec PyProof.Rows L2
open PySem.W (Codec)
theorem given_Few (K : PySem.W.Frag) (H : Hp) (xs : List V) (a : Codec.denoteAll (PySem.Challenge.rw_levelgroups_s04_few).args) (hwi : Codec.withinAll (PySem.Challenge.rw_levelgroups_s04_few).args a = true) (hx : DwAll K H xs (Codec.encAll (PySem.Challenge.rw_levelgroups_s04_few).args a)) :
    spFew K xs H (fun v H' => Dw K H' v ((PySem.Challenge.rw_levelgroups_s04_few).ret.enc (Codec.app (PySem.Challenge.rw_levelgroups_s04_few).args (PySem.Challenge.rw_levelgroups_s04_few).f a))) fun _ _ _ => False := by
  obtain ⟨n, size, levels, u⟩ := a
  obtain ⟨w1, hwi⟩ := Bool.and_eq_true_iff.mp hwi
  obtain ⟨w2, hwi⟩ := Bool.and_eq_true_iff.mp hwi
  obtain ⟨w3, _⟩ := Bool.and_eq_true_iff.mp hwi
  obtain ⟨e1, _⟩ := in_int w1 (Int.le_refl 0)
  obtain ⟨e2, _⟩ := in_int w2 (Int.le_refl 0)
  obtain ⟨e3, l3⟩ := in_list w3 (Int.le_refl 0)
  cases hx with
  | cons h1 hx =>
    cases hx with
    | cons h2 hx =>
      cases hx with
      | cons h3 hx =>
        cases hx
        cases h1
        cases h2
        cases h3 with
        | lst hs ha =>
          have q1 := L2.ints_dw levels _ ha
          subst q1
          refine ⟨n.toNat, size.toNat, _, levels.map Int.toNat, by rw [← e1, ← e2], ?_, l3, fun H' p hp => ?_⟩
          · unfold vI
            rw [← e3]
            exact hs
          · exact .lst (L2.SqL.of hp) (L2.dw_ints _)
end Lev

namespace Lev
open PySem PySem.Spec PyProof.Rows L2
/-! ### the end: what the top has written -/
theorem all_mk {P : Program} {w : World} {K : PySem.W.Frag} {h : Heap} {mg : Str → Option Value} {fa C f_init f_need f_need_levels f_need_size f_need_most f_spread_of f_spreads_of_pieces f_greatest f_longer_by_one f_all_pieces f_fewest_within f_few : Addr} (X : K.In h) (G : h.Ns mainGlobals mg) (hfa : mg "few" = some (.ref fa))
    {nm q : Str} {N : Addr} {bs : List Value} {sn : List Str} {sub : List Value} {ab : Bool} {col : Option Bool} {dd : Option Addr} {m0 m1 m2 m3 m5 : Option Value}
    {od_init an_init od_need an_need od_need_levels an_need_levels od_need_size an_need_size od_need_most an_need_most od_spread_of an_spread_of od_spreads_of_pieces an_spreads_of_pieces od_greatest an_greatest od_longer_by_one an_longer_by_one od_all_pieces an_all_pieces od_fewest_within an_fewest_within od_few an_few : Option Addr} {sl_init sl_need sl_need_levels sl_need_size sl_need_most sl_spread_of sl_spreads_of_pieces sl_greatest sl_longer_by_one sl_all_pieces sl_fewest_within sl_few : Array (Option Value)} {oc_init kV_init dc_init pm_init cd_init ct_init oc_need kV_need dc_need pm_need cd_need ct_need oc_need_levels kV_need_levels dc_need_levels pm_need_levels cd_need_levels ct_need_levels oc_need_size kV_need_size dc_need_size pm_need_size cd_need_size ct_need_size oc_need_most kV_need_most dc_need_most pm_need_most cd_need_most ct_need_most oc_spread_of kV_spread_of dc_spread_of pm_spread_of cd_spread_of ct_spread_of oc_spreads_of_pieces kV_spreads_of_pieces dc_spreads_of_pieces pm_spreads_of_pieces cd_spreads_of_pieces ct_spreads_of_pieces oc_greatest kV_greatest dc_greatest pm_greatest cd_greatest ct_greatest oc_longer_by_one kV_longer_by_one dc_longer_by_one pm_longer_by_one cd_longer_by_one ct_longer_by_one oc_all_pieces kV_all_pieces dc_all_pieces pm_all_pieces cd_all_pieces ct_all_pieces oc_fewest_within kV_fewest_within dc_fewest_within pm_fewest_within cd_fewest_within ct_fewest_within oc_few kV_few dc_few pm_few cd_few ct_few : Value} {t_WRONG t_MOST_CHILDREN t_GREATEST_LEVEL t_MOST_SIZE : Tok}
    (aC : PySem.W.nsIn K mainGlobals "Refused" = some (some (.ref C)))
    (xL : K.lookup C = some (excClassObj nm q C N bs [.type "ValueError", .type "Exception", .type "BaseException", .type "object"] true sn sub ab col dd m0 m1 m2 m3 m5 "ValueError.__new__"))
    (sa : PySem.W.findIn K (.ref C) "__setattr__" = some (some (.builtin "object.__setattr__"))) (ga : PySem.W.findIn K (.ref C) "__getattribute__" = some (some (.builtin "BaseException.__getattribute__"))) (gg : PySem.W.findIn K (.ref C) "__getattr__" = some none) (nb : PySem.W.findIn K (.ref C) "number" = some none)
    (iC : PySem.W.findIn K (.ref C) "__init__" = some (some (.ref f_init))) (tI : PySem.W.typeIn K (.ref f_init) = some (.type "function"))
    (kC : PySem.W.keepIn K (.ref C) = true) (eC : PySem.W.subIn K (.ref C) (.type "BaseException") = some true) (tC : PySem.W.typeIn K (.ref C) = some (.type "type")) (hC : PySem.W.hasDictIn K C = true) (jC : PySem.W.isClsIn K C = true) (sC : PySem.W.subIn K (.ref C) (.ref C) = some true)
    (l_init : K.lookup f_init = some ⟨oc_init, od_init, .func (PySem.W.fnOf "__init__" "Refused.__init__" (defArgs sInit) (defBody sInit) (defScope sInit) .none kV_init dc_init pm_init an_init cd_init ct_init), sl_init⟩) (d_init : PySem.W.codeIn K cd_init "Refused.__init__" = true) (k_init : PySem.W.keepIn K (.ref f_init) = true)
    (a_need : PySem.W.nsIn K mainGlobals "need" = some (some (.ref f_need))) (l_need : K.lookup f_need = some ⟨oc_need, od_need, .func (PySem.W.fnOf "need" "need" (defArgs sNeed) (defBody sNeed) (defScope sNeed) .none kV_need dc_need pm_need an_need cd_need ct_need), sl_need⟩) (d_need : PySem.W.codeIn K cd_need "need" = true) (k_need : PySem.W.keepIn K (.ref f_need) = true)
    (a_need_levels : PySem.W.nsIn K mainGlobals "need_levels" = some (some (.ref f_need_levels))) (l_need_levels : K.lookup f_need_levels = some ⟨oc_need_levels, od_need_levels, .func (PySem.W.fnOf "need_levels" "need_levels" (defArgs sNeedLevels) (defBody sNeedLevels) (defScope sNeedLevels) .none kV_need_levels dc_need_levels pm_need_levels an_need_levels cd_need_levels ct_need_levels), sl_need_levels⟩) (d_need_levels : PySem.W.codeIn K cd_need_levels "need_levels" = true) (k_need_levels : PySem.W.keepIn K (.ref f_need_levels) = true)
    (a_need_size : PySem.W.nsIn K mainGlobals "need_size" = some (some (.ref f_need_size))) (l_need_size : K.lookup f_need_size = some ⟨oc_need_size, od_need_size, .func (PySem.W.fnOf "need_size" "need_size" (defArgs sNeedSize) (defBody sNeedSize) (defScope sNeedSize) .none kV_need_size dc_need_size pm_need_size an_need_size cd_need_size ct_need_size), sl_need_size⟩) (d_need_size : PySem.W.codeIn K cd_need_size "need_size" = true) (k_need_size : PySem.W.keepIn K (.ref f_need_size) = true)
    (a_need_most : PySem.W.nsIn K mainGlobals "need_most" = some (some (.ref f_need_most))) (l_need_most : K.lookup f_need_most = some ⟨oc_need_most, od_need_most, .func (PySem.W.fnOf "need_most" "need_most" (defArgs sNeedMost) (defBody sNeedMost) (defScope sNeedMost) .none kV_need_most dc_need_most pm_need_most an_need_most cd_need_most ct_need_most), sl_need_most⟩) (d_need_most : PySem.W.codeIn K cd_need_most "need_most" = true) (k_need_most : PySem.W.keepIn K (.ref f_need_most) = true)
    (a_spread_of : PySem.W.nsIn K mainGlobals "spread_of" = some (some (.ref f_spread_of))) (l_spread_of : K.lookup f_spread_of = some ⟨oc_spread_of, od_spread_of, .func (PySem.W.fnOf "spread_of" "spread_of" (defArgs sSpreadOf) (defBody sSpreadOf) (defScope sSpreadOf) .none kV_spread_of dc_spread_of pm_spread_of an_spread_of cd_spread_of ct_spread_of), sl_spread_of⟩) (d_spread_of : PySem.W.codeIn K cd_spread_of "spread_of" = true) (k_spread_of : PySem.W.keepIn K (.ref f_spread_of) = true)
    (a_spreads_of_pieces : PySem.W.nsIn K mainGlobals "spreads_of_pieces" = some (some (.ref f_spreads_of_pieces))) (l_spreads_of_pieces : K.lookup f_spreads_of_pieces = some ⟨oc_spreads_of_pieces, od_spreads_of_pieces, .func (PySem.W.fnOf "spreads_of_pieces" "spreads_of_pieces" (defArgs sSpreadsOfPieces) (defBody sSpreadsOfPieces) (defScope sSpreadsOfPieces) .none kV_spreads_of_pieces dc_spreads_of_pieces pm_spreads_of_pieces an_spreads_of_pieces cd_spreads_of_pieces ct_spreads_of_pieces), sl_spreads_of_pieces⟩) (d_spreads_of_pieces : PySem.W.codeIn K cd_spreads_of_pieces "spreads_of_pieces" = true) (k_spreads_of_pieces : PySem.W.keepIn K (.ref f_spreads_of_pieces) = true)
    (a_greatest : PySem.W.nsIn K mainGlobals "greatest" = some (some (.ref f_greatest))) (l_greatest : K.lookup f_greatest = some ⟨oc_greatest, od_greatest, .func (PySem.W.fnOf "greatest" "greatest" (defArgs sGreatest) (defBody sGreatest) (defScope sGreatest) .none kV_greatest dc_greatest pm_greatest an_greatest cd_greatest ct_greatest), sl_greatest⟩) (d_greatest : PySem.W.codeIn K cd_greatest "greatest" = true) (k_greatest : PySem.W.keepIn K (.ref f_greatest) = true)
    (a_longer_by_one : PySem.W.nsIn K mainGlobals "longer_by_one" = some (some (.ref f_longer_by_one))) (l_longer_by_one : K.lookup f_longer_by_one = some ⟨oc_longer_by_one, od_longer_by_one, .func (PySem.W.fnOf "longer_by_one" "longer_by_one" (defArgs sLongerByOne) (defBody sLongerByOne) (defScope sLongerByOne) .none kV_longer_by_one dc_longer_by_one pm_longer_by_one an_longer_by_one cd_longer_by_one ct_longer_by_one), sl_longer_by_one⟩) (d_longer_by_one : PySem.W.codeIn K cd_longer_by_one "longer_by_one" = true) (k_longer_by_one : PySem.W.keepIn K (.ref f_longer_by_one) = true)
    (a_all_pieces : PySem.W.nsIn K mainGlobals "all_pieces" = some (some (.ref f_all_pieces))) (l_all_pieces : K.lookup f_all_pieces = some ⟨oc_all_pieces, od_all_pieces, .func (PySem.W.fnOf "all_pieces" "all_pieces" (defArgs sAllPieces) (defBody sAllPieces) (defScope sAllPieces) .none kV_all_pieces dc_all_pieces pm_all_pieces an_all_pieces cd_all_pieces ct_all_pieces), sl_all_pieces⟩) (d_all_pieces : PySem.W.codeIn K cd_all_pieces "all_pieces" = true) (k_all_pieces : PySem.W.keepIn K (.ref f_all_pieces) = true)
    (a_fewest_within : PySem.W.nsIn K mainGlobals "fewest_within" = some (some (.ref f_fewest_within))) (l_fewest_within : K.lookup f_fewest_within = some ⟨oc_fewest_within, od_fewest_within, .func (PySem.W.fnOf "fewest_within" "fewest_within" (defArgs sFewestWithin) (defBody sFewestWithin) (defScope sFewestWithin) .none kV_fewest_within dc_fewest_within pm_fewest_within an_fewest_within cd_fewest_within ct_fewest_within), sl_fewest_within⟩) (d_fewest_within : PySem.W.codeIn K cd_fewest_within "fewest_within" = true) (k_fewest_within : PySem.W.keepIn K (.ref f_fewest_within) = true)
    (a_few : PySem.W.nsIn K mainGlobals "few" = some (some (.ref f_few))) (l_few : K.lookup f_few = some ⟨oc_few, od_few, .func (PySem.W.fnOf "few" "few" (defArgs sFew) (defBody sFew) (defScope sFew) .none kV_few dc_few pm_few an_few cd_few ct_few), sl_few⟩) (d_few : PySem.W.codeIn K cd_few "few" = true) (k_few : PySem.W.keepIn K (.ref f_few) = true)
    (v_WRONG : PySem.W.nsIn K mainGlobals "WRONG" = some (some (.int (-22) t_WRONG)))
    (v_MOST_CHILDREN : PySem.W.nsIn K mainGlobals "MOST_CHILDREN" = some (some (.int (9) t_MOST_CHILDREN)))
    (v_GREATEST_LEVEL : PySem.W.nsIn K mainGlobals "GREATEST_LEVEL" = some (some (.int (1000) t_GREATEST_LEVEL)))
    (v_MOST_SIZE : PySem.W.nsIn K mainGlobals "MOST_SIZE" = some (some (.int (9) t_MOST_SIZE)))
    (z_len : PySem.W.nsIn K mainGlobals "len" = some none)
    (z_all : PySem.W.nsIn K mainGlobals "all" = some none)
    (z_range : PySem.W.nsIn K mainGlobals "range" = some none)
    (z_max : PySem.W.nsIn K mainGlobals "max" = some none)
    (z_min : PySem.W.nsIn K mainGlobals "min" = some none)
    (z_sum : PySem.W.nsIn K mainGlobals "sum" = some none)
    (z_zip : PySem.W.nsIn K mainGlobals "zip" = some none)
    (z_sorted : PySem.W.nsIn K mainGlobals "sorted" = some none)
    (z_list : PySem.W.nsIn K mainGlobals "list" = some none)
    (z_reversed : PySem.W.nsIn K mainGlobals "reversed" = some none)
    : ∃ fd : FuncData, (∀ (s : Shared) (us : List Value), us.length = (["size", "most", "levels"] : List Str).length → BindsTo s fd ⟨us, []⟩ ((["size", "most", "levels"] : List Str).zip us)) ∧ ∀ base : Heap, K.In base → base.Ns mainGlobals mg → FnOk P w K mg base CX0 6 fa fd ["size", "most", "levels"] (spFew K) := by
  have e := hfa.symm.trans (PySem.W.mg_of X G a_few)
  cases e
  have R : RefC K mg C := ⟨PySem.W.mg_of X G aC, ⟨⟨nm, q, N, bs, _, sn, sub, ab, col, dd, m0, m1, m2, m3, m5, xL, by decide +kernel⟩, sa, eC, tC, kC⟩, ⟨ga, gg, eC, hC⟩, nb, exm_self eC jC tC sC⟩
  have B : Blt mg := ⟨PySem.W.mg_none_of X G z_len, PySem.W.mg_none_of X G z_all, PySem.W.mg_none_of X G z_range, PySem.W.mg_none_of X G z_max, PySem.W.mg_none_of X G z_min, PySem.W.mg_none_of X G z_sum, PySem.W.mg_none_of X G z_zip, PySem.W.mg_none_of X G z_sorted, PySem.W.mg_none_of X G z_list, PySem.W.mg_none_of X G z_reversed⟩
  have n_WRONG : Num mg "WRONG" (-22) := ⟨_, PySem.W.mg_of X G v_WRONG⟩
  have n_MOST_CHILDREN : Num mg "MOST_CHILDREN" (9) := ⟨_, PySem.W.mg_of X G v_MOST_CHILDREN⟩
  have n_GREATEST_LEVEL : Num mg "GREATEST_LEVEL" (1000) := ⟨_, PySem.W.mg_of X G v_GREATEST_LEVEL⟩
  have n_MOST_SIZE : Num mg "MOST_SIZE" (9) := ⟨_, PySem.W.mg_of X G v_MOST_SIZE⟩
  have FI := fun_mk (st := sInit) l_init d_init k_init
  have bI := FI.binds (ps := ["self", "number"]) fun _ _ _ _ _ _ us hl => match us, hl with | [_, _], _ => rfl
  have F_need := fun_mk (st := sNeed) l_need d_need k_need
  have b_need := F_need.binds (ps := ["truth", "number"]) fun _ _ _ _ _ _ us hl => match us, hl with | [_, _], _ => rfl
  have F_need_levels := fun_mk (st := sNeedLevels) l_need_levels d_need_levels k_need_levels
  have b_need_levels := F_need_levels.binds (ps := ["levels"]) fun _ _ _ _ _ _ us hl => match us, hl with | [_], _ => rfl
  have F_need_size := fun_mk (st := sNeedSize) l_need_size d_need_size k_need_size
  have b_need_size := F_need_size.binds (ps := ["size"]) fun _ _ _ _ _ _ us hl => match us, hl with | [_], _ => rfl
  have F_need_most := fun_mk (st := sNeedMost) l_need_most d_need_most k_need_most
  have b_need_most := F_need_most.binds (ps := ["most"]) fun _ _ _ _ _ _ us hl => match us, hl with | [_], _ => rfl
  have F_spread_of := fun_mk (st := sSpreadOf) l_spread_of d_spread_of k_spread_of
  have b_spread_of := F_spread_of.binds (ps := ["levels"]) fun _ _ _ _ _ _ us hl => match us, hl with | [_], _ => rfl
  have F_spreads_of_pieces := fun_mk (st := sSpreadsOfPieces) l_spreads_of_pieces d_spreads_of_pieces k_spreads_of_pieces
  have b_spreads_of_pieces := F_spreads_of_pieces.binds (ps := ["row", "pieces"]) fun _ _ _ _ _ _ us hl => match us, hl with | [_, _], _ => rfl
  have F_greatest := fun_mk (st := sGreatest) l_greatest d_greatest k_greatest
  have b_greatest := F_greatest.binds (ps := ["spreads"]) fun _ _ _ _ _ _ us hl => match us, hl with | [_], _ => rfl
  have F_longer_by_one := fun_mk (st := sLongerByOne) l_longer_by_one d_longer_by_one k_longer_by_one
  have b_longer_by_one := F_longer_by_one.binds (ps := ["pieces", "left", "size"]) fun _ _ _ _ _ _ us hl => match us, hl with | [_, _, _], _ => rfl
  have F_all_pieces := fun_mk (st := sAllPieces) l_all_pieces d_all_pieces k_all_pieces
  have b_all_pieces := F_all_pieces.binds (ps := ["children", "many", "size"]) fun _ _ _ _ _ _ us hl => match us, hl with | [_, _, _], _ => rfl
  have F_fewest_within := fun_mk (st := sFewestWithin) l_fewest_within d_fewest_within k_fewest_within
  have b_fewest_within := F_fewest_within.binds (ps := ["row", "some", "most"]) fun _ _ _ _ _ _ us hl => match us, hl with | [_, _, _], _ => rfl
  have F_few := fun_mk (st := sFew) l_few d_few k_few
  refine ⟨PySem.W.fnOf "few" "few" (defArgs sFew) (defBody sFew) (defScope sFew) .none kV_few dc_few pm_few an_few cd_few ct_few, fun s us hu => match us, hu with | [_, _, _], _ => .of_eq rfl, fun base _ _ => ?_⟩
  have c_need := callee (P := P) (w := w) (base := base) (ok_need F_need R iC tI FI bI) (PySem.W.mg_of X G a_need) F_need b_need
  have c_need_levels := callee (P := P) (w := w) (base := base) (ok_need_levels F_need_levels B c_need n_MOST_CHILDREN n_GREATEST_LEVEL n_WRONG) (PySem.W.mg_of X G a_need_levels) F_need_levels b_need_levels
  have c_need_size := callee (P := P) (w := w) (base := base) (ok_need_size F_need_size c_need n_MOST_SIZE n_WRONG) (PySem.W.mg_of X G a_need_size) F_need_size b_need_size
  have c_need_most := callee (P := P) (w := w) (base := base) (ok_need_most F_need_most c_need n_GREATEST_LEVEL n_WRONG) (PySem.W.mg_of X G a_need_most) F_need_most b_need_most
  have c_spread_of := callee (P := P) (w := w) (base := base) (ok_spread_of F_spread_of B) (PySem.W.mg_of X G a_spread_of) F_spread_of b_spread_of
  have c_spreads_of_pieces := callee (P := P) (w := w) (base := base) (ok_spreads_of_pieces F_spreads_of_pieces c_spread_of) (PySem.W.mg_of X G a_spreads_of_pieces) F_spreads_of_pieces b_spreads_of_pieces
  have c_greatest := callee (P := P) (w := w) (base := base) (ok_greatest F_greatest B) (PySem.W.mg_of X G a_greatest) F_greatest b_greatest
  have c_longer_by_one := callee (P := P) (w := w) (base := base) (ok_longer_by_one F_longer_by_one B) (PySem.W.mg_of X G a_longer_by_one) F_longer_by_one b_longer_by_one
  have c_all_pieces := callee (P := P) (w := w) (base := base) (ok_all_pieces F_all_pieces B c_longer_by_one) (PySem.W.mg_of X G a_all_pieces) F_all_pieces b_all_pieces
  have c_fewest_within := callee (P := P) (w := w) (base := base) (ok_fewest_within F_fewest_within B c_greatest c_spreads_of_pieces) (PySem.W.mg_of X G a_fewest_within) F_fewest_within b_fewest_within
  exact ok_few F_few B R c_need_levels c_need_size c_need_most c_all_pieces c_fewest_within
end Lev

open PySem PySem.W PyProof.Rows
set_option maxRecDepth 100000 in
set_option maxHeartbeats 8000000 in
theorem PySem.Challenge.cw_levelgroups_s04_few_holds : PySem.Challenge.rw_levelgroups_s04_few.Holds := by
  w_on; k_headS; (case hw => exact ⟨[.int 0, .int 0, .list []], by decide +kernel, by decide +kernel⟩)
  k_fillS
  refine L2.walk_specK (r := PySem.Challenge.rw_levelgroups_s04_few) (k := 6) (CX := L2.CX0) (ps := ["size", "most", "levels"]) (sp := Lev.spFew) (by decide +kernel) rfl rfl ⟨rfl, by decide, by decide⟩ (fun w h Y => PySem.W.kIn_of Y) ?F ?S (fun _ _ _ _ z => z)
  case F =>
    intro w mg fa h Y KX G hmg
    refine' Lev.all_mk KX G hmg ?aC ?xL ?sa ?ga ?gg ?nb ?iC ?tI ?kC ?eC ?tC ?hC ?jC ?sC ?l_init ?d_init ?k_init ?a_need ?l_need ?d_need ?k_need ?a_need_levels ?l_need_levels ?d_need_levels ?k_need_levels ?a_need_size ?l_need_size ?d_need_size ?k_need_size ?a_need_most ?l_need_most ?d_need_most ?k_need_most ?a_spread_of ?l_spread_of ?d_spread_of ?k_spread_of ?a_spreads_of_pieces ?l_spreads_of_pieces ?d_spreads_of_pieces ?k_spreads_of_pieces ?a_greatest ?l_greatest ?d_greatest ?k_greatest ?a_longer_by_one ?l_longer_by_one ?d_longer_by_one ?k_longer_by_one ?a_all_pieces ?l_all_pieces ?d_all_pieces ?k_all_pieces ?a_fewest_within ?l_fewest_within ?d_fewest_within ?k_fewest_within ?a_few ?l_few ?d_few ?k_few ?v_WRONG ?v_MOST_CHILDREN ?v_GREATEST_LEVEL ?v_MOST_SIZE ?z_len ?z_all ?z_range ?z_max ?z_min ?z_sum ?z_zip ?z_sorted ?z_list ?z_reversed
    (case aC => k_is); (case xL => k_is); (case sa => k_is); (case ga => k_is); (case gg => k_is); (case nb => k_is); (case iC => k_is); (case tI => k_is); (case kC => k_is); (case eC => k_is); (case tC => k_is); (case hC => k_is); (case jC => k_is); (case sC => first | rfl | k_is); (case l_init => k_is); (case d_init => k_is); (case k_init => k_is)
    (case a_need => k_is); (case l_need => k_is); (case d_need => k_is); (case k_need => k_is)
    (case a_need_levels => k_is); (case l_need_levels => k_is); (case d_need_levels => k_is); (case k_need_levels => k_is)
    (case a_need_size => k_is); (case l_need_size => k_is); (case d_need_size => k_is); (case k_need_size => k_is)
    (case a_need_most => k_is); (case l_need_most => k_is); (case d_need_most => k_is); (case k_need_most => k_is)
    (case a_spread_of => k_is); (case l_spread_of => k_is); (case d_spread_of => k_is); (case k_spread_of => k_is)
    (case a_spreads_of_pieces => k_is); (case l_spreads_of_pieces => k_is); (case d_spreads_of_pieces => k_is); (case k_spreads_of_pieces => k_is)
    (case a_greatest => k_is); (case l_greatest => k_is); (case d_greatest => k_is); (case k_greatest => k_is)
    (case a_longer_by_one => k_is); (case l_longer_by_one => k_is); (case d_longer_by_one => k_is); (case k_longer_by_one => k_is)
    (case a_all_pieces => k_is); (case l_all_pieces => k_is); (case d_all_pieces => k_is); (case k_all_pieces => k_is)
    (case a_fewest_within => k_is); (case l_fewest_within => k_is); (case d_fewest_within => k_is); (case k_fewest_within => k_is)
    (case a_few => k_is); (case l_few => k_is); (case d_few => k_is); (case k_few => k_is); (case v_WRONG => k_is); (case v_MOST_CHILDREN => k_is); (case v_GREATEST_LEVEL => k_is); (case v_MOST_SIZE => k_is); (case z_len => k_is); (case z_all => k_is); (case z_range => k_is); (case z_max => k_is); (case z_min => k_is); (case z_sum => k_is); (case z_zip => k_is); (case z_sorted => k_is); (case z_list => k_is); (case z_reversed => k_is)
  case S =>
    exact fun K H xs a hO hwi hask hx => Lev.given_Few K H xs a hwi hx
#print axioms PySem.Challenge.cw_levelgroups_s04_few_holds
