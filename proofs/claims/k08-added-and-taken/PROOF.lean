import PyProof.Rows.All
import Wide.All
import OpenK.AllK
import Wide.FinOn
import HandS.ForMost
import HandS.ForExc
import HandS.IsInst
import HandS.ExcIs
import HandS.Evl
import HandS.SortKw
import HandS.SortInts
import HandS.SetFor
import HandS.Strs
import HandS.Deep
import HandS.StrMore
import HandS.Wide
import HandS.Rev
import HandS.Defaults
import KE.Datum
import HandS.RevTup
import KE.KRevIter
import KE.KDictList
import KE.DatumOrd
import HandS.Walk
import HandS.Iter
import HandS.More
import PySem.Challenge.RW_sparsesum_k08_whole_added_and_taken
set_option Elab.async false
set_option linter.all false
set_option maxRecDepth 100000
set_option maxHeartbeats 4000000

set_option linter.all false
/-! Plain mathematics: no program in sight. -/
namespace Mx
def mem0 : Nat → Int
  | 0 => 1
  | 1 => 2
  | n + 2 => mem0 n + mem0 (n + 1)
/-- the member at a place -/
@[irreducible] def mem (n : Nat) : Int := mem0 n
theorem mem_zero : mem 0 = 1 := by unfold mem; rfl
theorem mem_one : mem 1 = 2 := by unfold mem; rfl
theorem mem_01 : mem (0 + 1) = 2 := mem_one
theorem mem_two (n : Nat) : mem (n + 2) = mem n + mem (n + 1) := by unfold mem; rfl
theorem mem_pos : ∀ n, 0 < mem n ∧ 0 < mem (n + 1)
  | 0 => ⟨by rw [mem_zero]; decide, by rw [mem_one]; decide⟩
  | n + 1 => ⟨(mem_pos n).2, by
    rw [mem_two]
    have := mem_pos n
    omega⟩
theorem mem_pos1 (n : Nat) : 0 < mem n := (mem_pos n).1
theorem mem_lt1 : ∀ n, mem n < mem (n + 1)
  | 0 => by rw [mem_zero, mem_one]; decide
  | n + 1 => by
    rw [mem_two]
    have := mem_pos n
    omega
theorem mem_mono {a b : Nat} (h : a ≤ b) : mem a ≤ mem b := by
  induction h with
  | refl => exact Int.le_refl _
  | step h ih => exact Int.le_trans ih (Int.le_of_lt (mem_lt1 _))
theorem mem_lt {a b : Nat} (h : a < b) : mem a < mem b := Int.lt_of_lt_of_le (mem_lt1 a) (mem_mono h)
theorem lt_of_mem {a b : Nat} (h : mem a < mem b) : a < b := by
  apply Nat.lt_of_not_le
  intro q
  have := mem_mono q
  omega
theorem mem_pow : ∀ k, (2 : Int) ^ k ≤ mem (2 * k)
  | 0 => by rw [Nat.mul_zero, mem_zero]; decide
  | k + 1 => by
    have ih := mem_pow k
    have e : mem (2 * (k + 1)) = mem (2 * k) + mem (2 * k + 1) := mem_two (2 * k)
    have l := mem_lt1 (2 * k)
    rw [e, Int.pow_succ]
    omega
def row (n : Nat) : List Int := (List.range n).map mem
theorem row_len (n : Nat) : (row n).length = n := by unfold row; rw [List.length_map, List.length_range]
theorem row_succ (n : Nat) : row (n + 1) = row n ++ [mem n] := by unfold row; rw [List.range_succ, List.map_append]; rfl
theorem row_at {n i : Nat} (h : i < n) : (row n)[i]? = some (mem i) := by
  unfold row
  rw [List.getElem?_map, List.getElem?_range h]
  rfl
/-- the greatest, or d where there is none -/
def maxD (d : Int) : List Int → Int
  | [] => d
  | y :: ys => ys.foldl (fun a b => if a < b then b else a) y

/-! ### forms: places that fall by two or more -/
def nat (ps : List Nat) : List Int := ps.map fun p : Nat => (p : Int)
def Fm (l : List Nat) : Prop := l.Pairwise fun a b => b + 2 ≤ a
def val (l : List Nat) : Int := (l.map mem).sum
theorem val_nil : val [] = 0 := rfl
theorem val_cons (a : Nat) (r : List Nat) : val (a :: r) = mem a + val r := by
  unfold val
  rw [List.map_cons, List.sum_cons]
theorem val_app (l r : List Nat) : val (l ++ r) = val l + val r := by
  unfold val
  rw [List.map_append, List.sum_append]
theorem val_nonneg : ∀ l, 0 ≤ val l
  | [] => Int.le_refl 0
  | a :: r => by
    rw [val_cons]
    have := val_nonneg r
    have := mem_pos1 a
    omega
theorem fm_tail {a : Nat} {r : List Nat} (h : Fm (a :: r)) : Fm r := (List.pairwise_cons.mp h).2
theorem fm_lt {a : Nat} {r : List Nat} (h : Fm (a :: r)) : ∀ b ∈ r, b + 2 ≤ a := (List.pairwise_cons.mp h).1
/-- below: a form whose places are below n has a number below the member at n -/
theorem val_lt : ∀ {l : List Nat} {n : Nat}, Fm l → (∀ p ∈ l, p < n) → val l < mem n
  | [], n, _, _ => mem_pos1 n
  | a :: r, n, h, hn => by
    have ha : a < n := hn a List.mem_cons_self
    rw [val_cons]
    match a, ha, h with
    | 0, ha, h =>
      have : r = [] := by
        cases r with
        | nil => rfl
        | cons b r => exact absurd (fm_lt h b List.mem_cons_self) (by omega)
      rw [this, val_nil]
      exact Int.lt_of_lt_of_le (by rw [Int.add_zero]; exact mem_lt1 0) (mem_mono ha)
    | a + 1, ha, h =>
      have ih := val_lt (n := a) (fm_tail h) (fun p hp => by have := fm_lt h p hp; omega)
      have e : mem (a + 2) = mem a + mem (a + 1) := mem_two a
      have := mem_mono (show a + 2 ≤ n from ha)
      omega
theorem val_head_lt {a : Nat} {r : List Nat} (h : Fm (a :: r)) : val (a :: r) < mem (a + 1) := val_lt h fun p hp => by
  rcases List.mem_cons.mp hp with e | e
  · omega
  · have := fm_lt h p e
    omega
theorem val_head_le (a : Nat) (r : List Nat) : mem a ≤ val (a :: r) := by
  rw [val_cons]
  have := val_nonneg r
  omega
/-- the first unlike place tells -/
def cmp : List Nat → List Nat → Int
  | [], [] => 0
  | [], _ :: _ => -1
  | _ :: _, [] => 1
  | a :: r, b :: s => if a < b then -1 else if b < a then 1 else cmp r s
theorem cmp_cons (a b : Nat) (r s : List Nat) : cmp (a :: r) (b :: s) = if a < b then -1 else if b < a then 1 else cmp r s := by rw [cmp]
theorem cmp_lt : ∀ {l m : List Nat}, Fm l → Fm m → (cmp l m = -1 ∧ val l < val m) ∨ (cmp l m = 0 ∧ l = m) ∨ (cmp l m = 1 ∧ val m < val l)
  | [], [], _, _ => .inr (.inl ⟨rfl, rfl⟩)
  | [], b :: s, _, h => .inl ⟨rfl, by
    have := val_head_le b s
    have := mem_pos1 b
    rw [val_nil]
    omega⟩
  | a :: r, [], h, _ => .inr (.inr ⟨rfl, by
    have := val_head_le a r
    have := mem_pos1 a
    rw [val_nil]
    omega⟩)
  | a :: r, b :: s, h1, h2 => by
    unfold cmp
    by_cases h : a < b
    · rw [if_pos h]
      refine .inl ⟨rfl, ?_⟩
      have := val_head_lt h1
      have := val_head_le b s
      have := mem_mono (show a + 1 ≤ b from h)
      omega
    · rw [if_neg h]
      by_cases g : b < a
      · rw [if_pos g]
        refine .inr (.inr ⟨rfl, ?_⟩)
        have := val_head_lt h2
        have := val_head_le a r
        have := mem_mono (show b + 1 ≤ a from g)
        omega
      · rw [if_neg g]
        have e : a = b := by omega
        subst e
        rw [val_cons, val_cons]
        rcases cmp_lt (fm_tail h1) (fm_tail h2) with ⟨p, q⟩ | ⟨p, q⟩ | ⟨p, q⟩
        · exact .inl ⟨p, by omega⟩
        · exact .inr (.inl ⟨p, by rw [q]⟩)
        · exact .inr (.inr ⟨p, by omega⟩)
/-- just one form for each number -/
theorem fm_uniq {l m : List Nat} (h1 : Fm l) (h2 : Fm m) (e : val l = val m) : l = m := by
  rcases cmp_lt h1 h2 with ⟨_, q⟩ | ⟨_, q⟩ | ⟨_, q⟩
  · omega
  · exact q
  · omega

/-! ### the greatest of a list of places -/
theorem maxD_nat : ∀ (l : List Nat) (d : Int), maxD d (nat l) = d ∧ l = [] ∨ ∃ p ∈ l, maxD d (nat l) = (p : Int) ∧ ∀ q ∈ l, q ≤ p
  | [], d => .inl ⟨rfl, rfl⟩
  | y :: ys, d => by
    refine .inr ?_
    have gen : ∀ (ys : List Nat) (y : Nat), ∃ p ∈ y :: ys, (nat ys).foldl (fun a b => if a < b then b else a) (y : Int) = (p : Int) ∧ ∀ q ∈ y :: ys, q ≤ p := by
      intro ys
      induction ys with
      | nil => intro y; exact ⟨y, List.mem_singleton.mpr rfl, rfl, fun q hq => by rw [List.mem_singleton.mp hq]; exact Nat.le_refl _⟩
      | cons z zs ih =>
        intro y
        show ∃ p ∈ y :: z :: zs, (nat zs).foldl (fun a b => if a < b then b else a) (if (y : Int) < (z : Int) then (z : Int) else (y : Int)) = (p : Int) ∧ _
        by_cases h : y < z
        · rw [if_pos (by omega)]
          obtain ⟨p, hp, e, hq⟩ := ih z
          exact ⟨p, List.mem_cons_of_mem _ hp, e, fun q hq2 => by
            rcases List.mem_cons.mp hq2 with e2 | e2
            · have := hq z List.mem_cons_self
              omega
            · exact hq q e2⟩
        · rw [if_neg (by omega)]
          obtain ⟨p, hp, e, hq⟩ := ih y
          refine ⟨p, ?_, e, fun q hq2 => ?_⟩
          · rcases List.mem_cons.mp hp with e2 | e2
            · rw [e2]; exact List.mem_cons_self
            · exact List.mem_cons_of_mem _ (List.mem_cons_of_mem _ e2)
          · rcases List.mem_cons.mp hq2 with e2 | e2
            · rw [e2]; exact hq y List.mem_cons_self
            · rcases List.mem_cons.mp e2 with e3 | e3
              · have := hq y List.mem_cons_self
                omega
              · exact hq q (List.mem_cons_of_mem _ e3)
    exact gen ys y
theorem maxD_lt {l : List Nat} {d : Int} {b : Nat} (h : ∀ p ∈ l, p < b) (hd : d < b) : maxD d (nat l) < b := by
  rcases maxD_nat l d with ⟨e, _⟩ | ⟨p, hp, e, _⟩
  · rw [e]; exact hd
  · rw [e]
    have := h p hp
    omega
theorem maxD_ge {l : List Nat} {d : Int} {p : Nat} (h : p ∈ l) : (p : Int) ≤ maxD d (nat l) := by
  rcases maxD_nat l d with ⟨e, e2⟩ | ⟨q, hq, e, hm⟩
  · rw [e2] at h; cases h
  · rw [e]
    have := hm p h
    omega

/-! ### the greedy form -/
def greedy : Nat → Int → List Nat
  | 0, _ => []
  | i + 1, n => if mem i ≤ n then i :: greedy i (n - mem i) else greedy i n
theorem greedy_mem : ∀ {k : Nat} {n : Int}, 0 ≤ n → ∀ p ∈ greedy k n, mem p ≤ n ∧ p < k
  | 0, _, _, p, h => by cases h
  | i + 1, n, hn, p, h => by
    unfold greedy at h
    split at h
    · rename_i c
      rcases List.mem_cons.mp h with e | e
      · subst e
        exact ⟨c, Nat.lt_succ_self _⟩
      · have := greedy_mem (k := i) (n := n - mem i) (by omega) p e
        have := mem_pos1 i
        exact ⟨by omega, by omega⟩
    · have := greedy_mem (k := i) hn p h
      exact ⟨this.1, by omega⟩
theorem greedy_ok : ∀ {k : Nat} {n : Int}, 0 ≤ n → n < mem k → Fm (greedy k n) ∧ val (greedy k n) = n
  | 0, n, h0, h1 => ⟨List.Pairwise.nil, by
    have := mem_zero
    show (0 : Int) = n
    omega⟩
  | i + 1, n, h0, h1 => by
    unfold greedy
    split
    · rename_i c
      have small : n - mem i < mem i := by
        have : mem (i + 1) ≤ 2 * mem i := by
          cases i with
          | zero =>
            have := mem_zero
            have : mem (0 + 1) = 2 := mem_one
            omega
          | succ j =>
            have e : mem (j + 1 + 1) = mem j + mem (j + 1) := mem_two j
            have := mem_lt1 j
            omega
        omega
      obtain ⟨f, v⟩ := greedy_ok (k := i) (n := n - mem i) (by omega) small
      refine ⟨List.pairwise_cons.mpr ⟨fun p hp => ?_, f⟩, by rw [val_cons, v]; omega⟩
      have q := (greedy_mem (k := i) (n := n - mem i) (by omega) p hp).1
      have r := (greedy_mem (k := i) (n := n - mem i) (by omega) p hp).2
      cases i with
      | zero => omega
      | succ j =>
        have e : mem (j + 1 + 1) = mem j + mem (j + 1) := mem_two j
        have : p < j := lt_of_mem (by omega)
        omega
    · rename_i c
      exact greedy_ok h0 (by omega)
theorem greedy_any {j k : Nat} {n : Int} (h0 : 0 ≤ n) (hj : n < mem j) (hk : n < mem k) : greedy j n = greedy k n :=
  fm_uniq (greedy_ok h0 hj).1 (greedy_ok h0 hk).1 ((greedy_ok h0 hj).2.trans (greedy_ok h0 hk).2.symm)
theorem greedy_of {k : Nat} {l : List Nat} (h : Fm l) (hk : val l < mem k) : greedy k (val l) = l :=
  fm_uniq (greedy_ok (val_nonneg l) hk).1 h (greedy_ok (val_nonneg l) hk).2
theorem greedy_len : ∀ k n, (greedy k n).length ≤ k
  | 0, _ => Nat.le_refl 0
  | i + 1, n => by
    unfold greedy
    split
    · have := greedy_len i (n - mem i)
      rw [List.length_cons]
      omega
    · have := greedy_len i n
      omega
/-- the form of a number (below the member at 2000) -/
@[irreducible] def form (n : Int) : List Nat := greedy 2000 n
theorem form_eq {k : Nat} {n : Int} (h0 : 0 ≤ n) (hk : n < mem k) (h : n < mem 2000) : greedy k n = form n := by
  unfold form
  exact greedy_any h0 hk h

/-! ### moved: places greater by one, and the share -/
def G (x y : Int) : Prop := x * y + y * y < x * x
def L (x y : Int) : Prop := x * x < x * y + y * y
theorem step1 {N M : Int} (h1 : 1 ≤ N) (h2 : N ≤ M) (h3 : M < 2 * N) (l : L M N) (g : G (M + 1) N) : M ≤ N + M - 1 ∧ N + M - 1 < 2 * M ∧ L (N + M - 1) M ∧ G (N + M - 1 + 1) M := by
  unfold L G at *
  have e : N * M = M * N := Int.mul_comm N M
  simp only [Int.add_mul, Int.mul_add, Int.sub_mul, Int.mul_sub, Int.one_mul, Int.mul_one, e] at *
  refine ⟨?_, ?_, ?_, ?_⟩ <;> omega
theorem step2 {N M : Int} (h1 : 1 ≤ N) (h2 : N ≤ M) (h3 : M < 2 * N) (l : L M N) (g : G (M + 1) N) : N + M ≤ N + 2 * M ∧ N + 2 * M < 2 * (N + M) ∧ L (N + 2 * M) (N + M) ∧ G (N + 2 * M + 1) (N + M) := by
  unfold L G at *
  have e : N * M = M * N := Int.mul_comm N M
  have e2 : M * (2 * M) = 2 * (M * M) := Int.mul_left_comm _ _ _
  have e3 : N * (2 * M) = 2 * (M * N) := by rw [Int.mul_left_comm, e]
  simp only [Int.add_mul, Int.mul_add, Int.sub_mul, Int.mul_sub, Int.one_mul, Int.mul_one, e, e2, e3, Int.mul_assoc] at *
  refine ⟨?_, ?_, ?_, ?_⟩ <;> omega
theorem prod5 {u v y z : Int} (hu : 0 ≤ u) (hv : 0 ≤ v) (hy : 0 ≤ y) (hz : 0 ≤ z) (h1 : 5 * (y * y) < u * u) (h2 : 5 * (z * z) < v * v) : 5 * (y * z) < u * v := by
  apply Int.lt_of_not_ge
  intro c
  have c0 : 0 ≤ u * v := Int.mul_nonneg hu hv
  have n1 := Int.mul_nonneg hy hy
  have n2 := Int.mul_nonneg hz hz
  have n3 := Int.mul_nonneg hy hz
  have a := Int.mul_le_mul c c (by omega) (by omega)
  have b := Int.mul_le_mul (show 5 * (y * y) + 1 ≤ u * u from h1) (show 5 * (z * z) + 1 ≤ v * v from h2) (by omega) (by omega)
  have e1 : u * v * (u * v) = u * u * (v * v) := by ac_rfl
  have e2 : 5 * (y * z) * (5 * (y * z)) = 25 * ((y * y) * (z * z)) := by grind
  have e3 : (5 * (y * y) + 1) * (5 * (z * z) + 1) = 25 * ((y * y) * (z * z)) + 5 * (y * y) + 5 * (z * z) + 1 := by grind
  rw [e1, e2] at a
  rw [e3] at b
  omega
theorem addG {x y w z : Int} (hx : 0 ≤ x) (hy : 0 ≤ y) (hw : 0 ≤ w) (hz : 0 ≤ z) (h1 : G x y) (h2 : G w z) : G (x + w) (y + z) := by
  unfold G at *
  have p1 : y ≤ x := by
    apply Int.le_of_not_gt
    intro c
    have := Int.mul_le_mul_of_nonneg_left (show x ≤ y by omega) hx
    have := Int.mul_nonneg hy hy
    omega
  have p2 : z ≤ w := by
    apply Int.le_of_not_gt
    intro c
    have := Int.mul_le_mul_of_nonneg_left (show w ≤ z by omega) hw
    have := Int.mul_nonneg hz hz
    omega
  have k := prod5 (u := 2 * x - y) (v := 2 * w - z) (y := y) (z := z) (by omega) (by omega) hy hz (by grind) (by grind)
  grind
theorem addL {x y w z : Int} (hx : y ≤ x) (hy : 0 < y) (hw : z ≤ w) (hz : 0 < z) (h1 : L x y) (h2 : L w z) : L (x + w) (y + z) := by
  unfold L at *
  have k := prod5 (y := 2 * x - y) (z := 2 * w - z) (u := 5 * y) (v := 5 * z) (by omega) (by omega) (by omega) (by omega) (by grind) (by grind)
  grind
theorem monoG {x w y : Int} (hx : 0 ≤ x) (hy : 0 ≤ y) (h : G x y) (hw : x ≤ w) : G w y := by
  by_cases e : x = w
  · rw [← e]; exact h
  · have q := addG (w := w - x) (z := 0) hx hy (by omega) (Int.le_refl 0) h (by
      unfold G
      have := Int.mul_pos (show 0 < w - x by omega) (show 0 < w - x by omega)
      omega)
    rw [show x + (w - x) = w by omega, Int.add_zero] at q
    exact q
theorem notGL {x y : Int} (h : G x y) (l : L x y) : False := by
  unfold G at h
  unfold L at l
  omega
def up (l : List Nat) : List Nat := l.map (· + 1)
def down (l : List Nat) : List Nat := (l.filter fun p => decide (0 < p)).map (· - 1)
theorem up_cons (a : Nat) (l : List Nat) : up (a :: l) = (a + 1) :: up l := rfl
theorem up_app (l m : List Nat) : up (l ++ m) = up l ++ up m := List.map_append
theorem up_mem {l : List Nat} {p : Nat} : p ∈ up l ↔ ∃ q ∈ l, q + 1 = p := List.mem_map
theorem up_fm {l : List Nat} (h : Fm l) : Fm (up l) := List.pairwise_map.mpr (h.imp fun {a b} x => by omega)
theorem up_len (l : List Nat) : (up l).length = l.length := List.length_map ..
theorem down_up (l : List Nat) : down (up l) = l := by
  induction l with
  | nil => rfl
  | cons a l ih =>
    rw [up_cons]
    unfold down at ih ⊢
    rw [List.filter_cons, if_pos (by simp), List.map_cons, ih, Nat.add_sub_cancel]
theorem down_app (l m : List Nat) : down (l ++ m) = down l ++ down m := by unfold down; rw [List.filter_append, List.map_append]
theorem down_zero : down [0] = [] := rfl
theorem val_upup : ∀ l, val (up (up l)) = val l + val (up l)
  | [] => rfl
  | a :: l => by
    rw [up_cons, up_cons, val_cons, val_cons, val_cons, val_upup l]
    have : mem (a + 1 + 1) = mem a + mem (a + 1) := mem_two a
    omega
theorem split0 : ∀ {l : List Nat}, Fm l → (∃ m, Fm m ∧ l = up m) ∨ ∃ m, Fm m ∧ l = up (up m) ++ [0]
  | [], _ => .inl ⟨[], List.Pairwise.nil, rfl⟩
  | a :: r, h => by
    have f := fm_lt h
    rcases split0 (fm_tail h) with ⟨m, hm, rfl⟩ | ⟨m, hm, rfl⟩
    · cases a with
      | zero =>
        have : m = [] := by
          cases m with
          | nil => rfl
          | cons b m => exact absurd (f (b + 1) List.mem_cons_self) (by omega)
        subst this
        exact .inr ⟨[], List.Pairwise.nil, rfl⟩
      | succ a => exact .inl ⟨a :: m, List.pairwise_cons.mpr ⟨fun b hb => by
          have := f (b + 1) (up_mem.mpr ⟨b, hb, rfl⟩)
          omega, hm⟩, rfl⟩
    · have a2 : 0 + 2 ≤ a := f 0 (by simp)
      refine .inr ⟨(a - 2) :: m, List.pairwise_cons.mpr ⟨fun b hb => ?_, hm⟩, ?_⟩
      · have := f (b + 1 + 1) (List.mem_append_left _ (up_mem.mpr ⟨b + 1, up_mem.mpr ⟨b, hb, rfl⟩, rfl⟩))
        omega
      · rw [up_cons, up_cons, show a - 2 + 1 + 1 = a by omega]
        rfl
def Sh (l : List Nat) : Prop := val l + 1 ≤ val (up l) + 1 ∧ val (up l) + 1 < 2 * (val l + 1) ∧ L (val (up l) + 1) (val l + 1) ∧ G (val (up l) + 1 + 1) (val l + 1)
theorem shares : ∀ (k : Nat) {l : List Nat}, Fm l → (∀ p ∈ l, p < k) → Sh l
  | 0, l, _, hk => by
    have : l = [] := by
      cases l with
      | nil => rfl
      | cons b m => exact absurd (hk b List.mem_cons_self) (by omega)
    subst this
    exact ⟨by decide, by decide, by show (1 : Int) < 2; decide, by show (3 : Int) < 4; decide⟩
  | k + 1, l, h, hk => by
    rcases split0 h with ⟨m, hm, rfl⟩ | ⟨m, hm, rfl⟩
    · obtain ⟨a, b, c, d⟩ := shares k hm fun p hp => by
        have := hk (p + 1) (up_mem.mpr ⟨p, hp, rfl⟩)
        omega
      have q := step1 (by have := val_nonneg m; omega) a b c d
      unfold Sh
      rw [val_upup, show val m + val (up m) + 1 = val m + 1 + (val (up m) + 1) - 1 by omega]
      exact q
    · obtain ⟨a, b, c, d⟩ := shares k hm fun p hp => by
        have := hk (p + 1 + 1) (List.mem_append_left _ (up_mem.mpr ⟨p + 1, up_mem.mpr ⟨p, hp, rfl⟩, rfl⟩))
        omega
      have q := step2 (by have := val_nonneg m; omega) a b c d
      have e1 : val (up (up m) ++ [0]) + 1 = val m + 1 + (val (up m) + 1) := by
        rw [val_app, val_upup, val_cons, val_nil, mem_zero]
        omega
      have e2 : val (up (up (up m) ++ [0])) + 1 = val m + 1 + 2 * (val (up m) + 1) := by
        rw [up_app, val_app, val_upup, val_upup, up_cons, val_cons, mem_01]
        show _ + (2 + 0) + 1 = _
        omega
      unfold Sh
      rw [e1, e2]
      exact q
def maxP (l : List Nat) : Nat := l.foldr (fun a b => a + 1 + b) 0
theorem maxP_lt : ∀ l, ∀ p ∈ l, p < maxP l
  | a :: l, p, hp => by
    show p < a + 1 + maxP l
    rcases List.mem_cons.mp hp with e | e
    · omega
    · have := maxP_lt l p e
      omega
theorem share {l : List Nat} (h : Fm l) : Sh l := shares (maxP l) h (maxP_lt l)
/-- the sum of two numbers moves up to the sum of both moved up, or one more or one less -/
theorem rest1 {l m b : List Nat} (hl : Fm l) (hm : Fm m) (hb : Fm b) (e : val b = val l + val m) : -1 ≤ val (up b) - val (up l) - val (up m) ∧ val (up b) - val (up l) - val (up m) ≤ 1 := by
  obtain ⟨a1, b1, l1, g1⟩ := share hl
  obtain ⟨a2, b2, l2, g2⟩ := share hm
  obtain ⟨a3, b3, l3, g3⟩ := share hb
  have n1 := val_nonneg l
  have n2 := val_nonneg m
  have n3 := val_nonneg b
  constructor
  · apply Int.le_of_not_gt
    intro c
    have q := addG (by omega) (by omega) (by omega) (by omega) g3 (show G 2 1 by show (3 : Int) < 4; decide)
    have r := addL (by omega) (by omega) (by omega) (by omega) l1 l2
    have q2 := monoG (w := val (up l) + 1 + (val (up m) + 1)) (by omega) (by omega) q (by omega)
    rw [show val b + 1 + 1 = val l + 1 + (val m + 1) by omega] at q2
    exact notGL q2 r
  · apply Int.le_of_not_gt
    intro c
    have q := addL (by omega) (by omega) (by omega) (by omega) l3 (show L 1 1 by show (1 : Int) < 2; decide)
    have r := addG (by omega) (by omega) (by omega) (by omega) g1 g2
    have r2 := monoG (w := val (up b) + 1 + 1) (by omega) (by omega) r (by omega)
    rw [show val l + 1 + (val m + 1) = val b + 1 + 1 by omega] at r2
    exact notGL r2 q
theorem up_fm' {l : List Nat} (h : Fm (up l)) : Fm l := by
  have := List.pairwise_map.mp h
  exact this.imp fun {a b} x => by omega
theorem down_fm {l : List Nat} (h : Fm l) : Fm (down l) := by
  rcases split0 h with ⟨m, hm, rfl⟩ | ⟨m, hm, rfl⟩
  · rw [down_up]; exact hm
  · rw [down_app, down_up, down_zero, List.append_nil]; exact up_fm hm
theorem downs {l b : List Nat} (hl : Fm l) (hb : Fm b) (e : val b = val (down l) + 1) : val (up (down l)) ≤ val l ∧ val l < val (up b) := by
  obtain ⟨a3, b3, l3, g3⟩ := share hb
  have n3 := val_nonneg b
  rcases split0 hl with ⟨m, hm, rfl⟩ | ⟨m, hm, rfl⟩
  · rw [down_up] at e ⊢
    obtain ⟨a1, b1, l1, g1⟩ := share hm
    have n1 := val_nonneg m
    refine ⟨Int.le_refl _, ?_⟩
    apply Int.lt_of_not_ge
    intro c
    have q := monoG (w := val (up m) + 1 + 1) (by omega) (by omega) g3 (by omega)
    rw [e] at q
    generalize val (up m) + 1 = M at *
    generalize val m + 1 = N at *
    unfold G L at *
    grind
  · rw [down_app, down_up, down_zero, List.append_nil] at e ⊢
    obtain ⟨a1, b1, l1, g1⟩ := share hm
    have n1 := val_nonneg m
    rw [val_app, val_cons, val_nil, mem_zero]
    refine ⟨by omega, ?_⟩
    apply Int.lt_of_not_ge
    intro c
    rw [val_upup] at c
    have q := monoG (w := val m + 1 + (val (up m) + 1) + 1) (by omega) (by omega) g3 (by omega)
    rw [e] at q
    generalize val (up m) + 1 = M at *
    generalize val m + 1 = N at *
    unfold G L at *
    grind
theorem mem_two_pow : ∀ n, mem n < 2 ^ (n + 1)
  | 0 => by rw [mem_zero]; decide
  | 1 => by rw [mem_one]; decide
  | n + 2 => by
    have a := mem_two_pow n
    have b := mem_two_pow (n + 1)
    have := mem_pos1 n
    rw [mem_two]
    rw [Int.pow_succ] at b
    rw [Int.pow_succ, Int.pow_succ]
    omega
theorem up_lt {l : List Nat} {n : Nat} (h : ∀ p ∈ l, p < n) : ∀ p ∈ up l, p < n + 1 := fun p hp => by
  obtain ⟨q, hq, rfl⟩ := up_mem.mp hp
  have := h q hq
  omega
theorem down_lt {l : List Nat} {n : Nat} (h : ∀ p ∈ l, p < n) : ∀ p ∈ down l, p < n := fun p hp => by
  obtain ⟨q, hq, rfl⟩ := List.mem_map.mp hp
  have := h q (List.mem_filter.mp hq).1
  omega
theorem down_len (l : List Nat) : (down l).length ≤ l.length := by
  unfold down
  rw [List.length_map]
  exact List.length_filter_le _ _
end Mx

set_option Elab.async false
set_option linter.all false
set_option maxRecDepth 100000
/-! Rules and lemmas of our own over the layer: they speak of no program. -/
namespace L2
open PySem
theorem Room.units65 {k : Nat} {A : Around} (r : Room k A) : A.units + 65 < cLine := by have := r.un; omega
end L2
namespace Z
open PySem PySem.Spec PyProof.Rows L2 Evl

/-! ### isinstance of the error that a suite holds -/
def rIsX (K : PySem.W.Frag) (cls : Value) (d : Option Addr) (a : Addr) : List V → Hp → VK → Prop := fun xs H Q =>
  ∃ (D : Addr) (c : V) (cv : Value) (b : Bool), cls = .ref D ∧ d = none ∧ ExcC K D ∧ xs = [.ref a, c] ∧ (∀ u, RelV c u → u = cv) ∧ PySem.W.kitOne K (.ref D) cv = some b ∧ Q (.bl b) H
theorem call_isX {X : Cx} {a : Addr} {oe : Obj} {cls : Value} {d : Option Addr} {pn : List (Addr × Obj)} (hz : Zc cls d oe) (hf : ∃ vs, oe.data = .fields vs) :
    CallR (X.suite a ((a, oe) :: pn)) (.builtin "isinstance") (rIsX X.K cls d a) := by
  intro pins s σ H xs us Q I r h
  obtain ⟨D, c, cv, b, rfl, rfl, hC, rfl, hcv, hk, q⟩ := h
  exact call_isE hC hz hf pins s σ H _ us Q I r ⟨c, cv, b, rfl, hcv, hk, q⟩
theorem ev_isX {K : PySem.W.Frag} {σ : L2.St} {H : Hp} {ta tb : TE} {D a : Addr} {c : V} {cv : Value} {b : Bool} (ha : Ev ta σ H (.ref a)) (hb : Ev tb σ H c) (hC : ExcC K D) (hcv : ∀ u, RelV c u → u = cv)
    (hk : PySem.W.kitOne K (.ref D) cv = some b) : Ev (tCB (rIsX K (.ref D) none a) (tCons ta (tCons tb tNil))) σ H (.bl b) := fun H1 e Q q =>
  ha H1 e _ fun H2 e2 => hb H2 (e.trans e2) _ fun H3 e3 => ⟨D, c, cv, b, rfl, rfl, hC, rfl, hcv, hk, q H3 (e2.trans e3)⟩
theorem rel_ref {C : Addr} : ∀ u, RelV (.ref C) u → u = .ref C := fun _ h => h
theorem rel_ty {n : String} : ∀ u, RelV (.ty n) u → u = .type n := fun _ h => h

theorem kit_own {K : PySem.W.Frag} {C D : Addr} {b : Bool} (hd : PySem.W.hasDictIn K D = true) (ht : PySem.W.typeIn K (.ref D) = some (.type "type")) (hs : PySem.W.subIn K (.ref C) (.ref D) = some b) (hne : b = true ∨ C ≠ D) :
    PySem.W.kitOne K (.ref C) (.ref D) = some b := by
  unfold PySem.W.kitOne
  by_cases e : C = D
  · subst e
    rcases hne with h | h
    · subst h
      rw [if_pos (by simp)]
    · exact absurd rfl h
  · rw [if_neg (by simpa using e)]
    obtain ⟨cd, hc, _⟩ := PySem.W.any_some hd
    unfold PySem.W.kitCls
    dsimp only
    rw [if_pos (by rw [hc, ht]; rfl)]
    exact hs
theorem kit_val {K : PySem.W.Frag} {C : Addr} (hs : PySem.W.subIn K (.ref C) (.type "ValueError") = some true) : PySem.W.kitOne K (.ref C) (.type "ValueError") = some true := by
  unfold PySem.W.kitOne
  rw [if_neg (by simp)]
  unfold PySem.W.kitCls
  dsimp only
  rw [if_pos (by decide +kernel)]
  exact hs

/-! ### types of values: what isinstance asks -/
def Ty (K : PySem.W.Frag) (H : Hp) (x : V) (n : String) : Prop := TyOf K H x (.type n)
theorem Ty.mono {K : PySem.W.Frag} {H H' : Hp} {x : V} {n : String} (e : Ex H H') (h : Ty K H x n) : Ty K H' x n := by
  unfold Ty at h ⊢
  generalize e' : Value.type n = t at h
  cases h with
  | ins => cases e'
  | non => exact .non
  | bl x => exact .bl x
  | int i => exact .int i
  | str x => exact .str x
  | flt x => exact .flt x
  | lst h => exact .lst (e _ _ h)
  | frz h => exact .frz (e _ _ h)
  | tup h => exact .tup (e _ _ h)
  | dK h => exact .dK (e _ _ h)
  | dT h => exact .dT (e _ _ h)
theorem ev_isi {K : PySem.W.Frag} {σ : L2.St} {H : Hp} {ta : TE} {x : V} {n m : String} {b : Bool} (ha : Ev ta σ H x) (ty : Ty K H x n) (hk : kitB n m = some b) :
    Ev (tCB (rIsi K) (tCons ta (tCons (tC (.ty m)) tNil))) σ H (.bl b) := fun H1 e Q q =>
  ha H1 e _ fun H2 e2 => ⟨x, .ty m, .type n, .type m, b, rfl, .ty m, .base (ty.mono (e.trans e2)), kit_ty hk, q H2 e2⟩
/-- one of the seven kinds of things that are handed about here -/
def Seven (n : String) : Prop := n = "int" ∨ n = "bool" ∨ n = "NoneType" ∨ n = "str" ∨ n = "list" ∨ n = "tuple" ∨ n = "dict"
def isIntV : V → Bool
  | .int _ => true
  | _ => false
def wholeV : V → Bool
  | .int i => decide (0 ≤ i)
  | _ => false
theorem ty_int {K : PySem.W.Frag} {H : Hp} {x : V} (h : Ty K H x "int") : ∃ i, x = .int i := by
  unfold Ty at h
  generalize e : Value.type "int" = t at h
  cases h with
  | int i => exact ⟨i, rfl⟩
  | ins => cases e
  | _ => exact absurd (Value.type.inj e) (by decide)
theorem ty_ref {K : PySem.W.Frag} {H : Hp} {x : V} {n : String} (h : Ty K H x n) (hn : n ≠ "int") : isIntV x = false ∧ wholeV x = false := by
  unfold Ty at h
  generalize e : Value.type n = t at h
  cases h with
  | int i => exact absurd (Value.type.inj e) hn
  | ins => cases e
  | _ => exact ⟨rfl, rfl⟩
/-- a value of a known kind -/
def Kn (K : PySem.W.Frag) (H : Hp) (x : V) : Prop := ∃ n, Seven n ∧ Ty K H x n
theorem Kn.mono {K : PySem.W.Frag} {H H' : Hp} {x : V} (e : Ex H H') (h : Kn K H x) : Kn K H' x := by
  obtain ⟨n, s, t⟩ := h
  exact ⟨n, s, t.mono e⟩
theorem kn_int {K : PySem.W.Frag} {H : Hp} {i : Int} : Kn K H (.int i) := ⟨"int", .inl rfl, .int i⟩
theorem kn_bl {K : PySem.W.Frag} {H : Hp} {b : Bool} : Kn K H (.bl b) := ⟨"bool", .inr (.inl rfl), .bl b⟩
theorem kn_non {K : PySem.W.Frag} {H : Hp} : Kn K H .non := ⟨"NoneType", .inr (.inr (.inl rfl)), .non⟩
theorem kn_str {K : PySem.W.Frag} {H : Hp} {s : Str} : Kn K H (.str s) := ⟨"str", .inr (.inr (.inr (.inl rfl))), .str s⟩
theorem kn_lst {K : PySem.W.Frag} {H : Hp} {a : Addr} {xs : List V} (h : H a = some (.lst xs)) : Kn K H (.ref a) := ⟨"list", .inr (.inr (.inr (.inr (.inl rfl)))), .lst h⟩
theorem kn_tup {K : PySem.W.Frag} {H : Hp} {a : Addr} {xs : List V} (h : H a = some (.tup xs)) : Kn K H (.ref a) := ⟨"tuple", .inr (.inr (.inr (.inr (.inr (.inl rfl))))), .tup h⟩
theorem kn_dK {K : PySem.W.Frag} {H : Hp} {a : Addr} {xs : List (Key × V)} (h : H a = some (.dK xs)) : Kn K H (.ref a) := ⟨"dict", .inr (.inr (.inr (.inr (.inr (.inr rfl))))), .dK h⟩

/-! ### typed data on the abstract heap -/
open PySem.W (Datum)
class Dt (α : Type) [DecidableEq α] extends Datum α where
  lay : ∀ a : α, (toD a).canLay0 = true
instance : Dt Int where
  lay _ := rfl
instance : Dt Bool where
  lay _ := rfl
theorem layAll {α : Type} [DecidableEq α] [Dt α] : ∀ xs : List α, PyData.canLayAll0 (xs.map Datum.toD) = true
  | [] => rfl
  | x :: xs => by
    rw [List.map_cons, PyData.canLayAll0, Dt.lay x, layAll xs]
    rfl
instance {α : Type} [DecidableEq α] [Dt α] : Dt (List α) where
  lay xs := by
    show (PyData.list (xs.map Datum.toD)).canLay0 = true
    rw [PyData.canLay0]
    exact layAll xs
instance {α β : Type} [DecidableEq α] [Dt α] [DecidableEq β] [Dt β] : Dt (α × β) where
  lay p := by
    show (PyData.tuple [Datum.toD p.1, Datum.toD p.2]).canLay0 = true
    rw [PyData.canLay0, PyData.canLayAll0, PyData.canLayAll0, PyData.canLayAll0, Dt.lay p.1, Dt.lay p.2]
    rfl
theorem shaped_of {α : Type} [DecidableEq α] [Dt α] (hd : Datum.depth α ≤ 64) (a : α) : SeqAt.shaped (Datum.toD a) = true := by
  unfold SeqAt.shaped
  rw [Dt.lay a, decide_eq_true (Nat.le_trans (Datum.depth_le a) hd)]
  rfl
mutual
theorem Dp.ex {K : PySem.W.Frag} {H H' : Hp} (e : Ex H H') : ∀ {v : V} {d : PyData}, Dp K H v d → Dp K H' v d
  | _, _, .non => .non
  | _, _, .bl b => .bl b
  | _, _, .int i => .int i
  | _, _, .str x => .str x
  | _, _, .lst h a => .lst (ex_l e h) (DpAll.ex e a)
  | _, _, .tup h a => .tup (ex_t e h) (DpAll.ex e a)
theorem DpAll.ex {K : PySem.W.Frag} {H H' : Hp} (e : Ex H H') : ∀ {vs : List V} {ds : List PyData}, DpAll K H vs ds → DpAll K H' vs ds
  | _, _, .nil => .nil
  | _, _, .cons a b => .cons (Dp.ex e a) (DpAll.ex e b)
end
/-- v holds x -/
def Hd {α : Type} [DecidableEq α] [Dt α] (K : PySem.W.Frag) (H : Hp) (v : V) (x : α) : Prop := Dp K H v (Datum.toD x)
def HdAll {α : Type} [DecidableEq α] [Dt α] (K : PySem.W.Frag) (H : Hp) (vs : List V) (xs : List α) : Prop := DpAll K H vs (xs.map Datum.toD)
section
variable {α β : Type} [DecidableEq α] [Dt α] [DecidableEq β] [Dt β] {K : PySem.W.Frag} {H H' : Hp} {σ : L2.St} {ta tb : TE} {v u : V}
theorem Hd.ex {x : α} (e : Ex H H') (h : Hd K H v x) : Hd K H' v x := Dp.ex e h
theorem HdAll.ex {vs : List V} {xs : List α} (e : Ex H H') (h : HdAll K H vs xs) : HdAll K H' vs xs := DpAll.ex e h
theorem hd_int {i : Int} : Hd K H (.int i) i := Dp.int i
theorem hd_bl {b : Bool} : Hd K H (.bl b) b := Dp.bl b
theorem hd_lst {a : Addr} {vs : List V} {xs : List α} (h : SqL K H a vs) (hx : HdAll K H vs xs) : Hd K H (.ref a) xs := Dp.lst h hx
theorem hd_pair {a : Addr} {x y : V} {p : α × β} (h : SqT K H a [x, y]) (h1 : Hd K H x p.1) (h2 : Hd K H y p.2) : Hd K H (.ref a) p := Dp.tup h (.cons h1 (.cons h2 .nil))
theorem hdAll_nil : HdAll K H [] ([] : List α) := DpAll.nil
theorem hdAll_cons {x : α} {vs : List V} {xs : List α} (h : Hd K H v x) (hs : HdAll K H vs xs) : HdAll K H (v :: vs) (x :: xs) := DpAll.cons h hs
theorem hdAll_app {vs us : List V} {xs ys : List α} (h : HdAll K H vs xs) (hs : HdAll K H us ys) : HdAll K H (vs ++ us) (xs ++ ys) := by
  induction xs generalizing vs with
  | nil => cases h; exact hs
  | cons x xs ih => cases h with
    | cons a b => exact hdAll_cons a (ih b)
theorem hdAll_ints : ∀ ns : List Int, HdAll K H (ns.map V.int) ns
  | [] => .nil
  | n :: ns => .cons (.int n) (hdAll_ints ns)
theorem hdAll_bls : ∀ bs : List Bool, HdAll K H (bs.map V.bl) bs
  | [] => .nil
  | b :: bs => .cons (.bl b) (hdAll_bls bs)
theorem hdAll_of_ints : ∀ {vs : List V} {ns : List Int}, HdAll K H vs ns → vs = ns.map V.int
  | _, [], h => by cases h; rfl
  | _, n :: ns, h => by
    cases h with
    | cons a b =>
      cases a
      rw [hdAll_of_ints b]
      rfl
theorem hd_ints {a : Addr} {ns : List Int} (h : SqL K H a (ns.map V.int)) : Hd K H (.ref a) ns := hd_lst h (hdAll_ints ns)
theorem hd_lst_inv {xs : List α} (h : Hd K H v xs) : ∃ a vs, v = .ref a ∧ SqL K H a vs ∧ HdAll K H vs xs := by
  unfold Hd at h
  generalize e : (Datum.toD xs) = d at h
  cases h with
  | lst h1 h2 =>
    have e2 := PyData.list.inj e
    subst e2
    exact ⟨_, _, rfl, h1, h2⟩
  | _ => cases e
theorem hd_ints_inv {ns : List Int} (h : Hd K H v ns) : ∃ a, v = .ref a ∧ SqL K H a (ns.map V.int) := by
  obtain ⟨a, vs, rfl, h1, h2⟩ := hd_lst_inv h
  rw [hdAll_of_ints h2] at h1
  exact ⟨a, rfl, h1⟩
theorem hd_pair_inv {p : α × β} (h : Hd K H v p) : ∃ a x y, v = .ref a ∧ SqT K H a [x, y] ∧ Hd K H x p.1 ∧ Hd K H y p.2 := by
  unfold Hd at h
  generalize e : (Datum.toD p) = d at h
  cases h with
  | tup h1 h2 =>
    have e2 := PyData.tuple.inj e
    subst e2
    cases h2 with
    | cons g1 g2 => cases g2 with
      | cons g3 g4 => cases g4; exact ⟨_, _, _, rfl, h1, g1, g3⟩
  | _ => cases e
theorem hdAll_len {vs : List V} {xs : List α} (h : HdAll K H vs xs) : vs.length = xs.length := by
  induction xs generalizing vs with
  | nil => cases h; rfl
  | cons x xs ih => cases h with
    | cons a b => rw [List.length_cons, List.length_cons, ih b]
theorem hdAll_at {vs : List V} {xs : List α} (h : HdAll K H vs xs) {i : Nat} {x : α} (e : xs[i]? = some x) : ∃ v, vs[i]? = some v ∧ Hd K H v x := by
  induction xs generalizing vs i with
  | nil => simp at e
  | cons y ys ih => cases h with
    | cons a b =>
      cases i with
      | zero =>
        simp at e
        subst e
        exact ⟨_, rfl, a⟩
      | succ i => exact ih b (by simpa using e)
/-- an expression that gives something that holds x -/
def EvH (K : PySem.W.Frag) (te : TE) (σ : L2.St) (H : Hp) (x : α) : Prop := ∀ H1, Ex H H1 → ∀ Q : VK, (∀ v H2, Ex H1 H2 → Hd K H2 v x → Q v H2) → te σ H1 Q
theorem evh_v {x : α} {te : TE} (h : Ev te σ H v) (hv : Hd K H v x) : EvH K te σ H x := fun H1 e Q q => h H1 e Q fun H2 e2 => q v H2 e2 (hv.ex (e.trans e2))
theorem evh_L {vs : List V} {xs : List α} {te : TE} (h : EvL te σ H vs) (hv : HdAll K H vs xs) : EvH K te σ H xs := fun H1 e Q q => h H1 e Q fun p H2 _ e2 hp => q _ H2 e2 (hd_lst (.of hp) (hv.ex (e.trans e2)))
theorem evh_ints {ns : List Int} {te : TE} (h : EvL te σ H (ns.map V.int)) : EvH K te σ H ns := evh_L h (hdAll_ints ns)
theorem evh_eq {x y : α} {te : TE} (h : EvH K te σ H x) (e : x = y) : EvH K te σ H y := e ▸ h
theorem EvH.mono {x : α} {te : TE} (e : Ex H H') (h : EvH K te σ H x) : EvH K te σ H' x := fun H1 a Q q => h H1 (e.trans a) Q q
theorem ev_eqH {x y : α} (ha : EvH K ta σ H x) (hb : EvH K tb σ H y) (hd : Datum.depth α ≤ 64) : Ev (tOp (rEqD K) ta tb) σ H (.bl (decide (x = y))) := fun H1 e Q q =>
  ha H1 e _ fun v H2 e2 hv => hb H2 (e.trans e2) _ fun u H3 e3 hu => ⟨_, _, hv.ex e3, hu, shaped_of hd x, shaped_of hd y, by rw [Datum.eqv]; exact q H3 (e2.trans e3)⟩
theorem ev_neH {x y : α} (ha : EvH K ta σ H x) (hb : EvH K tb σ H y) (hd : Datum.depth α ≤ 64) : Ev (tOp (rNeD K) ta tb) σ H (.bl (!decide (x = y))) := fun H1 e Q q =>
  ha H1 e _ fun v H2 e2 hv => hb H2 (e.trans e2) _ fun u H3 e3 hu => ⟨_, _, hv.ex e3, hu, shaped_of hd x, shaped_of hd y, by rw [Datum.eqv]; exact q H3 (e2.trans e3)⟩
end
/-- a promise's way back with something that holds x -/
def RetH {α : Type} [DecidableEq α] [Dt α] (K : PySem.W.Frag) (x : α) (H : Hp) (Q : VK) : Prop := ∀ v H2, Ex H H2 → Hd K H2 v x → Q v H2

/-! ### lists put together -/
section
variable {H : Hp} {σ : L2.St} {ta tb : TE}
theorem el_cat {l : Addr} {xs ys : List V} (ha : Ev ta σ H (.ref l)) (hl : H l = some (.lst xs)) (hb : EvL tb σ H ys) (hz : xs.length + ys.length ≤ 100000) : EvL (tOp rCat ta tb) σ H (xs ++ ys) := fun H1 e Q q =>
  ha H1 e _ fun H2 e2 => hb H2 (e.trans e2) _ fun p H3 _ e3 h3 => ⟨l, p, xs, ys, rfl, rfl, e3 _ _ (e2 _ _ (e _ _ hl)), h3, sz_of hz, fun r hr => q r _ (fresh_back (e2.trans e3) hr) ((e2.trans e3).trans (Ex.new hr)) upd_same⟩
theorem el_catV {l m : Addr} {xs ys : List V} (ha : Ev ta σ H (.ref l)) (hl : H l = some (.lst xs)) (hb : Ev tb σ H (.ref m)) (hm : H m = some (.lst ys)) (hz : xs.length + ys.length ≤ 100000) : EvL (tOp rCat ta tb) σ H (xs ++ ys) := fun H1 e Q q =>
  ha H1 e _ fun H2 e2 => hb H2 (e.trans e2) _ fun H3 e3 => ⟨l, m, xs, ys, rfl, rfl, e3 _ _ (e2 _ _ (e _ _ hl)), e3 _ _ (e2 _ _ (e _ _ hm)), sz_of hz, fun r hr => q r _ (fresh_back (e2.trans e3) hr) ((e2.trans e3).trans (Ex.new hr)) upd_same⟩
theorem el_catLL {xs ys : List V} (ha : EvL ta σ H xs) (hb : EvL tb σ H ys) (hz : xs.length + ys.length ≤ 100000) : EvL (tOp rCat ta tb) σ H (xs ++ ys) := fun H1 e Q q =>
  ha H1 e _ fun l H2 _ e2 hl => hb H2 (e.trans e2) _ fun p H3 _ e3 h3 => ⟨l, p, xs, ys, rfl, rfl, e3 _ _ hl, h3, sz_of hz, fun r hr => q r _ (fresh_back (e2.trans e3) hr) ((e2.trans e3).trans (Ex.new hr)) upd_same⟩
end

/-! ### small steps -/
theorem hd_blsL {K : PySem.W.Frag} {H : Hp} {a : Addr} {bs : List Bool} (h : H a = some (.lst (bs.map V.bl))) : Hd K H (.ref a) bs := hd_lst (.of h) (hdAll_bls bs)
theorem ev_last {te : TE} {σ : L2.St} {H : Hp} {b : Bool} (h : Ev te σ H (.bl b)) (e : b = true) : Ev te σ H (.bl true) := e ▸ h
theorem ints_at {ns : List Int} {i : Nat} {z : Int} (h : ns[i]? = some z) : (ns.map V.int)[i]? = some (.int z) := by
  rw [List.getElem?_map, h]
  rfl
theorem ex_to {H H' : Hp} {a : Addr} {o : HO} (e : Ex H H') (h : H a = some o) : H' a = some o := e a o h
theorem cpow {i j : Int} (h1 : 0 ≤ j) (h2 : j ≤ 1000000) (h3 : i.natAbs < 2 ^ 64) : CPow i j := ⟨h1, h2, h3⟩
theorem cdiv {i j : Int} (h1 : 0 < j) (h2 : j < 1073741824) : CDiv i j := ⟨h1, h2⟩
theorem upd_ex {H H' : Hp} {p : Addr} {o : HO} (e : Ex H H') (h : H p = none) : Ex H (upd H' p o) := Ex.mut e h
/-- a value has the answer that is wished -/
theorem ev_eq {te : TE} {σ : L2.St} {H : Hp} {v w : V} (h : Ev te σ H v) (e : v = w) : Ev te σ H w := e ▸ h
theorem et_eq {tt : TT} {σ : L2.St} {H : Hp} {b c : Bool} (h : EvT tt σ H b) (e : b = c) : EvT tt σ H c := e ▸ h
end Z

set_option Elab.async false
set_option linter.all false
set_option maxRecDepth 100000
set_option maxHeartbeats 4000000
/-! Rules that the layer lacks: list(reversed(a list)), max(a list, default=d), set(a list of ints), enumerate(a text). -/
namespace ZR
open PySem PySem.Spec PySem.Calls PyProof.Rows
section
variable {prog : Program} {w : World} {A : Around} {E : Value → Shared → Prop} {s : Shared}
/-- the iterator of reversed(a list) poured into an empty list at S -/
theorem pour_rev {R : Result → Shared → Prop} {it l S : Addr} {xs : Array Value} {c : Nat} (hh : A.handled = none) (hi : s.heap.IsRevIter it l ((xs.size : Int) - 1)) (hx : s.heap.IsList l xs) (n1 : l ≠ it) (n2 : S ≠ it) (n3 : S ≠ l) (hz : xs.size ≤ sizeLine)
    (hS : s.heap.get? S = some { cls := .type "list", data := .seq #[] c })
    (k : ∀ h' tk acc c', (∀ b o, b ≠ S → b ≠ it → s.heap.get? b = some o → h'.get? b = some o) → h'.get? S = some { cls := .type "list", dict := none, data := .seq acc c', slots := #[] } →
      ItemsOf (fun i v => xs[xs.size - 1 - i]? = some v) acc xs.size → R (.ok (.ret .none)) { s with heap := h', toks := tk }) :
    wpAny (model prog w) A.in1 (Builtin.List.listExtendWith (.ref S) (.ref it) .none)
      (fun fin s' => match fin with | .done f => R (.ok f) s' | .again c' => c'.quiet = true ∧ codeAny (model prog w) A c' R s') (fun e s' => R (.error e) s') s := by
  have wk := (Walks.listRev (prog := prog) (w := w) (A := A.in1) hh it l n1 xs).toS
  have out : S ∉ [it, l] := fun z => by
    rcases List.mem_cons.mp z with z | z
    · exact n2 z
    · exact n3 (List.mem_singleton.mp z)
  have ty : s.TypeIs (.ref it) "list_reverseiterator" := Heap.IsRevIter.typeIs hi
  have other : Builtin.List.listSameRef (.ref S) (.ref it) = false := by simp [Builtin.List.listSameRef, n2]
  unfold Builtin.List.listExtendWith
  refine wpAny_bind (wpAny_typeOf ty ?_)
  rw [if_neg (by rw [other]; decide)]
  refine wpAny_bind (wpAny_pyIter_revIter hi ?_)
  refine wpAny_bind (wpAny_holding ?_)
  unfold Builtin.List.listLengthHint
  refine wpAny_bind (wpAny_specialOf ty RT.nolen_lri ?_)
  show wpAny _ A.in1 (specialOf (Value.ref it) (Str.ofString "__length_hint__") >>= fun _ => _) _ _ _
  refine wpAny_bind (wpAny_specialOf ty RT.hint_lri ?_)
  generalize hname : ("list_reverseiterator.__length_hint__" : String) = nm
  wp_delta
  rw [show splitId nm = some ("list_reverseiterator", "__length_hint__") from by subst hname; decide +kernel]
  subst hname
  refine wpAny_bind (wpAny_isInstance (b := true) ty (by rw [isSubtype_type]; kernel_rfl) (wpAny_pure ?_))
  rw [if_neg (by decide)]
  have at0 : ((xs.size : Nat) : Int) - 1 - ((0 : Nat) : Int) = (xs.size : Int) - 1 := by omega
  refine wpAny_pure ⟨plainId_quiet PySem.F.plain_extend_loop _, codeAny_extend_loopS wk hz S out _ xs.size 0 _ _ _ rfl (Nat.zero_le _) ⟨Nat.zero_le _, by rw [at0]; exact hi, hx⟩ hS (ItemsOf.nil _) fun s2 acc c' mv hS2 got => ?_⟩
  rw [Moved.eq_with mv]
  refine k s2.heap s2.toks acc c' (fun b o h1 h2 e => mv.heap b o (fun z => ?_) e) hS2 got
  rcases List.mem_cons.mp z with z | z
  · exact h1 z
  · exact h2 (List.mem_singleton.mp z)
theorem list_of_rev {it l : Addr} {xs : Array Value} {Q : Value → Shared → Prop} (hh : A.handled = none) (hi : s.heap.IsRevIter it l ((xs.size : Int) - 1)) (hx : s.heap.IsList l xs) (n1 : l ≠ it) (hz : xs.size ≤ sizeLine)
    (k : ∀ h' tk acc c', (∀ b o, b ≠ it → s.heap.get? b = some o → h'.get? b = some o) → h'.get? s.heap.objs.size = some { cls := .type "list", dict := none, data := .seq acc c', slots := #[] } →
      ItemsOf (fun i v => xs[xs.size - 1 - i]? = some v) acc xs.size → Q (.ref s.heap.objs.size) { s with heap := h', toks := tk }) :
    wpAny (model prog w) A (call (.type "list") [.ref it]) Q E s := by
  refine callType_codes (Q₁ := fun v s1 => v = .ref s.heap.objs.size ∧ s1 = { s with heap := s.heap.push { cls := .type "list", data := .seq #[] } }) PySem.F.called_list (PySem.F.typeCall_list_1 _) PySem.F.entry_list_init (code_list_new _ ⟨rfl, rfl⟩) ?_
  rintro v s1 ⟨rfl, rfl⟩
  have made : (s.heap.push { cls := .type "list", data := .seq #[] }).get? s.heap.objs.size = some { cls := .type "list", data := .seq #[] } := Heap.get?_push_size _ rfl
  obtain ⟨oi, ei, _⟩ := id hi
  obtain ⟨ol, el, _⟩ := id hx
  have li := Heap.lt_size ei
  have ll := Heap.lt_size el
  refine ⟨⟨_, made, rfl⟩, PySem.F.args_list_init_2 _ _, ?_⟩
  show wpAny _ _ (do let old ← Builtin.List.listItems (.ref s.heap.objs.size); Builtin.List.listUpdate (.ref s.heap.objs.size) (fun _ => #[]); letGo old.toList.reverse; Builtin.List.listExtendWith (.ref s.heap.objs.size) (.ref it) .none) _ _ _
  refine wpAny_bind ?_
  unfold Builtin.List.listItems
  refine wpAny_bind (wpAny_seqItems made rfl (wpAny_pure ?_))
  refine wpAny_bind (m := updateSeq s.heap.objs.size (fun _ => #[])) (wpAny_updateSeq made rfl ?_)
  have made2 := Heap.get?_update_self (Obj.mapSeq (fun _ => (#[] : Array Value))) made rfl
  have rest : ∀ b o, b < s.heap.objs.size → s.heap.get? b = some o → ((s.heap.push { cls := .type "list", data := .seq #[] }).update s.heap.objs.size (Obj.mapSeq (fun _ => (#[] : Array Value)))).get? b = some o :=
    fun b o hb e => (Heap.get?_update_other _ _ (Nat.ne_of_gt hb)).trans (Heap.get?_push_of_some _ e)
  refine wpAny_bind (wpAny_letGo ?_)
  refine pour_rev (A := A.in1) hh (hi.at fun o e => rest it o li e) (hx.at fun o e => rest l o ll e) n1 (Nat.ne_of_gt li) (Nat.ne_of_gt ll) hz made2 fun h' tk acc c' kept hS got => ?_
  exact ⟨rfl, k h' tk acc c' (fun b o hb e => kept b o (Nat.ne_of_lt (Heap.lt_size e)) hb (rest b o (Heap.lt_size e) e)) hS got⟩
end
end ZR

namespace L2
open PySem PySem.Spec PyProof.Rows Evl
/-- list(reversed(a list)) -/
def tLstRev (K : PySem.W.Frag) (te : TE) : TE := fun σ H Q => te σ H fun v H1 => ∃ (a : Addr) (xs : List V), v = .ref a ∧ SqL K H1 a xs ∧ ∀ q, H1 q = none → Q (.ref q) (upd H1 q (.lst xs.reverse))
theorem pe_lstRev {X : Cx} {e : Expr} {te : TE} {p p2 pos pos2 : Pos} (hc : X.calm = true) (g1 : Gl X "list") (m1 : X.mg "list" = none) (g2 : Gl X "reversed") (m2 : X.mg "reversed" = none) (he : PE X e te)
    (s1 : starEach [e] X.env = (false, eval e X.env) :: starEach [] X.env := by rfl)
    (s2 : starEach [.Call (.Name "reversed" p2) [e] [] pos2] X.env = (false, eval (.Call (.Name "reversed" p2) [e] [] pos2) X.env) :: starEach [] X.env := by rfl) :
    PE X (.Call (.Name "list" p) [.Call (.Name "reversed" p2) [e] [] pos2] [] pos) (tLstRev X.K te) := by
  refine ⟨fun pins s σ H Q I h => ?_⟩
  refine Call_ (ld_blt I g1 m1 PyProof.Rows.boot_list (PyProof.Rows.callWith_type1 (args_cons (Call_ (ld_blt I g2 m2 PyProof.Rows.boot_reversed (PyProof.Rows.callWith_type1 (args_cons (thn (he.run pins s σ H _ I h) fun u t ⟨v, H1, J, r, got⟩ => args_nil ?_) s1) s1 rfl))) s2) s2 rfl))
  obtain ⟨a, xs, ev, hq, q⟩ := got
  subst ev
  obtain rfl : u = Value.ref a := r
  obtain ⟨its, rv, pl, hz⟩ := J.list hq
  have il := pl.isList
  obtain ⟨ol, el, _⟩ := id il
  refine call_reversed_list il (args_nil ?_)
  generalize hr : revObj a ((its.toArray.size : Int) - 1) = ro
  have nf : ro.isFreed = false := by rw [← hr]; rfl
  have J2 : Inv X pins σ H1 { t with heap := t.heap.push ro } := J.kept (t' := t.toks) fun b o z => Heap.get?_push_of_some _ z
  obtain ⟨f0, f1, f2, f3, f4, f5⟩ := J.fpOk (H' := H1) (b := t.heap.objs.size) (Nat.le_refl _) (J.hok.fresh (Nat.le_refl _))
  have apart : a ≠ t.heap.objs.size := Nat.ne_of_lt (Heap.lt_size el)
  have fits : its.toArray.size ≤ sizeLine := by rw [List.size_toArray, ← rv.length]; exact hz
  refine ZR.list_of_rev (s := { t with heap := t.heap.push ro }) (J.ok.hd hc) ⟨ro, Heap.get?_push_size _ nf, by rw [← hr]; rfl, by rw [← hr]; rfl⟩ (il.push _) apart fits fun h' tk acc c hk hS hi => ?_
  have J3 : Inv X pins σ H1 { t with heap := h', toks := tk } := J2.turned (t' := tk) (fun b o hb z => hk b o hb z) f0 f1 f3 f4 f5
  have fresh : H1 (t.heap.push ro).objs.size = none := J2.hok.fresh (Nat.le_refl _)
  have new : ObjOk X.prog X.w (upd H1 (t.heap.push ro).objs.size (.lst xs.reverse)) h' (t.heap.push ro).objs.size (.lst xs.reverse) :=
    ⟨by rw [List.length_reverse]; exact hz, acc.toList, c, RT.vals_rev rv hi, by rw [Array.toArray_toList]; exact hS⟩
  have fp : ∀ b ∈ [t.heap.objs.size], FpOk X pins H1 b := fun b hb => by
    rw [List.mem_singleton.mp hb]
    exact J.fpOk (Nat.le_refl _) (J.hok.fresh (Nat.le_refl _))
  exact ⟨.ref (t.heap.push ro).objs.size, _, J2.turnedNew (t' := tk) (ch := [t.heap.objs.size]) (fun b o hb z => hk b o (fun q => hb (List.mem_singleton.mpr q)) z) fp (Nat.le_refl _) new, rfl, q _ fresh⟩
end L2

/-! ### max(a list of ints, default=d) -/
namespace L2
open PySem PySem.Spec PyProof.Rows Evl
def rMaxDef (K : PySem.W.Frag) : List V → List V → Hp → VK → Prop := fun vs zs H Q => ∃ (a : Addr) (ns : List Int) (d : Int), vs = [V.ref a] ∧ zs = [V.int d] ∧ SqL K H a (ns.map V.int) ∧ Q (.int (Mx.maxD d ns)) H
theorem maxOf_int (y : Int) (ys : List Int) : PySem.W.maxOf y ys = Mx.maxD 0 (y :: ys) := by
  show ys.foldl (fun a b => if PySem.W.DatumOrd.lt a b = true then b else a) y = ys.foldl (fun a b => if a < b then b else a) y
  congr 1
  funext a b
  show (if decide (a < b) = true then b else a) = if a < b then b else a
  by_cases h : a < b
  · rw [if_pos h, if_pos (decide_eq_true h)]
  · rw [if_neg h, if_neg (by simpa using h)]
theorem cr_maxDef {X : Cx} (hc : X.calm = true) (hu : X.A.units + 1 < cLine) : CallRK X (.builtin "max") [Str.ofString "default"] (rMaxDef X.K) := by
  intro pins s σ H vs zs us ws Q I r rz h
  obtain ⟨a, ns, d, rfl, rfl, hs, q⟩ := h
  obtain rfl := Vals.ref1 r
  obtain ⟨w1, rfl, e1⟩ := vals1 rz
  obtain ⟨t, rfl⟩ := e1
  obtain ⟨its, rv, hl, hz⟩ := I.list hs
  refine PySem.W.max_list_datum_default (xs := ns) (I.ok.hd hc) hl.isList (PySem.W.HoldAll.of_ints rv.ints) hu (fun e h' tk k => ?_) (fun y ys i v h' tk e hi hv k => ?_)
  · subst e
    exact ⟨.int d, H, I.kept (t' := tk) k, ⟨t, rfl⟩, q⟩
  · subst e
    have em : Mx.maxD d (y :: ys) = Mx.maxD 0 (y :: ys) := rfl
    rw [em, ← maxOf_int] at q
    obtain ⟨as, rd⟩ := hv
    have ev : ∃ tk2, v = .int (PySem.W.maxOf y ys) tk2 := by
      generalize ed : PySem.W.Datum.toD (PySem.W.maxOf y ys) = dd at rd
      cases rd with
      | int n t2 =>
        cases ed
        exact ⟨t2, rfl⟩
      | _ => cases ed
    obtain ⟨t2, rfl⟩ := ev
    exact ⟨.int (PySem.W.maxOf y ys), H, I.kept (t' := tk) k, ⟨t2, rfl⟩, q⟩
end L2

/-! ### set(a list of ints) -/
namespace ZR
open PySem PySem.Spec PySem.Calls PyProof.Rows L2
section
variable {P : Program} {w : World} {A : Around} {E : Value → Shared → Prop} {s : Shared}
/-- an empty set as its maker leaves it -/
abbrev bareSet (w : World) : Obj := { cls := .type "set", dict := none, data := .set #[] 0 (.fresh 0 0 (!w.params.followText "set-order")) }
/-- what the filling of the set at S asks: from an empty set to one whose members are those of the list -/
theorem fill_set {l : Addr} {xs : Array Value} (ns : List Int) {R : Result → Shared → Prop} {S : Addr} (hh : A.handled = none) (hx : s.heap.IsList l xs) (hI : IntsAre xs.toList ns) (hb : ns.length + 1 < scanBound) (hS : s.heap.get? S = some (bareSet w)) (n1 : S ≠ l)
    (k : ∀ (h' : Heap) (tk c : Nat), SetR w h' S (fun j => decide (j ∈ ns)) c → c ≤ ns.length → (∀ b o, b ≠ S → s.heap.get? b = some o → h'.get? b = some o) → R (.ok (.ret .none)) { s with heap := h', toks := tk }) :
    wpAny (model P w) A.in1 (Builtin.«set.__init__» ⟨[.ref S, .ref l], []⟩)
      (fun fin s' => match fin with | .done f => R (.ok f) s' | .again c' => c'.quiet = true ∧ codeAny (model P w) A c' R s') (fun e s' => R (.error e) s') s := by
  have many : xs.size = ns.length := (Array.length_toList (xs := xs)).symm.trans (IntsAre.length hI)
  have tS : s.TypeIs (.ref S) "set" := ⟨_, hS, rfl⟩
  obtain ⟨⟨oc, od, odt, osl⟩, el, ec, nl, ed⟩ := id hx
  simp only at ec ed
  subst ec ed
  have g1 := F.sub_list_set
  have g2 := F.sub_list_frozenset
  have g3 : (Value.type "list" == Value.type "dict") = false := by decide
  have lS := Heap.lt_size hS
  have ll := Heap.lt_size el
  unfold Builtin.«set.__init__» noKeywords Builtin.Frozenset.updateFrom
  generalize hp : pyIter = PI
  wp_walk
  subst hp
  refine wpAny_pyIter_list hx (wpAny_bind (wpAny_runValue ?_))
  have hA : A.in1.in1.handled = none := hh
  have out : S ∉ [s.heap.objs.size, l] := fun z => by
    rcases List.mem_cons.mp z with z | z
    · exact Nat.ne_of_lt lS z
    · exact n1 (List.mem_singleton.mp z)
  have what : ∀ (i : Nat) (v : Value), xs[i]? = some v → ∃ k t, ns[i]? = some k ∧ v = .int k t := fun i v e => by
    obtain ⟨t, z⟩ := PyProof.Rows.IntsAre.int_at hI i v ((Array.getElem?_toList ..).trans e)
    have hi : i < ns.length := many ▸ (Array.getElem?_eq_some_iff.mp e).1
    exact ⟨_, t, List.getElem?_eq_getElem hi, z.trans (by rw [List.getD_eq_getElem?_getD, List.getElem?_eq_getElem hi]; rfl)⟩
  refine set_update_ints ((Walks.list hA _ l (Nat.ne_of_lt ll) xs).toS) S out ns many hb what (xs.size - 0) 0 _ (by omega) (Nat.zero_le _) ⟨⟨_, Heap.get?_push_size _ rfl, rfl, rfl⟩, hx.push _⟩ ⟨0, Nat.le_refl 0, setR_new_at (Heap.get?_push_of_some _ hS)⟩ ?_
  intro s2 c mv hc got
  rw [Moved.eq_with mv]
  show wpAny _ _ _ _ _ _
  refine wpAny_pure ?_
  show wpAny _ _ (ret Value.none) _ _ _
  refine wpAny_pure (k _ _ c got (by omega) fun b o hb e => mv.heap b o (fun z => ?_) (Heap.get?_push_of_some _ e))
  rcases List.mem_cons.mp z with z | z
  · exact hb z
  · exact absurd (Heap.lt_size e) (by rw [List.mem_singleton.mp z]; exact Nat.lt_irrefl _)
end
end ZR

namespace ZR
open PySem PySem.Spec PySem.Calls PyProof.Rows L2
section
variable {P : Program} {w : World} {A : Around} {E : Value → Shared → Prop} {s : Shared}
theorem set_of_list {l : Addr} {xs : Array Value} (ns : List Int) {Q : Value → Shared → Prop} (hh : A.handled = none) (hx : s.heap.IsList l xs) (hI : IntsAre xs.toList ns) (hb : ns.length + 1 < scanBound)
    (k : ∀ (h' : Heap) (tk c : Nat), SetR w h' s.heap.objs.size (fun j => decide (j ∈ ns)) c → c ≤ ns.length → (∀ b o, s.heap.get? b = some o → h'.get? b = some o) → Q (.ref s.heap.objs.size) { s with heap := h', toks := tk }) :
    wpAny (model P w) A (call (.type "set") [.ref l]) Q E s := by
  obtain ⟨m1, m2, mro⟩ := F.called_set.mro
  have f1 := F.called_set.made
  have f2 := F.called_set.sub
  have f3 := F.called_set.notType
  have f4 := F.called_set.canCreate
  have f5 := F.typeCall_set_1 (.ref l)
  refine wpAny_call (codeAny_of_tree ?_)
  show wpAny _ _ (callAny (.type "set") ⟨[.ref l], []⟩) _ _ _
  refine wpAny_pure ⟨Code.quiet_builtin _ (by decide +kernel), codeAny_builtin F.entry_type_call ?_⟩
  rw [Around.under_plain (weight_type_call_type "set" [Value.ref l] []) rfl]
  repeat any_goals (first | wp_step | assumption)
  refine codeAny_mono (code_set_led1 (.ref l) (E := E) (Q₁ := fun v s1 => v = .ref s.heap.objs.size ∧ s1 = { s with heap := s.heap.push (bareSet w) }) ⟨rfl, rfl⟩) fun r s1 hr => ?_
  match r, hr with
  | .error e, hr => exact hr
  | .ok .next, hr => exact hr.elim
  | .ok .brk, hr => exact hr.elim
  | .ok .cont, hr => exact hr.elim
  | .ok (.ret v), hr =>
    obtain ⟨rfl, rfl⟩ := hr
    have got : (s.heap.push (bareSet w)).get? s.heap.objs.size = some (bareSet w) := Heap.get?_push_size _ rfl
    have ty : Shared.TypeIs { s with heap := s.heap.push (bareSet w) } (.ref s.heap.objs.size) "set" := ⟨_, got, rfl⟩
    have g1 := F.called_set.init.lookup
    have g2 := F.called_set.init.bind (.ref s.heap.objs.size)
    obtain ⟨ol, el, _⟩ := id hx
    repeat any_goals (first | wp_step | assumption)
    refine codeAny_mono (codeAny_call_builtin (R := wants (fun r s2 => r = .none ∧ Q (.ref s.heap.objs.size) s2) E) F.called_set.init.plain F.entry_set_init (check_set_init_1 ty ?_)) fun r2 s2 hr2 => ?_
    · refine fill_set (s := { s with heap := s.heap.push (bareSet w) }) ns (show A.in1.in1.handled = none from hh) (hx.push _) hI hb got (Nat.ne_of_gt (Heap.lt_size el)) fun h' tk c R hc kept => ?_
      exact ⟨rfl, k h' tk c R hc fun b o e => kept b o (Nat.ne_of_lt (Heap.lt_size e)) (Heap.get?_push_of_some _ e)⟩
    · match r2, hr2 with
      | .error e, hr2 => exact hr2
      | .ok .next, hr2 => exact hr2.elim
      | .ok .brk, hr2 => exact hr2.elim
      | .ok .cont, hr2 => exact hr2.elim
      | .ok (.ret v2), hr2 =>
        obtain ⟨rfl, hq⟩ := hr2
        repeat any_goals (first | wp_step | assumption)
end
end ZR

namespace L2
open PySem PySem.Spec PySem.Calls PyProof.Rows Evl
/-- set(a list of ints): a set of its members -/
def rSetI2 (K : PySem.W.Frag) (w : World) : List V → Hp → VK → Prop := fun vs H Q => ∃ (p : Addr) (ns : List Int), vs = [.ref p] ∧ SqL K H p (ns.map V.int) ∧ ns.length ≤ 1000 ∧ ∀ a n, H a = none → Q (.ref a) (upd H a (SetO w a (fun j => decide (j ∈ ns)) n))
theorem cr_setL {X : Cx} (hc : X.calm = true) : CallR X (.type "set") (rSetI2 X.K X.w) := by
  intro pins s σ H vs us Q I r h
  obtain ⟨p, ns, rfl, hs, hz, q⟩ := h
  rw [Vals.ref1 r]
  obtain ⟨its, rv, hl, _⟩ := I.list hs
  refine ZR.set_of_list ns (I.ok.hd hc) hl.isList rv.ints (by unfold scanBound; omega) fun h' tk c R _ kept => ?_
  exact ⟨.ref s.heap.objs.size, upd H s.heap.objs.size (SetO X.w s.heap.objs.size (fun j => decide (j ∈ ns)) c), I.laid (t' := tk) kept (Nat.le_refl _) (setO_new R), rfl, q _ c (I.hok.fresh (Nat.le_refl _))⟩
/-- sorted(a set of ints), of any size -/
def rSortedSetA (w : World) : List V → Hp → VK → Prop := fun vs H Q => ∃ (a : Addr) (S : Int → Bool) (n : Nat), vs = [V.ref a] ∧ H a = some (SetO w a S n) ∧
  ∀ (ns : List Int) (p : Addr), ns.Pairwise (· < ·) → (∀ k : Int, k ∈ ns ↔ S k = true) → H p = none → Q (.ref p) (upd H p (.lst (ns.map V.int)))
theorem cr_sortedSetA {X : Cx} (hc : X.calm = true) : CallR X (.builtin "sorted") (rSortedSetA X.w) := by
  intro pins s σ H vs us Q I r h
  obtain ⟨a, S, n, rfl, ha, q⟩ := h
  rw [Vals.ref1 r]
  obtain ⟨o, es, ep, t, ho, hex, hd, good, nd, mem, few, fit, hn, ris, ord⟩ := setO_get I ha
  refine Calls.call_function_entry kind_sorted plain_sorted entry_sorted (args_sorted1 (.ref a)) ?_
  unfold Builtin.«sorted»
  refine wpAny_bind (m := checkCount "sorted" 1 1 _) (wpAny_pure ?_)
  refine wpAny_bind (collect_set (A := X.A.in1) (I.ok.hd hc) ⟨o, ho, hex.1, hd⟩ fit few ris ord fun s1 vs kept grow sg so perm => ?_)
  have szv : vs.length = es.size := (perm.length_eq.trans (List.length_map ..)).trans Array.length_toList
  have small : vs.length ≤ sizeLine := by
    rw [szv, sizeLine_eq]
    have := few
    unfold scanBound at this
    omega
  have are : IntsAre vs (vs.map SrtO.iv) := SrtO.ints_iv fun v hv => by
    obtain ⟨e, he, ev⟩ := List.mem_map.mp (perm.mem_iff.mp hv)
    obtain ⟨k, tk, h1, _⟩ := good e he
    exact ⟨k, tk, ev.symm.trans h1⟩
  refine wpAny_bind (wpAny_newList ?_ small)
  have laidL : (s1.heap.push (seqObj "list" vs.toArray 0)).get? s1.heap.objs.size = some (seqObj "list" vs.toArray 0) := Heap.get?_push_size _ rfl
  refine wpAny_bind (wpAny_holding (wpAny_call_entry slot_list_sort ⟨_, laidL, rfl⟩ entry_list_sort (SrtO.list_sort_ord SrtO.swo_int laidL small (fun h2 => SrtO.ints_sortable are h2) fun out h1 h2 => ⟨_, rfl, ?_⟩) (args_list_sort _)))
  obtain ⟨o1, o2, o3⟩ := SrtO.ints_out are h1 h2
  obtain ⟨c, at1⟩ := PyProof.Rows.sortedHeap_at (vs := vs) (out := out.toArray) laidL
  have keys : (vs.map SrtO.iv).Perm (es.toList.map keyOf) := by
    have z := perm.map SrtO.iv
    rw [List.map_map] at z
    have ee : es.toList.map (SrtO.iv ∘ fun x => x.2) = es.toList.map keyOf := List.map_congr_left fun e he => by
      obtain ⟨k, tk, h1, h2⟩ := good e he
      exact (congrArg SrtO.iv h1).trans (by unfold keyOf; rw [h1]; rfl)
    rw [ee] at z
    exact z
  have all := o2.trans keys
  have kept2 : ∀ b u, s.heap.get? b = some u → (PyProof.Rows.sortedHeap (s1.heap.push (seqObj "list" vs.toArray 0)) s1.heap.objs.size vs out.toArray).get? b = some u := fun b u e => by
    have e1 := kept b u e
    have lt := Heap.lt_size e1
    rw [PyProof.Rows.sortedHeap_old (Nat.ne_of_lt lt) (by rw [Heap.size_push]; exact Nat.lt_succ_of_lt lt)]
    exact Heap.get?_push_of_some _ e1
  have hN : H s1.heap.objs.size = none := I.hok.fresh grow
  have few2 : ((out.map SrtO.iv).map V.int).length ≤ sizeLine := by
    rw [List.length_map, o2.length_eq, List.length_map]
    exact small
  refine wpAny_pure ⟨_, rfl, ?_⟩
  obtain ⟨sh, sgens, sd, st, sos⟩ := s1
  have eo : sos = s.os := so
  have eg : sgens = s.gens := sg
  subst eo eg
  have J : Inv X pins σ (upd H sh.objs.size (.lst ((out.map SrtO.iv).map V.int))) { s with heap := PyProof.Rows.sortedHeap (sh.push (seqObj "list" vs.toArray 0)) sh.objs.size vs out.toArray, gens := s.gens, drawn := sd, toks := st } :=
    I.call (ch := []) (Un.laid kept2 grow hN) (I.hok.laid kept2 grow ⟨few2, out, c, vals_of_ints o1, at1⟩) I.bare (fun _ z => nomatch z)
  exact ⟨.ref sh.objs.size, _, J, rfl, q _ _ (lt_of_le_nodup _ o3 (all.nodup_iff.mpr nd)) (fun k => (all.mem_iff.trans (mem k).symm)) hN⟩
end L2
namespace L2
open PySem PySem.Spec PyProof.Rows
/-! ### == of data or of two empty dicts -/
def rEqOr (K : PySem.W.Frag) : R2 := fun x y H Q => rEqD K x y H Q ∨ ∃ a b, x = .ref a ∧ y = .ref b ∧ H a = some (.dK []) ∧ H b = some (.dK []) ∧ Q (.bl true) H
theorem op_eqOr {X : Cx} (hu : X.A.units + 64 < cLine) : OpR X (compareOp .Eq) (rEqOr X.K) := by
  intro pins s σ H x y v u Q I rx ry h
  rcases h with h | ⟨a, b, e1, e2, h1, h2, q⟩
  · exact op_eqD hu pins s σ H x y v u Q I rx ry h
  · exact op_eq_dict (by omega) pins s σ H x y v u Q I rx ry ⟨a, b, [], e1, e2, h1, h2, List.nodup_nil, (fun p hp => by cases hp), q⟩
end L2

set_option Elab.async false
set_option linter.all false
set_option maxRecDepth 100000
set_option maxHeartbeats 4000000
/-! What the rules' readings evaluate to (over HandS.Evl): comprehensions, sums, sorts. -/
namespace Z
open PySem PySem.Spec PyProof.Rows L2 Evl
section
variable {K : PySem.W.Frag} {σ : L2.St} {H : Hp} {tl te ta tb : TE} {tt : TT}
theorem et_yes : EvT tYes σ H true := fun H1 _ _ q => q H1 (Ex.refl H1)
theorem given_all {α : Type} (xs : List α) (g : α → V) (v : Nat → V) (h : ∀ i x, xs[i]? = some x → v i = g x) : given xs.length (fun _ => true) v = xs.map g := by
  unfold given
  rw [List.filter_eq_self.mpr (fun _ _ => rfl)]
  apply List.ext_getElem?
  intro i
  rw [List.getElem?_map, List.getElem?_map]
  by_cases hi : i < xs.length
  · rw [List.getElem?_range hi, List.getElem?_eq_getElem hi]
    show some (v i) = some (g xs[i])
    rw [h i xs[i] (List.getElem?_eq_getElem hi)]
  · rw [List.getElem?_eq_none (by simpa using hi), List.getElem?_eq_none (by omega)]
    rfl
theorem given_some {α : Type} (xs : List α) (p : α → Bool) (g : α → V) (f : Nat → Bool) (v : Nat → V) (hf : ∀ i x, xs[i]? = some x → f i = p x) (h : ∀ i x, xs[i]? = some x → v i = g x) : given xs.length f v = (xs.filter p).map g := by
  suffices ∀ n, n ≤ xs.length → given n f v = ((xs.take n).filter p).map g by
    rw [this xs.length (Nat.le_refl _), List.take_length]
  intro n
  induction n with
  | zero => intro _; rfl
  | succ n ih =>
    intro hn
    have hx : xs[n]? = some xs[n] := List.getElem?_eq_getElem (by omega)
    rw [List.take_add_one, hx, Option.toList_some, List.filter_append, List.map_append, ← ih (by omega)]
    cases hp : p xs[n] with
    | true =>
      rw [given_yes ((hf n _ hx).trans hp), h n _ hx, List.filter_cons, if_pos hp]
      rfl
    | false =>
      rw [given_no ((hf n _ hx).trans hp), List.filter_cons, if_neg (by rw [hp]; decide)]
      exact (List.append_nil _).symm
/-- [e for x in xs], xs a list of ints -/
theorem el_mapI {a : Addr} {ns : List Int} {j : Nat} {vs : List Nat} (g : Int → V) (h : Ev tl σ H (.ref a)) (hx : SqL K H a (ns.map V.int)) (hz : ns.length ≤ 40000) (hw : ∀ x, wipe ((wipe σ vs).set j (some x)) vs = wipe σ vs)
    (he : ∀ n H1, Ex H H1 → n ∈ ns → Ev te ((wipe σ vs).set j (some (.int n))) H1 (g n)) : EvL (tLc (iList K tl) (gName j) tYes te vs) σ H (ns.map g) := by
  have q := el_lcL (K := K) (tl := tl) (te := te) (t := tYes) (j := j) (vs := vs) (xs := ns.map V.int) (fun _ => true) (fun i => g (ns.getD i 0)) h hx (by rw [List.length_map]; exact hz) hw (fun _ _ _ _ _ => et_yes) (fun i x H1 e hi _ => by
    rw [List.getElem?_map] at hi
    cases hn : ns[i]? with
    | none => rw [hn] at hi; cases hi
    | some n =>
      rw [hn] at hi
      have ex := (Option.some.inj hi).symm
      rw [ex, List.getD_eq_getElem?_getD, hn]
      exact he n H1 e (List.mem_of_getElem? hn))
  rw [List.length_map, given_all ns g _ (fun i x hi => by rw [List.getD_eq_getElem?_getD, hi]; rfl)] at q
  exact q
/-- .. with a test -/
theorem el_mapIf {a : Addr} {ns : List Int} {j : Nat} {vs : List Nat} (p : Int → Bool) (g : Int → V) (h : Ev tl σ H (.ref a)) (hx : SqL K H a (ns.map V.int)) (hz : ns.length ≤ 40000) (hw : ∀ x, wipe ((wipe σ vs).set j (some x)) vs = wipe σ vs)
    (ht : ∀ n H1, Ex H H1 → n ∈ ns → EvT tt ((wipe σ vs).set j (some (.int n))) H1 (p n)) (he : ∀ n H1, Ex H H1 → n ∈ ns → p n = true → Ev te ((wipe σ vs).set j (some (.int n))) H1 (g n)) : EvL (tLc (iList K tl) (gName j) tt te vs) σ H ((ns.filter p).map g) := by
  have at' : ∀ {i : Nat} {x : V}, (ns.map V.int)[i]? = some x → ∃ n, ns[i]? = some n ∧ x = .int n ∧ ns.getD i 0 = n := fun {i x} hi => by
    rw [List.getElem?_map] at hi
    cases hn : ns[i]? with
    | none => rw [hn] at hi; cases hi
    | some n =>
      rw [hn] at hi
      exact ⟨n, rfl, (Option.some.inj hi).symm, by rw [List.getD_eq_getElem?_getD, hn]; rfl⟩
  have q := el_lcL (K := K) (tl := tl) (te := te) (t := tt) (j := j) (vs := vs) (xs := ns.map V.int) (fun i => p (ns.getD i 0)) (fun i => g (ns.getD i 0)) h hx (by rw [List.length_map]; exact hz) hw (fun i x H1 e hi => by
    obtain ⟨n, hn, rfl, en⟩ := at' hi
    rw [en]
    exact ht n H1 e (List.mem_of_getElem? hn)) (fun i x H1 e hi hp => by
    obtain ⟨n, hn, rfl, en⟩ := at' hi
    rw [en] at hp ⊢
    exact he n H1 e (List.mem_of_getElem? hn) hp)
  rw [List.length_map, given_some ns p g _ _ (fun i x hi => by rw [List.getD_eq_getElem?_getD, hi]; rfl) (fun i x hi => by rw [List.getD_eq_getElem?_getD, hi]; rfl)] at q
  exact q
theorem map_int (f : Int → Int) (ns : List Int) : ns.map (fun n => V.int (f n)) = (ns.map f).map V.int := by rw [List.map_map]; rfl
theorem map_bl (f : Int → Bool) (ns : List Int) : ns.map (fun n => V.bl (f n)) = (ns.map f).map V.bl := by rw [List.map_map]; rfl
theorem el_eq {xs ys : List V} (h : EvL te σ H xs) (e : xs = ys) : EvL te σ H ys := e ▸ h
/-- [e for k in range(n)] -/
theorem el_mapR {t1 : TA} {n : Nat} {j : Nat} {vs : List Nat} (g : Nat → V) (h : EvA t1 σ H [.int n]) (hn : n ≤ 40000) (hw : ∀ x, wipe ((wipe σ vs).set j (some x)) vs = wipe σ vs)
    (he : ∀ i H1, Ex H H1 → i < n → Ev te ((wipe σ vs).set j (some (.int (i : Int)))) H1 (g i)) : EvL (tLc (iRng1 t1) (gName j) tYes te vs) σ H ((List.range n).map g) := by
  have q := el_lcR1 (te := te) (t := tYes) (j := j) (vs := vs) (fun _ => true) g h ⟨by omega, by omega⟩ hw (fun _ _ _ _ => et_yes) (fun i H1 e hi _ => he i H1 e (by omega))
  have e := given_all (List.range n) g g (fun i x hi => by
    have := (List.getElem?_eq_some_iff.mp hi)
    obtain ⟨h1, h2⟩ := this
    rw [← h2, List.getElem_range])
  rw [List.length_range] at e
  rw [Int.toNat_natCast, e] at q
  exact q
theorem el_mapRIf {t1 : TA} {n : Nat} {j : Nat} {vs : List Nat} (p : Nat → Bool) (g : Nat → V) (h : EvA t1 σ H [.int n]) (hn : n ≤ 40000) (hw : ∀ x, wipe ((wipe σ vs).set j (some x)) vs = wipe σ vs)
    (ht : ∀ i H1, Ex H H1 → i < n → EvT tt ((wipe σ vs).set j (some (.int (i : Int)))) H1 (p i)) (he : ∀ i H1, Ex H H1 → i < n → p i = true → Ev te ((wipe σ vs).set j (some (.int (i : Int)))) H1 (g i)) : EvL (tLc (iRng1 t1) (gName j) tt te vs) σ H (((List.range n).filter p).map g) := by
  have q := el_lcR1 (te := te) (t := tt) (j := j) (vs := vs) p g h ⟨by omega, by omega⟩ hw (fun i H1 e hi => ht i H1 e (by omega)) (fun i H1 e hi hp => he i H1 e (by omega) hp)
  rw [Int.toNat_natCast] at q
  exact q
theorem ev_sum {ns : List Int} (h : EvL te σ H (ns.map V.int)) : Ev (tCB (rSum K) (tCons te tNil)) σ H (.int ns.sum) := fun H1 e Q q =>
  h H1 e _ fun p H2 _ e2 hp => ⟨p, ns, rfl, SqL.of hp, q H2 e2⟩
theorem ev_all {bs : List Bool} (h : EvL te σ H (bs.map V.bl)) : Ev (tCB (rAll K) (tCons te tNil)) σ H (.bl (bs.all id)) := fun H1 e Q q =>
  h H1 e _ fun p H2 _ e2 hp => ⟨p, bs, rfl, SqL.of hp, q H2 e2⟩
theorem el_rev {a : Addr} {xs : List V} (h : Ev te σ H (.ref a)) (hx : SqL K H a xs) : EvL (tLstRev K te) σ H xs.reverse := fun H1 e Q q =>
  h H1 e _ fun H2 e2 => ⟨a, xs, rfl, ex_l (e.trans e2) hx, fun p hp => q p _ (fresh_back e2 hp) (e2.trans (Ex.new hp)) upd_same⟩
theorem ev_maxDef {a : Addr} {ns : List Int} {d : Int} (h : Ev te σ H (.ref a)) (hx : SqL K H a (ns.map V.int)) (hd : Ev ta σ H (.int d)) : Ev (tCKw (rMaxDef K) (tCons te tNil) (tCons ta tNil)) σ H (.int (Mx.maxD d ns)) := fun H1 e Q q =>
  h H1 e _ fun H2 e2 => hd H2 (e.trans e2) _ fun H3 e3 => ⟨a, ns, d, rfl, rfl, ex_l ((e.trans e2).trans e3) hx, q H3 (e2.trans e3)⟩
theorem ev_maxDefL {ns : List Int} {d : Int} (h : EvL te σ H (ns.map V.int)) (hd : ∀ H1, Ex H H1 → Ev ta σ H1 (.int d)) : Ev (tCKw (rMaxDef K) (tCons te tNil) (tCons ta tNil)) σ H (.int (Mx.maxD d ns)) := fun H1 e Q q =>
  h H1 e _ fun p H2 _ e2 hp => hd H2 (e.trans e2) H2 (Ex.refl _) _ fun H3 e3 => ⟨p, ns, d, rfl, rfl, SqL.of (e3 _ _ hp), q H3 (e2.trans e3)⟩
end

/-! ### a call as a statement, as a value that is told by its promise -/
section
variable {σ : L2.St} {H : Hp} {ta : TA} {sp : Sp} {dvs vs : List V} {E : XK} {D : Ends} {tz : TS} {i : Nat}
theorem q_callD (h : EvA ta σ H vs) (k : ∀ H1, Ex H H1 → sp (vs ++ dvs) H1 (fun _ H2 => tz D σ H2) E) : tSeq (tDrop (tCall sp dvs E ta)) tz D σ H := h H (Ex.refl H) _ fun H1 e1 => k H1 e1
theorem q_callA (h : EvA ta σ H vs) (k : ∀ H1, Ex H H1 → sp (vs ++ dvs) H1 (fun v H2 => tz D (σ.set i (some v)) H2) E) : tSeq (tAsg (tCall sp dvs E ta) (gName i)) tz D σ H := h H (Ex.refl H) _ fun H1 e1 => k H1 e1
theorem q_callG {g : TG} (h : EvA ta σ H vs) (k : ∀ H1, Ex H H1 → sp (vs ++ dvs) H1 (fun v H2 => g v σ H2 fun σ' H3 => tz D σ' H3) E) : tSeq (tAsg (tCall sp dvs E ta) g) tz D σ H := h H (Ex.refl H) _ fun H1 e1 => k H1 e1
theorem q_pairL {te1 te2 : TE} {xs ys : List V} (h1 : EvL te1 σ H xs) (h2 : EvL te2 σ H ys) (k : ∀ p q r H1, H p = none → H q = none → H r = none → p ≠ q → Ex H H1 → H1 p = some (.lst xs) → H1 q = some (.lst ys) → H1 r = some (.lst [.ref p, .ref q]) → tz D (σ.set i (some (.ref r))) H1) :
    tSeq (tAsg (tLst (tCons te1 (tCons te2 tNil))) (gName i)) tz D σ H := h1 H (Ex.refl H) _ fun p H1 np e1 hp => h2 H1 e1 _ fun q H2 nq e2 hq => ⟨(show 2 ≤ sizeLine by decide), fun r hr =>
  k p q r _ np (fresh_back e1 nq) (fresh_back (e1.trans e2) hr) (fun h => by rw [h, nq] at hp; cases hp) ((e1.trans e2).trans (Ex.new hr)) (ex_to (Ex.new hr) (ex_to e2 hp)) (ex_to (Ex.new hr) hq) upd_same⟩
theorem q_callLA {te : TE} {xs : List V} (h : EvL te σ H xs) (hr : ∀ H1, Ex H H1 → EvA ta σ H1 vs) (k : ∀ p H1, H p = none → Ex H H1 → H1 p = some (.lst xs) → sp ((.ref p :: vs) ++ dvs) H1 (fun v H2 => tz D (σ.set i (some v)) H2) E) :
    tSeq (tAsg (tCall sp dvs E (tCons te ta)) (gName i)) tz D σ H := h H (Ex.refl H) _ fun p H1 hp e1 h1 => hr H1 e1 H1 (Ex.refl _) _ fun H2 e2 => k p H2 hp (e1.trans e2) (e2 p _ h1)
theorem s_callLA {te : TE} {xs : List V} (h : EvL te σ H xs) (hr : ∀ H1, Ex H H1 → EvA ta σ H1 vs) (k : ∀ p H1, H p = none → Ex H H1 → H1 p = some (.lst xs) → sp ((.ref p :: vs) ++ dvs) H1 (fun v H2 => D.nx (σ.set i (some v)) H2) E) :
    tAsg (tCall sp dvs E (tCons te ta)) (gName i) D σ H := h H (Ex.refl H) _ fun p H1 hp e1 h1 => hr H1 e1 H1 (Ex.refl _) _ fun H2 e2 => k p H2 hp (e1.trans e2) (e2 p _ h1)
theorem s_callR (h : EvA ta σ H vs) (k : ∀ H1, Ex H H1 → sp (vs ++ dvs) H1 D.rt E) : tRet (tCall sp dvs E ta) D σ H := h H (Ex.refl H) _ fun H1 e1 => k H1 e1
end

/-! ### calls that are handed a new list -/
section
variable {σ : L2.St} {H : Hp} {ta te : TE} {tr : TA} {sp : Sp} {vs xs ys : List V} {v z : V} {E : XK} {D : Ends} {tz : TS} {tu : TS}
theorem ev_call1L (h : EvL te σ H xs) (hr : EvA tr σ H vs) (hs : ∀ p H1, Ex H H1 → H1 p = some (.lst xs) → SpV sp (.ref p :: vs) H1 z) : Ev (tCall sp [] E (tCons te tr)) σ H z := fun H1 e Q q =>
  h H1 e _ fun p H2 _ e2 h2 => hr H2 (e.trans e2) _ fun H3 e3 => by
    show sp ((.ref p :: vs) ++ []) H3 Q E
    rw [List.append_nil]
    exact hs p H2 (e.trans e2) h2 H3 e3 Q (fun H4 e4 => q H4 ((e2.trans e3).trans e4)) E
theorem el_call1L (h : EvL te σ H xs) (hr : EvA tr σ H vs) (hs : ∀ p H1, Ex H H1 → H1 p = some (.lst xs) → SpL sp (.ref p :: vs) H1 ys) : EvL (tCall sp [] E (tCons te tr)) σ H ys := fun H1 e Q q =>
  h H1 e _ fun p H2 _ e2 h2 => hr H2 (e.trans e2) _ fun H3 e3 => by
    show sp ((.ref p :: vs) ++ []) H3 Q E
    rw [List.append_nil]
    exact hs p H2 (e.trans e2) h2 H3 e3 Q (fun r H4 hr e4 => q r H4 (fresh_back (e2.trans e3) hr) ((e2.trans e3).trans e4)) E
theorem ev_callVL (ha : Ev ta σ H v) (h : EvL te σ H xs) (hs : ∀ p H1, Ex H H1 → H1 p = some (.lst xs) → SpV sp [v, .ref p] H1 z) : Ev (tCall sp [] E (tCons ta (tCons te tNil))) σ H z := fun H1 e Q q =>
  ha H1 e _ fun H2 e2 => h H2 (e.trans e2) _ fun p H3 _ e3 h3 => hs p H3 ((e.trans e2).trans e3) h3 H3 (Ex.refl _) Q (fun H4 e4 => q H4 ((e2.trans e3).trans e4)) E
/-- for j in range(n - 1, -1, -1) -/
theorem q_forDown {t3 : TA} {j n : Nat} (h : EvA t3 σ H [.int ((n : Int) - 1), .int (-1), .int (-1)]) (hn : n ≤ 100000) (Pv : Nat → L2.St → Hp → Prop) (h0 : ∀ H1, Ex H H1 → Pv 0 σ H1)
    (hs : ∀ (i : Nat) σ' H', i < n → Pv i σ' H' → tu { D with nx := Pv (i + 1), ct := Pv (i + 1), bk := tz D } (σ'.set j (some (.int ((n - 1 - i : Nat) : Int)))) H') (hd : ∀ σ' H', Pv n σ' H' → tz D σ' H') : tSeq (tFor (iRng3 t3) (gName j) tu) tz D σ H :=
  h H (Ex.refl H) _ fun H1 e => ⟨_, _, _, n, rfl, by
    have g := RgC.neg (i := (n : Int) - 1) (j := -1) (by omega) (by omega) (by decide) (by decide)
    rw [show ((n : Int) - 1 - -1).toNat = n by omega] at g
    exact g, for_rangeC (D := { D with nx := tz D }) Pv (h0 H1 e) (fun i σ' H' hi p => by
    have e2 : (n : Int) - 1 + (i : Nat) * -1 = ((n - 1 - i : Nat) : Int) := by omega
    rw [e2]
    exact hs i σ' H' hi p) hd⟩
end

/-! ### methods of lists as statements -/
section
variable {K : PySem.W.Frag} {σ : L2.St} {H : Hp} {to te : TE} {D : Ends} {tz : TS} {i : Nat} {l : Addr}
/-- x = l.pop() -/
theorem q_pop {xs : List V} {y : V} (hl : H l = some (.lst (xs ++ [y]))) (ho : Ev to σ H (.ref l)) (k : ∀ H1, Ex H H1 → tz D (σ.set i (some y)) (upd H1 l (.lst xs))) :
    tSeq (tAsg (tBM0 K "list" rPop to) (gName i)) tz D σ H := ho H (Ex.refl H) _ fun H1 e1 =>
  ⟨.inl ⟨rfl, _, SqL.of (e1 l _ hl)⟩, l, xs ++ [y], y, rfl, rfl, e1 l _ hl, by simp, by rw [List.dropLast_concat]; exact k H1 e1⟩
end

/-! ### more values -/
section
variable {K : PySem.W.Frag} {σ : L2.St} {H : Hp} {tl te ta tb : TE} {tt : TT}
theorem rv_notN {x : V} : RV (fun x y H Q => y = .non ∧ Q (.bl (!decide (x = .non))) H) x .non H (.bl (!decide (x = .non))) := fun H1 _ _ q => ⟨rfl, q H1 (Ex.refl H1)⟩
theorem rv_isN {x : V} : RV (fun x y H Q => y = .non ∧ Q (.bl (decide (x = .non))) H) x .non H (.bl (decide (x = .non))) := fun H1 _ _ q => ⟨rfl, q H1 (Ex.refl H1)⟩
def cutI (ns : List Int) (lo hi : Option Int) : List Int := (ns.drop (HT.sIx ns.length 0 lo)).take (HT.sIx ns.length ns.length hi - HT.sIx ns.length 0 lo)
theorem cut_ints (ns : List Int) (lo hi : Option Int) : cutV (ns.map V.int) lo hi = (cutI ns lo hi).map V.int := by
  unfold cutV cutI
  rw [List.map_take, List.map_drop, List.length_map]
theorem cutI_le (ns : List Int) (lo hi : Option Int) : (cutI ns lo hi).length ≤ ns.length := by
  unfold cutI
  rw [List.length_take, List.length_drop]
  omega
theorem el_slI {tl th : TO} {a : Addr} {ns : List Int} {lo hi : Option Int} (h : Ev te σ H (.ref a)) (h1 : EvO tl σ H lo) (h2 : EvO th σ H hi) (hs : SqL K H a (ns.map V.int)) : EvL (tSl (rSlL K) te tl th) σ H ((cutI ns lo hi).map V.int) :=
  el_eq (el_sl h h1 h2 hs) (cut_ints ns lo hi)
theorem nat_at {l : List Nat} {i p : Nat} (h : l[i]? = some p) : ((Mx.nat l).map V.int)[i]? = some (.int (p : Int)) := by
  unfold Mx.nat
  rw [List.getElem?_map, List.getElem?_map, h]
  rfl
theorem nat_snoc (l : List Nat) (p : Nat) : (Mx.nat (l ++ [p])).map V.int = (Mx.nat l).map V.int ++ [.int (p : Int)] := by
  unfold Mx.nat
  rw [List.map_append, List.map_append]
  rfl
theorem nat_cat (l m : List Nat) : (Mx.nat (l ++ m)).map V.int = (Mx.nat l).map V.int ++ (Mx.nat m).map V.int := by
  unfold Mx.nat
  rw [List.map_append, List.map_append]
theorem nat_rev (l : List Nat) : ((Mx.nat l).map V.int).reverse = (Mx.nat l.reverse).map V.int := by
  unfold Mx.nat
  rw [List.map_reverse, List.map_reverse]
theorem int_mem {ns : List Int} {i : Nat} {x : V} (h : (ns.map V.int)[i]? = some x) : ∃ n, ns[i]? = some n ∧ x = .int n := by
  rw [List.getElem?_map] at h
  cases e : ns[i]? with
  | none => rw [e] at h; cases h
  | some n => rw [e] at h; exact ⟨n, rfl, (Option.some.inj h).symm⟩
theorem cut_most {ns : List Int} {i j : Nat} : (cutI ns (some (i : Int)) (some (j : Int))).length ≤ j - i := by
  unfold cutI
  rw [List.length_take]
  have e2 : HT.sIx ns.length 0 (some (i : Int)) = min i ns.length := HT.sIx_nat ns.length 0 i
  have e3 : HT.sIx ns.length ns.length (some (j : Int)) = min j ns.length := HT.sIx_nat ns.length ns.length j
  rw [e2, e3, List.length_drop]
  omega
theorem nat_len (l : List Nat) : (Mx.nat l).length = l.length := by unfold Mx.nat; rw [List.length_map]
theorem nat_up (l : List Nat) : (Mx.nat l).map (fun z => V.int (z + 1)) = (Mx.nat (Mx.up l)).map V.int := by
  unfold Mx.nat Mx.up
  rw [List.map_map, List.map_map, List.map_map]
  rfl
theorem nat_up2 (l : List Nat) : (Mx.nat l).map (fun z => V.int (z + 2)) = (Mx.nat (Mx.up (Mx.up l))).map V.int := by
  rw [← nat_up]
  unfold Mx.nat Mx.up
  rw [List.map_map, List.map_map, List.map_map]
  refine List.map_congr_left fun p _ => ?_
  show V.int ((p : Int) + 2) = V.int (((p + 1 : Nat) : Int) + 1)
  congr 1
theorem nat_down (l : List Nat) : ((Mx.nat l).filter (fun z => decide (0 < z))).map (fun z => V.int (z - 1)) = (Mx.nat (Mx.down l)).map V.int := by
  induction l with
  | nil => rfl
  | cons a l ih =>
    show (List.filter _ ((a : Int) :: Mx.nat l)).map _ = (Mx.nat (((a :: l).filter fun p => decide (0 < p)).map (· - 1))).map V.int
    by_cases h : 0 < a
    · rw [List.filter_cons, if_pos (by simpa using h), List.filter_cons, if_pos (by simpa using h), List.map_cons, ih]
      show _ = V.int ((a - 1 : Nat) : Int) :: _
      rw [show ((a - 1 : Nat) : Int) = (a : Int) - 1 by omega]
      rfl
    · rw [List.filter_cons, if_neg (by simpa using h), List.filter_cons, if_neg (by simpa using h), ih]
      rfl
/-- things that may be handed in as a form: b tells whether it is one -/
def gap : Option Int → Int → Bool
  | none, _ => true
  | some q, p => !decide (q - p < 2)
def fmV : Option Int → List V → Bool
  | _, [] => true
  | b, .int p :: r => decide (0 ≤ p) && (gap b p && fmV (some p) r)
  | _, _ :: _ => false
def FmT (K : PySem.W.Frag) (H : Hp) (x : V) (b : Bool) : Prop :=
  (∃ a xs, x = .ref a ∧ H a = some (.lst xs) ∧ (∀ v ∈ xs, Kn K H v) ∧ b = fmV none xs) ∨ (∃ n, Seven n ∧ n ≠ "list" ∧ Ty K H x n ∧ b = false)
theorem FmT.mono {H' : Hp} {x : V} {b : Bool} (e : Ex H H') (h : FmT K H x b) : FmT K H' x b := by
  rcases h with ⟨a, xs, e1, e2, e3, e4⟩ | ⟨n, e1, e2, e3, e4⟩
  · exact .inl ⟨a, xs, e1, e a _ e2, fun v hv => (e3 v hv).mono e, e4⟩
  · exact .inr ⟨n, e1, e2, e3.mono e, e4⟩
theorem fmV_nat : ∀ (l : List Nat) (b : Option Int), (∀ q, b = some q → ∀ p ∈ l, (p : Int) + 2 ≤ q) → Mx.Fm l → fmV b ((Mx.nat l).map V.int) = true
  | [], _, _, _ => rfl
  | p :: l, b, hb, h => by
    show (decide ((0 : Int) ≤ (p : Int)) && (gap b p && fmV (some (p : Int)) ((Mx.nat l).map V.int))) = true
    rw [fmV_nat l (some p) (fun q e r hr => by
      have := Mx.fm_lt h r hr
      have e2 := Option.some.inj e
      omega) (Mx.fm_tail h), Bool.and_true, Bool.and_eq_true]
    refine ⟨decide_eq_true (Int.natCast_nonneg p), ?_⟩
    cases b with
    | none => rfl
    | some q =>
      have := hb q rfl p List.mem_cons_self
      simp only [gap, Bool.not_eq_true', decide_eq_false_iff_not]
      omega
theorem fmT_nat {a : Addr} {l : List Nat} (h : H a = some (.lst ((Mx.nat l).map V.int))) (hF : Mx.Fm l) : FmT K H (.ref a) true :=
  .inl ⟨a, _, rfl, h, fun v hv => by
    obtain ⟨n, _, rfl⟩ := List.mem_map.mp hv
    exact kn_int, (fmV_nat l none (fun q e => by cases e) hF).symm⟩
end

/-! ### signs of a form -/
section
def rJoin (K : PySem.W.Frag) : V → List V → Hp → VK → Prop := fun x xs H Q => ∃ a p, ∃ ys : List Str, x = .str a ∧ xs = [.ref p] ∧ (SqL K H p (ys.map V.str) ∨ SqT K H p (ys.map V.str)) ∧ (ys.map (·.length)).sum + ys.length * a.length ≤ 16777216 ∧ Q (.str (Txt.join a ys)) H
theorem ev_join {K : PySem.W.Frag} {σ : L2.St} {H : Hp} {to te : TE} {a : Str} {p : Addr} {ys : List Str} (ho : Ev to σ H (.str a)) (he : Ev te σ H (.ref p)) (hs : SqL K H p (ys.map V.str)) (hz : (ys.map (·.length)).sum + ys.length * a.length ≤ 16777216) :
    Ev (tM1 (rJoin K) to te) σ H (.str (Txt.join a ys)) := fun H1 e Q q => ho H1 e _ fun H2 e2 => ⟨⟨a, rfl⟩, he H2 (e.trans e2) _ fun H3 e3 => ⟨a, p, ys, rfl, rfl, .inl (ex_l ((e.trans e2).trans e3) hs), hz, q H3 (e2.trans e3)⟩⟩
theorem ev_joinL {K : PySem.W.Frag} {σ : L2.St} {H : Hp} {to te : TE} {a : Str} {ys : List Str} (ho : Ev to σ H (.str a)) (he : EvL te σ H (ys.map V.str)) (hz : (ys.map (·.length)).sum + ys.length * a.length ≤ 16777216) :
    Ev (tM1 (rJoin K) to te) σ H (.str (Txt.join a ys)) := fun H1 e Q q => ho H1 e _ fun H2 e2 => ⟨⟨a, rfl⟩, he H2 (e.trans e2) _ fun p H3 _ e3 h3 => ⟨a, p, ys, rfl, rfl, .inl (SqL.of h3), hz, q H3 (e2.trans e3)⟩⟩
def topP (l : List Nat) : Nat := (Mx.maxD 0 (Mx.nat l)).toNat
def sign (b : Bool) : Str := if b then "1" else "0"
def bits (n : Nat) (l : List Nat) : List Str := (List.range n).map fun i => sign (decide (n - 1 - i ∈ l))
theorem bits_len (n : Nat) (l : List Nat) : (bits n l).length = n := by unfold bits; rw [List.length_map, List.length_range]
theorem sign_len (b : Bool) : (sign b).length = 1 := by cases b <;> decide
theorem sum_ones : ∀ xs : List Nat, (∀ x ∈ xs, x = 1) → xs.sum = xs.length
  | [], _ => rfl
  | x :: xs, h => by
    rw [List.sum_cons, sum_ones xs fun y hy => h y (List.mem_cons_of_mem _ hy), h x List.mem_cons_self, List.length_cons]
    omega
theorem bits_sum (n : Nat) (l : List Nat) : ((bits n l).map (·.length)).sum = n := by
  rw [sum_ones]
  · rw [List.length_map, bits_len]
  · intro x hx
    unfold bits at hx
    obtain ⟨s, hs, rfl⟩ := List.mem_map.mp hx
    obtain ⟨i, _, rfl⟩ := List.mem_map.mp hs
    exact sign_len _
theorem bits_set {n p : Nat} {l : List Nat} (h : p < n) : (bits n l).set (n - 1 - p) "1" = bits n (l ++ [p]) := by
  unfold bits
  apply List.ext_getElem?
  intro i
  rw [List.getElem?_set, List.getElem?_map, List.getElem?_map, List.length_map, List.length_range]
  by_cases hi : i < n
  · rw [List.getElem?_range hi]
    by_cases e : n - 1 - p = i
    · rw [if_pos e, if_pos (show n - 1 - p < n by omega)]
      have : n - 1 - i = p := by omega
      show some _ = some (sign (decide (n - 1 - i ∈ l ++ [p])))
      rw [this, decide_eq_true (by simp)]
      rfl
    · rw [if_neg e]
      show some _ = some _
      have : n - 1 - i ≠ p := by omega
      congr 3
      simp [this]
  · rw [List.getElem?_eq_none (by simpa using hi)]
    rw [if_neg (show ¬ n - 1 - p = i by omega)]
    rfl
theorem topP_ok {l : List Nat} {n : Nat} (h : ∀ p ∈ l, p < n) (hn : 0 < n) : Mx.maxD 0 (Mx.nat l) = (topP l : Int) ∧ (∀ p ∈ l, p ≤ topP l) ∧ topP l < n := by
  unfold topP
  rcases Mx.maxD_nat l 0 with ⟨e, e2⟩ | ⟨p, hp, e, hm⟩
  · rw [e]
    exact ⟨rfl, (fun p hp => by rw [e2] at hp; cases hp), hn⟩
  · rw [e]
    exact ⟨by omega, fun q hq => by have := hm q hq; omega, by have := h p hp; omega⟩
theorem rep_bits (n : Nat) : (List.replicate n [V.str "0"]).flatten = (bits n []).map V.str := by
  have e : (List.replicate n [V.str "0"]).flatten = List.replicate n (V.str "0") := by
    induction n with
    | zero => rfl
    | succ n ih => rw [List.replicate_succ, List.flatten_cons, ih, List.replicate_succ]; rfl
  rw [e]
  unfold bits
  rw [List.map_map]
  apply List.ext_getElem?
  intro i
  rw [List.getElem?_replicate, List.getElem?_map]
  by_cases hi : i < n
  · rw [if_pos hi, List.getElem?_range hi]
    rfl
  · rw [if_neg hi, List.getElem?_eq_none (by simpa using hi)]
    rfl
theorem el_rep {σ : L2.St} {H : Hp} {ta tb : TE} {xs : List V} {k : Nat} (ha : EvL ta σ H xs) (hb : ∀ H1, Ex H H1 → Ev tb σ H1 (.int (k : Int))) (hz : xs.length * k ≤ 100000) (hk : k ≤ 100000) : EvL (tOp rRep ta tb) σ H (List.replicate k xs).flatten := fun H1 e Q q =>
  ha H1 e _ fun l H2 _ e2 hl => hb H2 (e.trans e2) H2 (Ex.refl _) _ fun H3 e3 => by
    refine ⟨l, (k : Int), xs, rfl, rfl, e3 _ _ hl, by omega, by omega, ?_, fun p hp => ?_⟩
    · rw [Int.toNat_natCast]
      exact sz_of hz
    · rw [Int.toNat_natCast]
      exact q p _ (fresh_back (e2.trans e3) hp) ((e2.trans e3).trans (Ex.new hp)) upd_same
end

/-! ### one thing of a display -/
section
variable {K : PySem.W.Frag} {σ : L2.St} {H : Hp} {te ti : TE} {ta : TA}
def EvP (te : TE) (σ : L2.St) (H : Hp) (P : V → Hp → Prop) : Prop := ∀ H1, Ex H H1 → ∀ Q : VK, (∀ v H2, Ex H1 H2 → P v H2 → Q v H2) → te σ H1 Q
def PAll : List (V → Hp → Prop) → List V → Hp → Prop
  | [], [], _ => True
  | P :: Ps, v :: vs, H => P v H ∧ PAll Ps vs H
  | _, _, _ => False
def EvPs (ta : TA) (σ : L2.St) (H : Hp) (Ps : List (V → Hp → Prop)) : Prop := ∀ H1, Ex H H1 → ∀ Q : List V → Hp → Prop, (∀ vs H2, Ex H1 H2 → PAll Ps vs H2 → Q vs H2) → ta σ H1 Q
def Stable (P : V → Hp → Prop) : Prop := ∀ v H H', Ex H H' → P v H → P v H'
theorem ep_nil : EvPs tNil σ H [] := fun H1 _ _ q => q [] H1 (Ex.refl H1) trivial
theorem ep_cons {tr : TA} {P : V → Hp → Prop} {Ps : List (V → Hp → Prop)} (h : EvP te σ H P) (st : Stable P) (hr : EvPs tr σ H Ps) : EvPs (tCons te tr) σ H (P :: Ps) := fun H1 e Q q =>
  h H1 e _ fun v H2 e2 p => hr H2 (e.trans e2) _ fun vs H3 e3 ps => q (v :: vs) H3 (e2.trans e3) ⟨st v H2 H3 e3 p, ps⟩
theorem ep_v {P : V → Hp → Prop} {v : V} (h : Ev te σ H v) (hP : ∀ H', Ex H H' → P v H') : EvP te σ H P := fun H1 e Q q => h H1 e _ fun H2 e2 => q v H2 e2 (hP H2 (e.trans e2))
theorem ep_L {P : V → Hp → Prop} {xs : List V} (h : EvL te σ H xs) (hP : ∀ p H', H p = none → Ex H H' → H' p = some (.lst xs) → P (.ref p) H') : EvP te σ H P := fun H1 e Q q => h H1 e _ fun p H2 np e2 h2 => q _ H2 e2 (hP p H2 (fresh_back e np) (e.trans e2) h2)
theorem ep_U {P : V → Hp → Prop} {xs : List V} (h : EvU te σ H xs) (hP : ∀ p H', H p = none → Ex H H' → H' p = some (.tup xs) → P (.ref p) H') : EvP te σ H P := fun H1 e Q q => h H1 e _ fun p H2 np e2 h2 => q _ H2 e2 (hP p H2 (fresh_back e np) (e.trans e2) h2)
theorem ex_upd {H1 H2 : Hp} {f : Addr} {o : HO} (e : Ex H1 H2) : Ex (upd H1 f o) (upd H2 f o) := fun b x h => by
  by_cases hb : b = f
  · subst hb
    rw [upd_same] at h ⊢
    exact h
  · rw [upd_ne hb] at h ⊢
    exact e b x h
theorem ep_dK {P : V → Hp → Prop} (hP : ∀ p H', Ex H H' → H' p = some (.dK []) → P (.ref p) H') : EvP tDNewK σ H P := fun H1 e Q q p hp => q _ _ (Ex.new hp) (hP p _ (e.trans (Ex.new hp)) upd_same)
theorem pall_at : ∀ {Ps : List (V → Hp → Prop)} {vs : List V} {H : Hp} {j : Nat} {P : V → Hp → Prop}, PAll Ps vs H → Ps[j]? = some P → ∃ v, vs[j]? = some v ∧ P v H
  | [], _, _, _, _, _, h => by simp at h
  | _ :: _, [], _, _, _, h, _ => h.elim
  | P :: Ps, v :: vs, H, 0, P', h, e => by
    have : P = P' := by simpa using e
    exact ⟨v, rfl, this ▸ h.1⟩
  | P :: Ps, v :: vs, H, j + 1, P', h, e => by
    obtain ⟨w, h1, h2⟩ := pall_at h.2 (show Ps[j]? = some P' by simpa using e)
    exact ⟨w, by simpa using h1, h2⟩
theorem pall_len : ∀ {Ps : List (V → Hp → Prop)} {vs : List V} {H : Hp}, PAll Ps vs H → vs.length = Ps.length
  | [], [], _, _ => rfl
  | [], _ :: _, _, h => h.elim
  | _ :: _, [], _, h => h.elim
  | P :: Ps, v :: vs, H, h => by rw [List.length_cons, List.length_cons, pall_len h.2]
theorem ep_pick {Ps : List (V → Hp → Prop)} {P : V → Hp → Prop} {j : Nat} (h : EvPs ta σ H Ps) (hl : Ps.length ≤ 1000) (hi : ∀ H1, Ex H H1 → Ev ti σ H1 (.int (j : Int))) (hj : Ps[j]? = some P) (st : Stable P) : EvP (tOp (rIxL K) (tLst ta) ti) σ H P := fun H1 e Q q =>
  h H1 e _ fun vs H2 e2 ps => ⟨sz_of (by rw [pall_len ps]; omega), fun p hp => by
    obtain ⟨v, hv, hp2⟩ := pall_at ps hj
    refine hi _ ((e.trans e2).trans (Ex.new hp)) _ (Ex.refl _) _ fun H3 e3 => ?_
    exact ⟨p, vs, _, v, rfl, rfl, SqL.of (e3 p _ upd_same), atI_nat hv, q v H3 ((e2.trans (Ex.new hp)).trans e3) (st v _ _ ((Ex.new hp).trans e3) hp2)⟩⟩
theorem s_retP {D : Ends} {P : V → Hp → Prop} (h : EvP te σ H P) (q : ∀ v H2, Ex H H2 → P v H2 → D.rt v H2) : tRet te D σ H := h H (Ex.refl H) _ q
theorem s_asgP {D : Ends} {P : V → Hp → Prop} {g : TG} (h : EvP te σ H P) (q : ∀ v H2, Ex H H2 → P v H2 → g v σ H2 D.nx) : tAsg te g D σ H := h H (Ex.refl H) _ q
theorem q_asgP {D : Ends} {tz : TS} {P : V → Hp → Prop} {g : TG} (h : EvP te σ H P) (q : ∀ v H2, Ex H H2 → P v H2 → g v σ H2 fun σ' H3 => tz D σ' H3) : tSeq (tAsg te g) tz D σ H := h H (Ex.refl H) _ q
theorem ev_ixL {xs : List V} {z : Int} {v : V} (h : EvL te σ H xs) (hi : ∀ H1, Ex H H1 → Ev ti σ H1 (.int z)) (hz : atI xs z = some v) : Ev (tOp (rIxL K) te ti) σ H v := fun H1 e Q q =>
  h H1 e _ fun p H2 _ e2 hp => hi H2 (e.trans e2) H2 (Ex.refl _) _ fun H3 e3 => ⟨p, _, _, _, rfl, rfl, SqL.of (e3 _ _ hp), hz, q H3 (e2.trans e3)⟩
theorem eu_tuple {a : Addr} {xs : List V} (h : Ev te σ H (.ref a)) (hs : SqL K H a xs) : EvU (tCB (fun ys H Q => ∃ p zs, ys = [.ref p] ∧ ((SqL K H p zs ∧ ∀ l, H l = none → Q (.ref l) (upd H l (.tup zs))) ∨ (SqT K H p zs ∧ Q (.ref p) H))) (tCons te tNil)) σ H xs := fun H1 e Q q =>
  h H1 e _ fun H2 e2 => ⟨a, xs, rfl, .inl ⟨ex_l (e.trans e2) hs, fun l hl => q l _ (fresh_back e2 hl) (e2.trans (Ex.new hl)) upd_same⟩⟩
/-! data of any make, and the empty dict -/
inductive Th
  | d (x : PyData)
  | dict
def ThAt (K : PySem.W.Frag) (t : Th) (v : V) (H : Hp) : Prop := match t with
  | .d x => Dp K H v x ∧ SeqAt.shaped x = true
  | .dict => ∃ a, v = .ref a ∧ H a = some (.dK [])
theorem ThAt.mono {t : Th} {v : V} {H' : Hp} (e : Ex H H') (h : ThAt K t v H) : ThAt K t v H' := by
  cases t with
  | d x => exact ⟨Dp.ex e h.1, h.2⟩
  | dict => obtain ⟨a, e1, e2⟩ := h; exact ⟨a, e1, e a _ e2⟩
theorem ev_eqTh {v u : V} {t : Th} {tb : TE} (ha : Ev te σ H v) (hb : Ev tb σ H u) (h1 : ThAt K t v H) (h2 : ThAt K t u H) : Ev (tOp (rEqOr K) te tb) σ H (.bl true) := fun H1 e Q q =>
  ha H1 e _ fun H2 e2 => hb H2 (e.trans e2) _ fun H3 e3 => by
    have e13 := (e.trans e2).trans e3
    cases t with
    | d x => exact .inl ⟨x, x, Dp.ex e13 h1.1, Dp.ex e13 h2.1, h1.2, h1.2, by rw [SeqAt.eqv_refl x (SeqAt.canLay_of_shaped h1.2)]; exact q H3 (e2.trans e3)⟩
    | dict =>
      obtain ⟨a, rfl, g1⟩ := h1
      obtain ⟨b, rfl, g2⟩ := h2
      exact .inr ⟨a, b, rfl, rfl, e13 a _ g1, e13 b _ g2, q H3 (e2.trans e3)⟩
theorem dp_ints : ∀ ns : List Int, DpAll K H (ns.map V.int) (ns.map PyData.int)
  | [] => .nil
  | n :: ns => .cons (.int n) (dp_ints ns)
theorem dp_set : ∀ {vs : List V} {ds : List PyData} {x : V} {d : PyData} (i : Nat), DpAll K H vs ds → Dp K H x d → DpAll K H (vs.set i x) (ds.set i d)
  | _, _, _, _, _, .nil, _ => .nil
  | _, _, _, _, 0, .cons a b, h => .cons h b
  | _, _, _, _, i + 1, .cons a b, h => .cons a (dp_set i b h)
theorem lay_all : ∀ {ds : List PyData}, (∀ d ∈ ds, d.canLay0 = true) → PyData.canLayAll0 ds = true
  | [], _ => rfl
  | d :: ds, h => by
    rw [PyData.canLayAll0, h d List.mem_cons_self, lay_all fun x hx => h x (List.mem_cons_of_mem _ hx)]
    rfl
theorem depth_all {n : Nat} : ∀ {ds : List PyData}, (∀ d ∈ ds, d.depth ≤ n) → PyData.depthAll ds ≤ n
  | [], _ => Nat.zero_le _
  | d :: ds, h => by
    rw [PyData.depthAll]
    have := h d List.mem_cons_self
    have := depth_all (ds := ds) fun x hx => h x (List.mem_cons_of_mem _ hx)
    omega
theorem shaped_list {ds : List PyData} (h : ∀ d ∈ ds, d.canLay0 = true ∧ d.depth ≤ 1) : SeqAt.shaped (.list ds) = true ∧ SeqAt.shaped (.tuple ds) = true := by
  have h1 := lay_all fun d hd => (h d hd).1
  have h2 := depth_all fun d hd => (h d hd).2
  unfold SeqAt.shaped
  constructor
  · rw [PyData.canLay0, h1, PyData.depth, decide_eq_true (by omega)]
    rfl
  · rw [PyData.canLay0, h1, PyData.depth, decide_eq_true (by omega)]
    rfl
end

/-! ### the menu of things that are no whole number -/
section
variable {K : PySem.W.Frag} {σ : L2.St} {H : Hp} {t0 ti : TE} {z : Int} {c : Int}
theorem menu (h0 : Ev t0 σ H (.int z)) (hz : z < 0) (hi : ∀ H1, Ex H H1 → Ev ti σ H1 (.int (c % 8))) {Q : VK} (k : ∀ x H', Ex H H' → Kn K H' x → wholeV x = false → Q x H') :
    tOp (rIxL K) (tLst (tCons t0 (tCons (tC (.bl true)) (tCons (tC (.bl false)) (tCons (tC .non) (tCons (tC (.str "3")) (tCons (tLst (tCons (tC (.int 2)) tNil)) (tCons (tTup (tCons (tC (.int 2)) tNil)) (tCons tDNewK tNil))))))))) ti σ H Q := by
  refine h0 H (Ex.refl _) _ fun H6 e6 => ?_
  refine ⟨by decide, fun l2 hl2 => ?_⟩
  refine ⟨by decide, fun t ht => ?_⟩
  refine fun d hd => ?_
  refine ⟨(show 8 ≤ sizeLine by decide), fun m hm => ?_⟩
  have eA : ∀ o, Ex H (upd (upd (upd (upd H6 l2 (.lst [.int 2])) t (.tup [.int 2])) d (.dK [])) m o) := fun o => (((e6.trans (Ex.new hl2)).trans (Ex.new ht)).trans (Ex.new hd)).trans (Ex.new hm)
  refine hi _ (eA _) _ (Ex.refl _) _ fun H7 e7 => ?_
  have f2 := ex_to e7 (ex_to (Ex.new hm) (ex_to (Ex.new hd) (ex_to (Ex.new ht) (upd_same (H := H6) (a := l2) (o := .lst [.int 2])))))
  have f3 := ex_to e7 (ex_to (Ex.new hm) (ex_to (Ex.new hd) (upd_same (a := t) (o := .tup [.int 2]))))
  have f4 := ex_to e7 (ex_to (Ex.new hm) (upd_same (a := d) (o := .dK [])))
  have f5 := ex_to e7 (upd_same (a := m))
  have hneg : wholeV (.int z) = false := by
    simp only [wholeV, decide_eq_false_iff_not]
    omega
  obtain ⟨j, hj, hj2⟩ : ∃ j : Nat, c % 8 = (j : Int) ∧ j < 8 := ⟨(c % 8).toNat, by omega, by omega⟩
  rw [hj]
  have eB := (eA _).trans e7
  match j, hj2 with
  | 0, _ => exact ⟨m, _, _, _, rfl, rfl, .of f5, atI_nat (j := 0) rfl, k _ H7 eB kn_int hneg⟩
  | 1, _ => exact ⟨m, _, _, _, rfl, rfl, .of f5, atI_nat (j := 1) rfl, k _ H7 eB kn_bl rfl⟩
  | 2, _ => exact ⟨m, _, _, _, rfl, rfl, .of f5, atI_nat (j := 2) rfl, k _ H7 eB kn_bl rfl⟩
  | 3, _ => exact ⟨m, _, _, _, rfl, rfl, .of f5, atI_nat (j := 3) rfl, k _ H7 eB kn_non rfl⟩
  | 4, _ => exact ⟨m, _, _, _, rfl, rfl, .of f5, atI_nat (j := 4) rfl, k _ H7 eB kn_str rfl⟩
  | 5, _ => exact ⟨m, _, _, _, rfl, rfl, .of f5, atI_nat (j := 5) rfl, k _ H7 eB (kn_lst f2) rfl⟩
  | 6, _ => exact ⟨m, _, _, _, rfl, rfl, .of f5, atI_nat (j := 6) rfl, k _ H7 eB (kn_tup f3) rfl⟩
  | 7, _ => exact ⟨m, _, _, _, rfl, rfl, .of f5, atI_nat (j := 7) rfl, k _ H7 eB (kn_dK f4) rfl⟩
end

/-! ### for a, b in zip(xs, ys); int(a truth) -/
section
variable {K : PySem.W.Frag} {σ : L2.St} {H : Hp} {t1 : TA} {te ta tb : TE} {D : Ends} {tu tz : TS}
theorem q_zip {a b : Addr} {i j : Nat} {xs ys : List V} (h : EvA t1 σ H [.ref a, .ref b]) (hx : SqL K H a xs) (hy : SqL K H b ys) (Pv : Nat → L2.St → Hp → Prop) (h0 : ∀ H1, Ex H H1 → Pv 0 σ H1)
    (hl : ∀ k σ' H', Pv k σ' H' → SqL K H' a xs ∧ SqL K H' b ys)
    (hs : ∀ k x y σ' H', xs[k]? = some x → ys[k]? = some y → Pv k σ' H' → ∀ H1, Ex H' H1 → tu { D with nx := Pv (k + 1), ct := Pv (k + 1), bk := tz D } ((σ'.set i (some x)).set j (some y)) H1)
    (hd : ∀ σ' H', Pv (min xs.length ys.length) σ' H' → tz D σ' H') : tSeq (tFor (iZip K t1) (gTup K 2 (gCons (gName i) (gCons (gName j) gNil))) tu) tz D σ H :=
  h H (Ex.refl H) _ fun H1 e1 => ⟨a, b, xs, ys, rfl, ex_l e1 hx, ex_l e1 hy, L2.for_it (D := { D with nx := tz D }) (L2.walk_zip (xs := xs) (ys := ys) rfl) Pv (h0 H1 e1) (fun k σ' H' _ p => hl k σ' H' p) (fun k x σ' H' H'' hk p y => by
    obtain ⟨T, u, v, rfl, hT, rfl, hu, hv⟩ := y
    exact ⟨T, [u, v], rfl, SqT.of upd_same, rfl, u, [v], rfl, v, [], rfl, rfl, hs k u v σ' H' hu hv p _ (Ex.new hT)⟩) hd⟩
theorem ev_intB {b : Bool} (h : Ev te σ H (.bl b)) : Ev (tCB (fun xs H Q => (∃ i, xs = [.int i] ∧ Q (.int i) H) ∨ ∃ k, xs = [.bl k] ∧ Q (.int (if k then 1 else 0)) H) (tCons te tNil)) σ H (.int (if b then 1 else 0)) := fun H1 e Q q =>
  h H1 e _ fun H2 e2 => .inr ⟨b, rfl, q H2 e2⟩
theorem nat_drop {l : List Nat} {k : Nat} {p : Nat} (h : l[k]? = some p) : l.drop k = p :: l.drop (k + 1) := by
  obtain ⟨h1, h2⟩ := List.getElem?_eq_some_iff.mp h
  rw [List.drop_eq_getElem_cons h1, h2]
theorem nat_mem {l : List Nat} {k : Nat} {x : V} (h : ((Mx.nat l).map V.int)[k]? = some x) : ∃ p : Nat, l[k]? = some p ∧ x = .int (p : Int) := by
  obtain ⟨n, h1, h2⟩ := int_mem h
  unfold Mx.nat at h1
  rw [List.getElem?_map] at h1
  cases e : l[k]? with
  | none => rw [e] at h1; cases h1
  | some p =>
    rw [e] at h1
    exact ⟨p, rfl, by rw [h2, ← Option.some.inj h1]⟩
end
end Z

set_option Elab.async false
set_option linter.all false
set_option maxRecDepth 100000
set_option maxHeartbeats 4000000
/-! Heaps of marks and steps: what the program's rules for them come to. -/
namespace L2
open PySem PySem.Spec PyProof.Rows
/-- the rule for a def with defaults that lets no exception out -/
theorem FunD.okN {P : Program} {w : World} {K : PySem.W.Frag} {mg : Str → Option Value} {base : Heap} {x qual : Str} {params : Arguments} {body : List Stmt} {scope : Scope} {dvs : List V} {kws : List (Str × V)} {f : Addr} {fd : FuncData} {N ps : List Str} {k : Nat} {sp : Sp}
    (F : FunD K x qual params body scope dvs kws f fd) (S : FnScope N ps scope) (len : ∀ vs H Q E, sp vs H Q E → vs.length = ps.length)
    (hbody : ∀ (cdv : Value) (A : Around) (outer : List Env) (s : Shared) (H : Hp) (vs : List V) (Q : VK) (E : XK), Room k (A.deeper (envOfC qual scope s.heap.objs.size f cdv)) → sp vs H Q E →
      ∃ t, PSs (cxOf CX0 P w K mg base N qual scope f cdv A outer s H E).nox body t ∧ t { nx := fun _ H' => Q .non H', rt := Q } (start N vs) H) : FnOk P w K mg base CX0 (k + 1) f fd ps sp :=
  F.ok S len fun cdv A outer s H vs Q E hr hsp => by
    obtain ⟨t, h, q⟩ := hbody cdv A outer s H vs Q E hr hsp
    exact ⟨t, h.nox, q⟩
theorem fund_mk {K : PySem.W.Frag} {x qual : Str} {st : Stmt} {f T : Addr} {oc toc : Value} {od tod an : Option Addr} {osl tsl : Array (Option Value)} {kV doc pm cdv ct : Value} {tn : Nat}
    (l : K.lookup f = some ⟨oc, od, .func (PySem.W.fnOf x qual (defArgs st) (defBody st) (defScope st) (.ref T) kV doc pm an cdv ct), osl⟩) (c : PySem.W.codeIn K cdv qual = true) (k : PySem.W.keepIn K (.ref f) = true) (w : K.lookup T = some ⟨toc, tod, .seq #[Value.none] tn, tsl⟩) :
    FunD K x qual (defArgs st) (defBody st) (defScope st) [.non] [] f (PySem.W.fnOf x qual (defArgs st) (defBody st) (defScope st) (.ref T) kV doc pm an cdv ct) :=
  ⟨⟨oc, od, .ref T, kV, doc, pm, an, cdv, ct, osl, rfl, l, c, .inr ⟨by simp, T, _, [Value.none], tn, rfl, w, rfl, .cons rfl .nil⟩, .inl rfl⟩, k⟩
section
variable {K : PySem.W.Frag} {x qual : Str} {params : Arguments} {body : List Stmt} {scope : Scope} {f : Addr} {fd : FuncData} {ps : List Str}
theorem dfl1 (F : FunD K x qual params body scope [.non] [] f fd) (n : Nat) (hn : n + 1 = ps.length)
    (h : ∀ (T : Addr) (kV doc pm : Value) (an : Option Addr) (cdv ct : Value) (us its : List Value), us.length = n → its.length = 1 →
      ∃ k, bindArgs (PySem.W.fnOf x qual params body scope (.ref T) kV doc pm an cdv ct) ⟨us, []⟩ = seqItems? (.ref T) >>= k ∧ k (some its.toArray) = pure (ps.zip (us ++ its))) : Binds K fd ps [.none] := by
  obtain ⟨ds, v, b⟩ := F.binds1 n 0 (by simp) hn h
  cases v with
  | cons a r =>
    cases r
    have a : _ = Value.none := a
    rw [a] at b
    exact b
theorem dfl0 (F : FunD K x qual params body scope [.non] [] f fd)
    (h : ∀ (T : Addr) (kV doc pm : Value) (an : Option Addr) (cdv ct : Value) (us its : List Value), us.length = ps.length → its.length = 1 →
      ∃ k, bindArgs (PySem.W.fnOf x qual params body scope (.ref T) kV doc pm an cdv ct) ⟨us, []⟩ = seqItems? (.ref T) >>= k ∧ k (some its.toArray) = pure (ps.zip (us ++ its.drop 1))) : Binds K fd ps [] := by
  obtain ⟨ds, v, b⟩ := F.binds1 ps.length 1 (by simp) rfl h
  cases v
  exact b
end
end L2
namespace Z
open PySem PySem.Spec PyProof.Rows L2 Evl
open PySem.W (Datum)
structure Stp where
  join : Bool
  at_ : Int
  deriving DecidableEq
def stw (j : Bool) : Str := if j then "join" else "split"
theorem stw_inj {a b : Bool} : stw a = stw b ↔ a = b := by revert a b; decide +kernel
instance : Datum Stp where
  toD s := .tuple [.str (stw s.join), .int s.at_]
  plain s := rfl
  eqv a b := by
    obtain ⟨j, p⟩ := a
    obtain ⟨k, q⟩ := b
    show (((stw j == stw k) && ((p == q) && true)) : Bool) = decide (Stp.mk j p = Stp.mk k q)
    rw [Bool.eq_iff_iff]
    simp [stw_inj]
  depth := 1
  depth_le s := by
    show PyData.depth (.tuple [.str (stw s.join), .int s.at_]) ≤ 1
    simp [PyData.depth, PyData.depthAll]
instance : Dt Stp where
  lay s := by
    obtain ⟨j, p⟩ := s
    show PyData.canLay0 (.tuple [.str (stw j), .int p]) = true
    rw [PyData.canLay0, PyData.canLayAll0, PyData.canLayAll0, PyData.canLayAll0]
    have : PyData.canLay0 (.str (stw j)) = true := by cases j <;> decide +kernel
    rw [this]
    rfl
def TupAt (H : Hp) (v : V) (s : Stp) : Prop := ∃ t, v = .ref t ∧ H t = some (.tup [.str (stw s.join), .int s.at_])
def StAll (H : Hp) : List V → List Stp → Prop
  | [], [] => True
  | v :: vs, s :: ss => TupAt H v s ∧ StAll H vs ss
  | _, _ => False
section
variable {K : PySem.W.Frag} {H H' : Hp} {v : V} {s : Stp}
theorem TupAt.mono (e : Ex H H') (h : TupAt H v s) : TupAt H' v s := by
  obtain ⟨t, e1, e2⟩ := h
  exact ⟨t, e1, e t _ e2⟩
theorem TupAt.upd {r : Addr} {xs : List V} {o : HO} (h : TupAt H v s) (hr : H r = some (.lst xs)) : TupAt (upd H r o) v s := by
  obtain ⟨t, e1, e2⟩ := h
  refine ⟨t, e1, ?_⟩
  have : t ≠ r := fun e => by rw [e, hr] at e2; cases e2
  rw [upd_ne this]
  exact e2
theorem TupAt.hd (h : TupAt H v s) : Hd K H v s := by
  obtain ⟨t, rfl, e2⟩ := h
  exact Dp.tup (SqT.of e2) (.cons (.str _) (.cons (.int _) .nil))
theorem StAll.mono (e : Ex H H') : ∀ {vs : List V} {ss : List Stp}, StAll H vs ss → StAll H' vs ss
  | [], [], _ => trivial
  | [], _ :: _, h => h.elim
  | _ :: _, [], h => h.elim
  | _ :: _, _ :: _, h => ⟨h.1.mono e, StAll.mono e h.2⟩
theorem StAll.upd {r : Addr} {xs : List V} {o : HO} (hr : H r = some (.lst xs)) : ∀ {vs : List V} {ss : List Stp}, StAll H vs ss → StAll (upd H r o) vs ss
  | [], [], _ => trivial
  | [], _ :: _, h => h.elim
  | _ :: _, [], h => h.elim
  | _ :: _, _ :: _, h => ⟨h.1.upd hr, StAll.upd hr h.2⟩
theorem StAll.snoc : ∀ {vs : List V} {ss : List Stp}, StAll H vs ss → TupAt H v s → StAll H (vs ++ [v]) (ss ++ [s])
  | [], [], _, h => ⟨h, trivial⟩
  | [], _ :: _, h, _ => h.elim
  | _ :: _, [], h, _ => h.elim
  | _ :: _, _ :: _, h, g => ⟨h.1, StAll.snoc h.2 g⟩
theorem StAll.app : ∀ {vs us : List V} {ss ts : List Stp}, StAll H vs ss → StAll H us ts → StAll H (vs ++ us) (ss ++ ts)
  | [], _, [], _, _, h => h
  | [], _, _ :: _, _, h, _ => h.elim
  | _ :: _, _, [], _, h, _ => h.elim
  | _ :: _, _, _ :: _, _, h, g => ⟨h.1, StAll.app h.2 g⟩
theorem StAll.len : ∀ {vs : List V} {ss : List Stp}, StAll H vs ss → vs.length = ss.length
  | [], [], _ => rfl
  | [], _ :: _, h => h.elim
  | _ :: _, [], h => h.elim
  | _ :: _, _ :: _, h => by rw [List.length_cons, List.length_cons, StAll.len h.2]
theorem StAll.get : ∀ {vs : List V} {ss : List Stp} {i : Nat}, StAll H vs ss → ss[i]? = some s → ∃ v, vs[i]? = some v ∧ TupAt H v s
  | [], [], _, _, e => by simp at e
  | [], _ :: _, _, h, _ => h.elim
  | _ :: _, [], _, h, _ => h.elim
  | v :: _, s' :: _, 0, h, e => by
    have : s' = s := by simpa using e
    exact ⟨v, rfl, this ▸ h.1⟩
  | _ :: _, _ :: _, i + 1, h, e => by
    obtain ⟨w, h1, h2⟩ := StAll.get h.2 (by simpa using e)
    exact ⟨w, by simpa using h1, h2⟩
theorem StAll.get' : ∀ {vs : List V} {ss : List Stp} {i : Nat}, StAll H vs ss → vs[i]? = some v → ∃ s, ss[i]? = some s ∧ TupAt H v s
  | [], [], _, _, e => by simp at e
  | [], _ :: _, _, h, _ => h.elim
  | _ :: _, [], _, h, _ => h.elim
  | v' :: _, s' :: _, 0, h, e => by
    have : v' = v := by simpa using e
    exact ⟨s', rfl, this ▸ h.1⟩
  | _ :: _, _ :: _, i + 1, h, e => by
    obtain ⟨w, h1, h2⟩ := StAll.get' h.2 (by simpa using e)
    exact ⟨w, by simpa using h1, h2⟩
theorem StAll.take : ∀ {vs : List V} {ss : List Stp} (n : Nat), StAll H vs ss → StAll H (vs.take n) (ss.take n)
  | [], [], _, _ => by simp [StAll]
  | [], _ :: _, _, h => h.elim
  | _ :: _, [], _, h => h.elim
  | _ :: _, _ :: _, 0, _ => trivial
  | _ :: _, _ :: _, n + 1, h => ⟨h.1, StAll.take n h.2⟩
theorem StAll.drop : ∀ {vs : List V} {ss : List Stp} (n : Nat), StAll H vs ss → StAll H (vs.drop n) (ss.drop n)
  | [], [], _, _ => by simp [StAll]
  | [], _ :: _, _, h => h.elim
  | _ :: _, [], _, h => h.elim
  | _ :: _, _ :: _, 0, h => h
  | _ :: _, _ :: _, n + 1, h => StAll.drop n h.2
theorem StAll.hd : ∀ {vs : List V} {ss : List Stp}, StAll H vs ss → HdAll K H vs ss
  | [], [], _ => .nil
  | [], _ :: _, h => h.elim
  | _ :: _, [], h => h.elim
  | _ :: _, _ :: _, h => .cons h.1.hd (StAll.hd h.2)
end
/-! ### the marks, sorted and without doubles -/
def ins (x : Int) : List Int → List Int
  | [] => [x]
  | y :: ys => if x < y then x :: y :: ys else if x = y then y :: ys else y :: ins x ys
theorem ins_mem {x k : Int} : ∀ {ys : List Int}, k ∈ ins x ys ↔ k = x ∨ k ∈ ys
  | [] => by simp [ins]
  | y :: ys => by
    unfold ins
    split
    · simp
    · split
      · rename_i h
        simp [h]
      · rw [List.mem_cons, ins_mem, List.mem_cons]
        constructor
        · rintro (h | h | h) <;> simp [h]
        · rintro (h | h | h) <;> simp [h]
theorem ins_lt {x : Int} : ∀ {ys : List Int}, ys.Pairwise (· < ·) → (ins x ys).Pairwise (· < ·)
  | [], _ => List.pairwise_singleton _ _
  | y :: ys, h => by
    obtain ⟨h1, h2⟩ := List.pairwise_cons.mp h
    unfold ins
    split
    · rename_i l
      exact List.pairwise_cons.mpr ⟨fun b hb => by
        rcases List.mem_cons.mp hb with e | e
        · omega
        · have := h1 b e
          omega, h⟩
    · split
      · exact h
      · refine List.pairwise_cons.mpr ⟨fun b hb => ?_, ins_lt h2⟩
        rcases ins_mem.mp hb with e | e
        · omega
        · exact h1 b e
def dset (ns : List Int) : List Int := ns.foldr ins []
theorem dset_mem {k : Int} : ∀ {ns : List Int}, k ∈ dset ns ↔ k ∈ ns
  | [] => Iff.rfl
  | n :: ns => by
    show k ∈ ins n (dset ns) ↔ _
    rw [ins_mem, dset_mem, List.mem_cons]
theorem dset_lt : ∀ ns : List Int, (dset ns).Pairwise (· < ·)
  | [] => List.Pairwise.nil
  | n :: ns => ins_lt (dset_lt ns)
theorem lt_uniq : ∀ {a b : List Int}, a.Pairwise (· < ·) → b.Pairwise (· < ·) → (∀ k, k ∈ a ↔ k ∈ b) → a = b
  | [], [], _, _, _ => rfl
  | [], y :: ys, _, _, h => by have := (h y).mpr List.mem_cons_self; cases this
  | x :: xs, [], _, _, h => by have := (h x).mp List.mem_cons_self; cases this
  | x :: xs, y :: ys, h1, h2, h => by
    obtain ⟨a1, a2⟩ := List.pairwise_cons.mp h1
    obtain ⟨b1, b2⟩ := List.pairwise_cons.mp h2
    have e : x = y := by
      rcases List.mem_cons.mp ((h x).mp List.mem_cons_self) with e | e
      · exact e
      · rcases List.mem_cons.mp ((h y).mpr List.mem_cons_self) with e' | e'
        · exact e'.symm
        · have := a1 y e'
          have := b1 x e
          omega
    subst e
    rw [lt_uniq a2 b2 fun k => ?_]
    constructor
    · intro hk
      rcases List.mem_cons.mp ((h k).mp (List.mem_cons_of_mem _ hk)) with e | e
      · have := a1 k hk
        omega
      · exact e
    · intro hk
      rcases List.mem_cons.mp ((h k).mpr (List.mem_cons_of_mem _ hk)) with e | e
      · have := b1 k hk
        omega
      · exact e
theorem dset_len : ∀ ns : List Int, (dset ns).length ≤ ns.length
  | [] => Nat.le_refl _
  | n :: ns => by
    have : ∀ ys : List Int, (ins n ys).length ≤ ys.length + 1 := fun ys => by
      induction ys with
      | nil => exact Nat.le_refl _
      | cons y ys ih =>
        unfold ins
        split
        · exact Nat.le_refl _
        · split
          · exact Nat.le_succ _
          · rw [List.length_cons, List.length_cons]
            omega
    have h1 := this (dset ns)
    have h2 := dset_len ns
    show (ins n (dset ns)).length ≤ ns.length + 1
    omega
/-! ### the steps of a heap -/
def stAt (ns : List Int) (p : Int) : List Stp := (if 1 < ns.count p then [⟨false, p⟩] else []) ++ (if p + 1 ∈ ns then [⟨true, p⟩] else [])
def stepsOf (ns : List Int) : List Stp := (dset ns).flatMap (stAt ns)
theorem dset_perm {a b : List Int} (h : a.Perm b) : dset a = dset b := lt_uniq (dset_lt a) (dset_lt b) fun k => by rw [dset_mem, dset_mem, h.mem_iff]
theorem stepsOf_perm {a b : List Int} (h : a.Perm b) : stepsOf a = stepsOf b := by
  unfold stepsOf
  rw [dset_perm h]
  have : stAt a = stAt b := by
    funext p
    unfold stAt
    rw [h.count_eq]
    congr 1
    by_cases m : p + 1 ∈ a
    · rw [if_pos m, if_pos (h.mem_iff.mp m)]
    · rw [if_neg m, if_neg fun q => m (h.mem_iff.mpr q)]
  rw [this]
def okStp (ns : List Int) (s : Stp) : Prop := s.at_ ∈ ns ∧ ((s.join = true ∧ s.at_ + 1 ∈ ns) ∨ (s.join = false ∧ 1 < ns.count s.at_))
theorem mem_steps {ns : List Int} {s : Stp} : s ∈ stepsOf ns ↔ okStp ns s := by
  obtain ⟨j, p⟩ := s
  unfold stepsOf stAt okStp
  rw [List.mem_flatMap]
  constructor
  · rintro ⟨q, hq, h⟩
    have hq := dset_mem.mp hq
    rcases List.mem_append.mp h with h | h
    · split at h
      · have e := List.mem_singleton.mp h
        cases e
        exact ⟨hq, .inr ⟨rfl, by assumption⟩⟩
      · cases h
    · split at h
      · have e := List.mem_singleton.mp h
        cases e
        exact ⟨hq, .inl ⟨rfl, by assumption⟩⟩
      · cases h
  · rintro ⟨hq, h⟩
    refine ⟨p, dset_mem.mpr hq, ?_⟩
    rcases h with ⟨e, h⟩ | ⟨e, h⟩
    · have e : j = true := e
      subst e
      exact List.mem_append_right _ (by rw [if_pos h]; exact List.mem_singleton.mpr rfl)
    · have e : j = false := e
      subst e
      exact List.mem_append_left _ (by rw [if_pos h]; exact List.mem_singleton.mpr rfl)
theorem stAt_len (ns : List Int) (p : Int) : (stAt ns p).length ≤ 2 := by
  unfold stAt
  rw [List.length_append]
  split <;> split <;> simp
theorem flatMap_len {f : Int → List Stp} (hf : ∀ p, (f p).length ≤ 2) : ∀ xs : List Int, (xs.flatMap f).length ≤ 2 * xs.length
  | [] => Nat.le_refl _
  | x :: xs => by
    rw [List.flatMap_cons, List.length_append, List.length_cons]
    have := hf x
    have := flatMap_len hf xs
    omega
theorem stepsOf_len (ns : List Int) : (stepsOf ns).length ≤ 2 * ns.length := by
  have := flatMap_len (stAt_len ns) (dset ns)
  have := dset_len ns
  unfold stepsOf
  omega
/-! ### the heap behind a step -/
def goingOf (s : Stp) : List Int := if s.join then [s.at_, s.at_ + 1] else [s.at_, s.at_]
def comingOf (s : Stp) : List Int := if s.join then [s.at_ + 2] else if s.at_ = 0 then [1] else if s.at_ = 1 then [2, 0] else [s.at_ + 1, s.at_ - 2]
def desc (ns : List Int) : List Int := ns.mergeSort fun a b => decide (b ≤ a)
theorem desc_perm (ns : List Int) : (desc ns).Perm ns := List.mergeSort_perm ns _
theorem desc_ge (ns : List Int) : (desc ns).Pairwise (· ≥ ·) := by
  have := List.pairwise_mergeSort (le := fun a b : Int => decide (b ≤ a)) (fun a b c h1 h2 => by
    have := of_decide_eq_true h1
    have := of_decide_eq_true h2
    exact decide_eq_true (by omega)) (fun a b => by
    rw [Bool.or_eq_true]
    rcases Int.le_total a b with h | h
    · exact .inr (decide_eq_true h)
    · exact .inl (decide_eq_true h)) ns
  exact this.imp fun h => of_decide_eq_true h
theorem desc_uniq {a b : List Int} (h : a.Perm b) (h1 : a.Pairwise (· ≥ ·)) (h2 : b.Pairwise (· ≥ ·)) : a = b :=
  List.Perm.eq_of_pairwise (le := (· ≥ ·)) (fun a b _ _ h1 h2 => by omega) h1 h2 h
theorem desc_eq {a b : List Int} (h : a.Perm b) : desc a = desc b := desc_uniq ((desc_perm a).trans (h.trans (desc_perm b).symm)) (desc_ge a) (desc_ge b)
def rawBehind (ns : List Int) (s : Stp) : List Int := ((ns.erase s.at_).erase (if s.join then s.at_ + 1 else s.at_)) ++ comingOf s
def behindOf (ns : List Int) (s : Stp) : List Int := desc (rawBehind ns s)
theorem two_erase {ns : List Int} {s : Stp} (h : okStp ns s) : ((s.at_ :: (if s.join then s.at_ + 1 else s.at_) :: ((ns.erase s.at_).erase (if s.join then s.at_ + 1 else s.at_)))).Perm ns ∧ (if s.join then s.at_ + 1 else s.at_) ∈ ns.erase s.at_ := by
  obtain ⟨j, p⟩ := s
  obtain ⟨h1, h2⟩ := h
  have m : (if j then p + 1 else p) ∈ ns.erase p := by
    rcases h2 with ⟨e, h⟩ | ⟨e, h⟩
    · have e : j = true := e
      subst e
      exact (List.mem_erase_of_ne (show p + 1 ≠ p by omega)).mpr h
    · have e : j = false := e
      subst e
      have h : 1 < ns.count p := h
      have : 0 < (ns.erase p).count p := by
        rw [List.count_erase_self]
        omega
      exact List.count_pos_iff.mp this
  exact ⟨((List.perm_cons_erase m).symm.cons p).trans (List.perm_cons_erase h1).symm, m⟩
theorem raw_perm {a b : List Int} {s : Stp} (h : a.Perm b) : (rawBehind a s).Perm (rawBehind b s) := ((h.erase _).erase _).append_right _
theorem behind_perm {a b : List Int} {s : Stp} (h : a.Perm b) : behindOf a s = behindOf b s := desc_eq (raw_perm h)
/-! sums over the marks -/
def sumOf (f : Int → Int) (ns : List Int) : Int := (ns.map f).sum
theorem sumOf_perm {f : Int → Int} {a b : List Int} (h : a.Perm b) : sumOf f a = sumOf f b := by
  induction h with
  | nil => rfl
  | cons x _ ih =>
    unfold sumOf at ih ⊢
    rw [List.map_cons, List.map_cons, List.sum_cons, List.sum_cons, ih]
  | swap x y l =>
    unfold sumOf
    rw [List.map_cons, List.map_cons, List.map_cons, List.map_cons, List.sum_cons, List.sum_cons, List.sum_cons, List.sum_cons]
    omega
  | trans _ _ h1 h2 => exact h1.trans h2
theorem sumOf_cons (f : Int → Int) (x : Int) (ns : List Int) : sumOf f (x :: ns) = f x + sumOf f ns := by
  unfold sumOf
  rw [List.map_cons, List.sum_cons]
theorem sumOf_app (f : Int → Int) (a b : List Int) : sumOf f (a ++ b) = sumOf f a + sumOf f b := by
  unfold sumOf
  rw [List.map_append, List.sum_append]
theorem sumOf_raw {f : Int → Int} {ns : List Int} {s : Stp} (h : okStp ns s) : sumOf f (rawBehind ns s) = sumOf f ns - f s.at_ - f (if s.join then s.at_ + 1 else s.at_) + sumOf f (comingOf s) := by
  have p := sumOf_perm (f := f) (two_erase h).1
  rw [sumOf_cons, sumOf_cons] at p
  unfold rawBehind
  rw [sumOf_app]
  omega
def memI (p : Int) : Int := Mx.mem p.toNat
def wtI (p : Int) : Int := 6 + 3 * p - (if p = 0 then 1 else 0)
theorem memI_two {p : Int} (h : 0 ≤ p) : memI (p + 2) = memI p + memI (p + 1) := by
  unfold memI
  rw [show (p + 2).toNat = p.toNat + 2 by omega, show (p + 1).toNat = p.toNat + 1 by omega, Mx.mem_two]
theorem memI_val : memI 0 = 1 ∧ memI 1 = 2 ∧ memI 2 = 3 := by
  have a := Mx.mem_zero
  have b := Mx.mem_one
  have c : Mx.mem 2 = Mx.mem 0 + Mx.mem 1 := Mx.mem_two 0
  exact ⟨a, b, by show Mx.mem 2 = 3; omega⟩
theorem memI_behind {ns : List Int} {s : Stp} (h : okStp ns s) (hn : ∀ p ∈ ns, 0 ≤ p) : sumOf memI (rawBehind ns s) = sumOf memI ns := by
  rw [sumOf_raw h]
  have hp := hn _ h.1
  obtain ⟨v0, v1, v2⟩ := memI_val
  obtain ⟨j, p⟩ := s
  have hp : 0 ≤ p := hp
  have nil : sumOf memI [] = 0 := rfl
  unfold comingOf
  cases j with
  | true =>
    have g : sumOf memI ns - memI p - memI (p + 1) + sumOf memI [p + 2] = sumOf memI ns := by
      rw [sumOf_cons, nil, memI_two (p := p) hp]
      omega
    exact g
  | false =>
    show sumOf memI ns - memI p - memI p + sumOf memI (if p = 0 then [1] else if p = 1 then [2, 0] else [p + 1, p - 2]) = _
    by_cases e0 : p = 0
    · subst e0
      rw [if_pos rfl, sumOf_cons, nil]
      omega
    · rw [if_neg e0]
      by_cases e1 : p = 1
      · subst e1
        rw [if_pos rfl, sumOf_cons, sumOf_cons, nil]
        omega
      · rw [if_neg e1, sumOf_cons, sumOf_cons, nil]
        have a := memI_two (p := p - 2) (by omega)
        have b := memI_two (p := p - 1) (by omega)
        rw [show p - 2 + 2 = p by omega, show p - 2 + 1 = p - 1 by omega] at a
        rw [show p - 1 + 2 = p + 1 by omega, show p - 1 + 1 = p by omega] at b
        omega
theorem wtI_behind {ns : List Int} {s : Stp} (h : okStp ns s) (hn : ∀ p ∈ ns, 0 ≤ p) : sumOf wtI (rawBehind ns s) < sumOf wtI ns := by
  rw [sumOf_raw h]
  have hp := hn _ h.1
  obtain ⟨j, p⟩ := s
  have hp : 0 ≤ p := hp
  have nil : sumOf wtI [] = 0 := rfl
  have w0 : wtI 0 = 5 := rfl
  have w1 : wtI 1 = 9 := rfl
  have w2 : wtI 2 = 12 := rfl
  have wp : ∀ q : Int, q ≠ 0 → wtI q = 6 + 3 * q := fun q h => by unfold wtI; rw [if_neg h]; omega
  unfold comingOf
  cases j with
  | true =>
    show sumOf wtI ns - wtI p - wtI (p + 1) + sumOf wtI [p + 2] < _
    rw [sumOf_cons, nil, wp (p + 2) (by omega), wp (p + 1) (by omega)]
    by_cases e0 : p = 0
    · subst e0
      omega
    · rw [wp p e0]
      omega
  | false =>
    show sumOf wtI ns - wtI p - wtI p + sumOf wtI (if p = 0 then [1] else if p = 1 then [2, 0] else [p + 1, p - 2]) < _
    by_cases e0 : p = 0
    · subst e0
      rw [if_pos rfl, sumOf_cons, nil]
      omega
    · rw [if_neg e0]
      by_cases e1 : p = 1
      · subst e1
        rw [if_pos rfl, sumOf_cons, sumOf_cons, nil]
        omega
      · rw [if_neg e1, sumOf_cons, sumOf_cons, nil, wp p e0, wp (p + 1) (by omega)]
        by_cases e2 : p = 2
        · subst e2
          show _ - (6 + 3 * 2) - (6 + 3 * 2) + (6 + 3 * (2 + 1) + (wtI 0 + 0)) < _
          omega
        · rw [wp (p - 2) (by omega)]
          omega
theorem coming_nonneg {ns : List Int} {s : Stp} (h : okStp ns s) (hn : ∀ p ∈ ns, 0 ≤ p) : ∀ q ∈ comingOf s, 0 ≤ q ∧ q ≤ s.at_ + 2 := by
  have hp := hn _ h.1
  obtain ⟨j, p⟩ := s
  have hp : 0 ≤ p := hp
  intro q hq
  show 0 ≤ q ∧ q ≤ p + 2
  unfold comingOf at hq
  cases j with
  | true =>
    have : q = p + 2 := List.mem_singleton.mp hq
    omega
  | false =>
    have hq : q ∈ (if p = 0 then [1] else if p = 1 then [2, 0] else [p + 1, p - 2] : List Int) := hq
    split at hq
    · have := List.mem_singleton.mp hq
      omega
    · split at hq
      · rcases List.mem_cons.mp hq with e | e
        · omega
        · have := List.mem_singleton.mp e
          omega
      · rcases List.mem_cons.mp hq with e | e
        · omega
        · have := List.mem_singleton.mp e
          omega
theorem raw_mem {ns : List Int} {s : Stp} (h : okStp ns s) (hn : ∀ p ∈ ns, 0 ≤ p) : ∀ q ∈ rawBehind ns s, 0 ≤ q ∧ (q ∈ ns ∨ q ≤ s.at_ + 2) := fun q hq => by
  unfold rawBehind at hq
  rcases List.mem_append.mp hq with e | e
  · have := List.mem_of_mem_erase (List.mem_of_mem_erase e)
    exact ⟨hn q this, .inl this⟩
  · have := coming_nonneg h hn q e
    exact ⟨this.1, .inr this.2⟩
theorem coming_len (s : Stp) : (comingOf s).length ≤ 2 := by
  unfold comingOf
  split
  · simp
  · split
    · simp
    · split <;> simp
theorem raw_len {ns : List Int} {s : Stp} (h : okStp ns s) : (rawBehind ns s).length ≤ ns.length := by
  have p := (two_erase h).1.length_eq
  have := coming_len s
  rw [List.length_cons, List.length_cons] at p
  unfold rawBehind
  rw [List.length_append]
  omega
/-! ### the rules' readings -/
section
variable {K : PySem.W.Frag} {w : World} {σ : L2.St} {H : Hp} {te to ta tb : TE} {D : Ends} {tz : TS} {l : Addr} {ns : List Int} {k : Int}
theorem ev_count {a : Addr} (ho : Ev to σ H (.ref a)) (hs : SqL K H a (ns.map V.int)) (he : Ev te σ H (.int k)) : Ev (tBM K "list" (rCntI K) to (tCons te tNil)) σ H (.int (ns.count k : Nat)) := fun H1 e Q q =>
  ho H1 e _ fun H2 e2 => ⟨Or.inl ⟨rfl, _, ex_l (e.trans e2) hs⟩, he H2 (e.trans e2) _ fun H3 e3 => ⟨a, ns, k, rfl, rfl, ex_l ((e.trans e2).trans e3) hs, q H3 (e2.trans e3)⟩⟩
theorem s_remove (hl : H l = some (.lst (ns.map V.int))) (ho : Ev to σ H (.ref l)) (he : Ev te σ H (.int k)) (hk : k ∈ ns) (q : ∀ H1, Ex H H1 → D.nx σ (upd H1 l (.lst ((ns.erase k).map V.int)))) :
    tDrop (tBM K "list" rRemI to (tCons te tNil)) D σ H := ho H (Ex.refl H) _ fun H1 e1 => ⟨Or.inl ⟨rfl, _, SqL.of (e1 l _ hl)⟩, he H1 e1 _ fun H2 e2 => by
  have hi := List.idxOf_lt_length_iff.mpr hk
  refine ⟨l, ns, k, ns.idxOf k, rfl, rfl, e2 l _ (e1 l _ hl), ?_, fun m hm hq => ?_, ?_⟩
  · rw [List.getElem?_eq_getElem hi, List.getElem_idxOf]
  · have hm2 : m < ns.length := by omega
    rw [List.getElem?_eq_getElem hm2] at hq
    have := List.not_of_lt_findIdx (p := (· == k)) (xs := ns) (i := m) hm
    have e := Option.some.inj hq
    have h2 : (ns[m] == k) = true := by rw [e]; exact beq_self_eq_true k
    rw [h2] at this
    cases this
  · rw [← List.erase_eq_eraseIdx_of_idxOf (a := k) rfl]
    exact q H2 (e1.trans e2)⟩
theorem q_remove (hl : H l = some (.lst (ns.map V.int))) (ho : Ev to σ H (.ref l)) (he : Ev te σ H (.int k)) (hk : k ∈ ns) (q : ∀ H1, Ex H H1 → tz D σ (upd H1 l (.lst ((ns.erase k).map V.int)))) :
    tSeq (tDrop (tBM K "list" rRemI to (tCons te tNil))) tz D σ H := s_remove (D := { D with nx := tz D }) hl ho he hk q
theorem q_clear {xs : List V} (hl : H l = some (.lst xs)) (ho : Ev to σ H (.ref l)) (q : ∀ H1, Ex H H1 → tz D σ (upd H1 l (.lst []))) :
    tSeq (tDrop (tBM0 K "list" rClear to)) tz D σ H := ho H (Ex.refl H) _ fun H1 e1 => ⟨Or.inl ⟨rfl, _, SqL.of (e1 l _ hl)⟩, l, xs, rfl, rfl, e1 l _ hl, q H1 e1⟩
theorem el_sortedRevL (h : EvL te σ H (ns.map V.int)) (hb : ∀ H1, Ex H H1 → Ev tb σ H1 (.bl true)) : EvL (tCKw (rSortedKw K true [.bl true]) (tCons te tNil) (tCons tb tNil)) σ H ((desc ns).map V.int) := fun H1 e Q q =>
  h H1 e _ fun p H2 _ e2 hp => hb H2 (e.trans e2) H2 (Ex.refl _) _ fun H3 e3 => ⟨p, ns, rfl, rfl, SqL.of (e3 _ _ hp), fun ns' r hp2 ho hr => by
    rw [desc_uniq (hp2.trans (desc_perm ns).symm) ho (desc_ge ns)]
    exact q r _ (fresh_back (e2.trans e3) hr) ((e2.trans e3).trans (Ex.new hr)) upd_same⟩
theorem el_sortedRev {a : Addr} (h : Ev te σ H (.ref a)) (hs : SqL K H a (ns.map V.int)) (hb : ∀ H1, Ex H H1 → Ev tb σ H1 (.bl true)) : EvL (tCKw (rSortedKw K true [.bl true]) (tCons te tNil) (tCons tb tNil)) σ H ((desc ns).map V.int) := fun H1 e Q q =>
  h H1 e _ fun H2 e2 => hb H2 (e.trans e2) H2 (Ex.refl _) _ fun H3 e3 => ⟨a, ns, rfl, rfl, ex_l ((e.trans e2).trans e3) hs, fun ns' r hp2 ho hr => by
    rw [desc_uniq (hp2.trans (desc_perm ns).symm) ho (desc_ge ns)]
    exact q r _ (fresh_back (e2.trans e3) hr) ((e2.trans e3).trans (Ex.new hr)) upd_same⟩
theorem el_sortedSet {a : Addr} (h : Ev te σ H (.ref a)) (hs : SqL K H a (ns.map V.int)) (hz : ns.length ≤ 1000) : EvL (tCB (rSortedSetA w) (tCons (tCB (rSetI2 K w) (tCons te tNil)) tNil)) σ H ((dset ns).map V.int) := fun H1 e Q q =>
  h H1 e _ fun H2 e2 => ⟨a, ns, rfl, ex_l (e.trans e2) hs, hz, fun S n hS => ⟨S, _, n, rfl, upd_same, fun out r ho hm hr => by
    rw [lt_uniq ho (dset_lt ns) fun k => (hm k).trans (by rw [decide_eq_true_eq, dset_mem])]
    exact q r _ (fresh_back e2 (fresh_back (Ex.new hS) hr)) ((e2.trans (Ex.new hS)).trans (Ex.new hr)) upd_same⟩⟩
theorem inV_int (k : Int) : ∀ ns : List Int, inV (.int k) (ns.map V.int) = decide (k ∈ ns)
  | [] => rfl
  | n :: ns => by
    show (eqV (.int n) (.int k) || inV (.int k) (ns.map V.int)) = _
    rw [inV_int k ns]
    have : eqV (.int n) (.int k) = decide (k = n) := by
      rw [Bool.eq_iff_iff]
      simp only [eqV, beq_iff_eq, decide_eq_true_eq]
      exact eq_comm
    rw [this, ← Bool.decide_or]
    exact decide_eq_decide.mpr List.mem_cons.symm
theorem rv_inI {a : Addr} (hs : SqL K H a (ns.map V.int)) : RV (rIn K false) (.int k) (.ref a) H (.bl (decide (k ∈ ns))) := by
  have := rv_inL (neg := false) (x := .int k) hs rfl (by rw [List.all_map]; exact List.all_eq_true.mpr fun _ _ => rfl)
  rw [inV_int] at this
  exact this
theorem rv_notinI {a : Addr} (hs : SqL K H a (ns.map V.int)) : RV (rIn K true) (.int k) (.ref a) H (.bl (!decide (k ∈ ns))) := by
  have := rv_inL (neg := true) (x := .int k) hs rfl (by rw [List.all_map]; exact List.all_eq_true.mpr fun _ _ => rfl)
  rw [inV_int] at this
  exact this
end
/-! ### values that are lists of steps -/
section
variable {K : PySem.W.Frag} {σ : L2.St} {H H' : Hp} {te to ta tb : TE} {D : Ends} {tz : TS} {v : V} {s : Stp} {ss ts : List Stp}
def RetSt (ss : List Stp) (H : Hp) (Q : VK) : Prop := ∀ p vs H2, H p = none → Ex H H2 → H2 p = some (.lst vs) → StAll H2 vs ss → Q (.ref p) H2
def EvSt (te : TE) (σ : L2.St) (H : Hp) (ss : List Stp) : Prop := ∀ H1, Ex H H1 → ∀ Q : VK, (∀ p vs H2, H1 p = none → Ex H1 H2 → H2 p = some (.lst vs) → StAll H2 vs ss → Q (.ref p) H2) → te σ H1 Q
theorem est_call {sp : Sp} {ta : TA} {vs : List V} {E : XK} (h : EvA ta σ H vs) (hs : ∀ H1, Ex H H1 → ∀ Q : VK, RetSt ss H1 Q → ∀ E : XK, sp vs H1 Q E) : EvSt (tCall sp [] E ta) σ H ss := fun H1 e Q q =>
  h H1 e _ fun H2 e2 => by
    show sp (vs ++ []) H2 Q E
    rw [List.append_nil]
    exact hs H2 (e.trans e2) Q (fun p us H3 hp e3 h3 g => q p us H3 (fresh_back e2 hp) (e2.trans e3) h3 g) E
theorem q_asgSt {i : Nat} (h : EvSt te σ H ss) (k : ∀ p vs H1, H p = none → Ex H H1 → H1 p = some (.lst vs) → StAll H1 vs ss → tz D (σ.set i (some (.ref p))) H1) : tSeq (tAsg te (gName i)) tz D σ H := h H (Ex.refl H) _ k
theorem s_asgSt {i : Nat} (h : EvSt te σ H ss) (k : ∀ p vs H1, H p = none → Ex H H1 → H1 p = some (.lst vs) → StAll H1 vs ss → D.nx (σ.set i (some (.ref p))) H1) : tAsg te (gName i) D σ H := h H (Ex.refl H) _ k
theorem evh_St (h : EvSt te σ H ss) : EvH K te σ H ss := fun H1 e Q q => h H1 e _ fun p vs H2 _ e2 hp g => q _ H2 e2 (hd_lst (.of hp) g.hd)
theorem evh_stv {p : Addr} {vs : List V} (h : Ev te σ H (.ref p)) (hp : H p = some (.lst vs)) (g : StAll H vs ss) : EvH K te σ H ss := evh_v h (hd_lst (.of hp) g.hd)
theorem any_eqv {α : Type} [DecidableEq α] [Datum α] (x : α) : ∀ xs : List α, ((xs.map Datum.toD).any fun z => PyData.eqv z (Datum.toD x)) = decide (x ∈ xs)
  | [] => rfl
  | y :: ys => by
    rw [List.map_cons, List.any_cons, any_eqv x ys, Datum.eqv, ← Bool.decide_or]
    exact decide_eq_decide.mpr (by rw [List.mem_cons, eq_comm])
theorem ev_notinSt (ha : Ev ta σ H v) (hv : TupAt H v s) (hb : EvSt tb σ H ss) : Ev (tOp (rNotInD K) ta tb) σ H (.bl (!decide (s ∈ ss))) := fun H1 e Q q =>
  ha H1 e _ fun H2 e2 => hb H2 (e.trans e2) _ fun p vs H3 _ e3 hp g => ⟨Datum.toD s, ss.map Datum.toD, (hv.mono ((e.trans e2).trans e3)).hd, .lst (SqL.of hp) g.hd, shaped_of (by decide) s, shaped_of (α := List Stp) (by decide) ss, by
    rw [any_eqv]
    exact q H3 (e2.trans e3)⟩
theorem ev_st0 (ha : Ev ta σ H v) (hv : TupAt H v s) : Ev (tOp (rIxT K) ta (tC (.int 0))) σ H (.str (stw s.join)) := by
  obtain ⟨t, rfl, h⟩ := hv
  exact ev_op ha ev_c (rv_ixT (SqT.of h) (atI_nat (j := 0) rfl))
theorem ev_st1 (ha : Ev ta σ H v) (hv : TupAt H v s) : Ev (tOp (rIxT K) ta (tC (.int 1))) σ H (.int s.at_) := by
  obtain ⟨t, rfl, h⟩ := hv
  exact ev_op ha ev_c (rv_ixT (SqT.of h) (atI_nat (j := 1) rfl))
theorem et_join (ha : Ev ta σ H v) (hv : TupAt H v s) : EvT (tTest (tOp rEq (tOp (rIxT K) ta (tC (.int 0))) (tC (.str "join")))) σ H s.join := by
  refine et_eq (et_test (ev_op (ev_st0 ha hv) ev_c (rv_eq rfl))) ?_
  cases s.join <;> decide +kernel
theorem ev_lenT {p : Addr} {xs : List V} (ha : Ev ta σ H (.ref p)) (h : H p = some (.tup xs)) : Ev (tCB (rLenS K) (tCons ta tNil)) σ H (.int (xs.length : Int)) := fun H1 e Q q =>
  ha H1 e _ fun H2 e2 => ⟨p, xs, rfl, Or.inr (SqT.of (e2 _ _ (e _ _ h))), q H2 e2⟩
theorem el_mapNI {tl : TE} {ns : List Int} {j : Nat} {vs : List Nat} (g : Int → V) (h : EvL tl σ H (ns.map V.int)) (hz : ns.length ≤ 40000) (hw : ∀ x, wipe ((wipe σ vs).set j (some x)) vs = wipe σ vs)
    (he : ∀ n H1, Ex H H1 → n ∈ ns → Ev te ((wipe σ vs).set j (some (.int n))) H1 (g n)) : EvL (tLc (iList K tl) (gName j) tYes te vs) σ H (ns.map g) := by
  have q := el_lcNL (K := K) (tl := tl) (te := te) (t := tYes) (j := j) (vs := vs) (xs := ns.map V.int) (fun _ => true) (fun i => g (ns.getD i 0)) h (by rw [List.length_map]; exact hz) hw (fun _ _ _ _ _ => et_yes) (fun i x H1 e hi _ => by
    obtain ⟨n, hn, rfl⟩ := int_mem hi
    rw [List.getD_eq_getElem?_getD, hn]
    exact he n H1 e (List.mem_of_getElem? hn))
  rw [List.length_map, given_all ns g _ (fun i x hi => by rw [List.getD_eq_getElem?_getD, hi]; rfl)] at q
  exact q
theorem el_mapC {tl : TE} {a : Addr} {xs : List V} {j : Nat} {vs : List Nat} (z : V) (h : Ev tl σ H (.ref a)) (hx : SqL K H a xs) (hz : xs.length ≤ 40000) (hw : ∀ x, wipe ((wipe σ vs).set j (some x)) vs = wipe σ vs)
    (he : ∀ x H1, Ex H H1 → x ∈ xs → Ev te ((wipe σ vs).set j (some x)) H1 z) : EvL (tLc (iList K tl) (gName j) tYes te vs) σ H (xs.map fun _ => z) := by
  have q := el_lcL (K := K) (tl := tl) (te := te) (t := tYes) (j := j) (vs := vs) (xs := xs) (fun _ => true) (fun _ => z) h hx hz hw (fun _ _ _ _ _ => et_yes) (fun i x H1 e hi _ => he x H1 e (List.mem_of_getElem? hi))
  rw [given_all xs (fun _ => z) _ (fun i x hi => rfl)] at q
  exact q
theorem map_trues {α : Type} (xs : List α) : (xs.map fun _ => V.bl true) = (xs.map fun _ => true).map V.bl ∧ (xs.map fun _ => true).all id = true := by
  refine ⟨by rw [List.map_map]; rfl, ?_⟩
  rw [List.all_map]
  exact List.all_eq_true.mpr fun _ _ => rfl
theorem ev_allC {xs : List V} (h : EvL te σ H (xs.map fun _ => V.bl true)) : Ev (tCB (rAll K) (tCons te tNil)) σ H (.bl true) := by
  have e := map_trues xs
  rw [e.1] at h
  have g := ev_all (K := K) h
  rw [e.2] at g
  exact g
theorem el_slN {tl th : TO} {xs : List V} {lo hi : Option Int} (h : EvL te σ H xs) (h1 : ∀ H1, Ex H H1 → EvO tl σ H1 lo) (h2 : ∀ H1, Ex H H1 → EvO th σ H1 hi) : EvL (tSl (rSlL K) te tl th) σ H (cutV xs lo hi) := fun H1 e Q q =>
  h H1 e _ fun p H2 np e2 hp => el_sl (K := K) (te := fun _ H Q => Q (.ref p) H) (fun H3 e3 Q q => q H3 (Ex.refl _)) (h1 H2 (e.trans e2)) (h2 H2 (e.trans e2)) (SqL.of hp) H2 (Ex.refl _) Q fun r H3 hr e3 h3 => q r H3 (fresh_back e2 hr) (e2.trans e3) h3
theorem cutV_mem {xs : List V} {lo hi : Option Int} {x : V} (h : x ∈ cutV xs lo hi) : x ∈ xs := List.mem_of_mem_drop (List.mem_of_mem_take h)
theorem cutV_len {xs : List V} {lo hi : Option Int} : (cutV xs lo hi).length ≤ xs.length := by
  unfold cutV
  rw [List.length_take, List.length_drop]
  omega
theorem stAll_mem {vs : List V} {x : V} (h : StAll H vs ss) (hx : x ∈ vs) : ∃ s ∈ ss, TupAt H x s := by
  obtain ⟨i, hi⟩ := List.mem_iff_getElem?.mp hx
  obtain ⟨s, h1, h2⟩ := h.get' hi
  exact ⟨s, List.mem_of_getElem? h1, h2⟩
end
/-! ### a heap settled, step by step -/
def pickAt (pk : List Int) (k n : Nat) : Nat := if k < pk.length then (pk.getD k 0 % (n : Int)).toNat else 0
def Good (pk : List Int) : Nat → List Int → List Stp → Prop
  | _, _, [] => True
  | k, ns, s :: ss => (stepsOf ns)[pickAt pk k (stepsOf ns).length]? = some s ∧ Good pk (k + 1) (rawBehind ns s) ss
theorem good_snoc {pk : List Int} {s : Stp} : ∀ {ss : List Stp} {k : Nat} {ns : List Int}, Good pk k ns ss → (stepsOf (ss.foldl rawBehind ns))[pickAt pk (k + ss.length) (stepsOf (ss.foldl rawBehind ns)).length]? = some s → Good pk k ns (ss ++ [s])
  | [], k, ns, _, h => ⟨h, trivial⟩
  | x :: ss, k, ns, ⟨h1, h2⟩, h => ⟨h1, good_snoc h2 (by
    rw [List.length_cons] at h
    rw [show k + 1 + ss.length = k + (ss.length + 1) by omega]
    exact h)⟩
theorem good_at {pk : List Int} {s : Stp} : ∀ {ss : List Stp} {k : Nat} {ns : List Int} {i : Nat}, Good pk k ns ss → ss[i]? = some s → (stepsOf ((ss.take i).foldl rawBehind ns))[pickAt pk (k + i) (stepsOf ((ss.take i).foldl rawBehind ns)).length]? = some s
  | [], _, _, _, _, e => by simp at e
  | x :: ss, k, ns, 0, ⟨h1, _⟩, e => by
    have : x = s := by simpa using e
    exact this ▸ h1
  | x :: ss, k, ns, i + 1, ⟨_, h2⟩, e => by
    have := good_at h2 (show ss[i]? = some s by simpa using e)
    rw [show k + 1 + i = k + (i + 1) by omega] at this
    exact this
def Keeps (ns ms : List Int) : Prop := (∀ p ∈ ms, 0 ≤ p) ∧ ms.length ≤ ns.length ∧ sumOf memI ms = sumOf memI ns
theorem keeps_raw {ns ms : List Int} {s : Stp} (h : Keeps ns ms) (ok : okStp ms s) : Keeps ns (rawBehind ms s) ∧ sumOf wtI (rawBehind ms s) < sumOf wtI ms :=
  ⟨⟨fun p hp => (raw_mem ok h.1 p hp).1, Nat.le_trans (raw_len ok) h.2.1, (memI_behind ok h.1).trans h.2.2⟩, wtI_behind ok h.1⟩
theorem good_keeps {pk : List Int} : ∀ {ss : List Stp} {k : Nat} {ms : List Int} {ns : List Int}, Good pk k ms ss → Keeps ns ms → Keeps ns (ss.foldl rawBehind ms) ∧ sumOf wtI (ss.foldl rawBehind ms) + ss.length ≤ sumOf wtI ms
  | [], _, ms, ns, _, h => ⟨h, by show sumOf wtI ms + ((0 : Nat) : Int) ≤ _; omega⟩
  | s :: ss, k, ms, ns, ⟨h1, h2⟩, h => by
    have ok := mem_steps.mp (List.mem_of_getElem? h1)
    obtain ⟨g1, g2⟩ := keeps_raw h ok
    obtain ⟨f1, f2⟩ := good_keeps h2 g1
    refine ⟨f1, ?_⟩
    show sumOf wtI (ss.foldl rawBehind (rawBehind ms s)) + _ ≤ _
    rw [List.length_cons]
    omega
theorem good_take {pk : List Int} : ∀ {ss : List Stp} {k : Nat} {ms : List Int} (i : Nat), Good pk k ms ss → Good pk k ms (ss.take i)
  | [], _, _, _, _ => by simp [Good]
  | _ :: _, _, _, 0, _ => trivial
  | _ :: _, _, _, i + 1, ⟨h1, h2⟩ => ⟨h1, good_take i h2⟩
theorem wtI_nonneg : ∀ {ms : List Int}, (∀ p ∈ ms, 0 ≤ p) → 0 ≤ sumOf wtI ms
  | [], _ => Int.le_refl _
  | m :: ms, h => by
    rw [sumOf_cons]
    have := wtI_nonneg fun p hp => h p (List.mem_cons_of_mem _ hp)
    have h0 := h m List.mem_cons_self
    have : 0 ≤ wtI m := by
      unfold wtI
      split <;> omega
    omega
theorem memI_nonneg (p : Int) : 0 < memI p := Mx.mem_pos1 _
theorem sum_memI_nonneg : ∀ ms : List Int, 0 ≤ sumOf memI ms
  | [] => Int.le_refl _
  | m :: ms => by
    rw [sumOf_cons]
    have := sum_memI_nonneg ms
    have := memI_nonneg m
    omega
/-- no step: a form -/
theorem no_steps : ∀ {ms : List Int}, ms.Pairwise (· ≥ ·) → (∀ p ∈ ms, 0 ≤ p) → stepsOf ms = [] → ∃ l, ms = Mx.nat l ∧ Mx.Fm l
  | ms, hd, h0, hs => by
    have no : ∀ s, ¬ okStp ms s := fun s hs2 => by
      have := mem_steps.mpr hs2
      rw [hs] at this
      cases this
    have pw : ms.Pairwise fun a b => b + 2 ≤ a := by
      rw [List.pairwise_iff_getElem] at hd ⊢
      intro i j hi hj hij
      have h1 := hd i j hi hj hij
      have mi : ms[i] ∈ ms := List.getElem_mem hi
      have mj : ms[j] ∈ ms := List.getElem_mem hj
      have n1 : ms[i] ≠ ms[j] := fun e => no ⟨false, ms[i]⟩ ⟨mi, .inr ⟨rfl, by
        show 1 < ms.count ms[i]
        have hsub : [ms[i], ms[j]].Sublist ms := by
          have h2 := List.pairwise_iff_getElem (R := fun _ _ : Int => True) (l := ms)
          have a := List.drop_eq_getElem_cons hi
          have s1 : [ms[j]].Sublist (ms.drop (i + 1)) := List.singleton_sublist.mpr (by
            rw [List.mem_iff_getElem]
            exact ⟨j - (i + 1), by rw [List.length_drop]; omega, by rw [List.getElem_drop]; congr 1; omega⟩)
          have s2 : (ms[i] :: [ms[j]]).Sublist (ms[i] :: ms.drop (i + 1)) := s1.cons_cons _
          rw [← a] at s2
          exact s2.trans (List.drop_sublist i ms)
        have := hsub.count_le ms[i]
        rw [← e] at this
        have c2 : [ms[i], ms[i]].count ms[i] = 2 := by simp
        omega⟩⟩
      have n2 : ms[i] ≠ ms[j] + 1 := fun e => no ⟨true, ms[j]⟩ ⟨mj, .inl ⟨rfl, by show ms[j] + 1 ∈ ms; rw [← e]; exact mi⟩⟩
      omega
    refine ⟨ms.map Int.toNat, ?_, List.pairwise_map.mpr (pw.imp_of_mem fun {a b} ha hb h => ?_)⟩
    · unfold Mx.nat
      rw [List.map_map]
      symm
      have : ms.map ((fun p : Nat => (p : Int)) ∘ Int.toNat) = ms.map id := List.map_congr_left fun p hp => by
        have := h0 p hp
        show ((p.toNat : Nat) : Int) = p
        omega
      rw [this, List.map_id]
    · have := h0 a ha
      have := h0 b hb
      omega
theorem memI_nat (l : List Nat) : sumOf memI (Mx.nat l) = Mx.val l := by
  unfold sumOf memI Mx.nat Mx.val
  rw [List.map_map]
  rfl
theorem val_ge : ∀ {l : List Nat} {p : Nat}, p ∈ l → Mx.mem p ≤ Mx.val l
  | a :: l, p, h => by
    rw [Mx.val_cons]
    have := Mx.val_nonneg l
    have := Mx.mem_pos1 a
    rcases List.mem_cons.mp h with e | e
    · rw [e]; omega
    · have := val_ge e
      omega
theorem s_callA {σ : L2.St} {H : Hp} {ta : TA} {sp : Sp} {dvs vs : List V} {E : XK} {D : Ends} {i : Nat} (h : EvA ta σ H vs) (k : ∀ H1, Ex H H1 → sp (vs ++ dvs) H1 (fun v H2 => D.nx (σ.set i (some v)) H2) E) : tAsg (tCall sp dvs E ta) (gName i) D σ H := h H (Ex.refl H) _ fun H1 e1 => k H1 e1
theorem sumOf_le {f : Int → Int} {c : Int} : ∀ {ns : List Int}, (∀ p ∈ ns, f p ≤ c) → sumOf f ns ≤ c * ns.length
  | [], _ => by show (0 : Int) ≤ c * 0; omega
  | n :: ns, h => by
    rw [sumOf_cons, List.length_cons]
    have := h n List.mem_cons_self
    have := sumOf_le fun p hp => h p (List.mem_cons_of_mem n hp)
    have e : c * ((ns.length + 1 : Nat) : Int) = c * ns.length + c := by rw [Int.natCast_add, Int.mul_add]; omega
    omega
theorem memI_mono {p q : Int} (h : p ≤ q) : memI p ≤ memI q := Mx.mem_mono (by omega)
end Z

set_option Elab.async false
set_option linter.all false
set_option maxRecDepth 100000
set_option maxHeartbeats 4000000
/-! Settled from above; lent: plain laws and readings for forms added and taken. -/
namespace Z
open PySem PySem.Spec PyProof.Rows L2 Evl
open PySem.W (Datum)
section
variable {K : PySem.W.Frag} {σ : L2.St} {H : Hp} {ta tb te : TE} {D : Ends} {tu tz : TS}
theorem q_zipVL {a : Addr} {i j : Nat} {xs ys : List V} (h : Ev ta σ H (.ref a)) (hx : SqL K H a xs) (h2 : EvL tb σ H ys) (Pv : Addr → Nat → L2.St → Hp → Prop) (h0 : ∀ b H1, H b = none → Ex H H1 → H1 b = some (.lst ys) → Pv b 0 σ H1)
    (hl : ∀ b k σ' H', Pv b k σ' H' → SqL K H' a xs ∧ SqL K H' b ys)
    (hs : ∀ b k x y σ' H', xs[k]? = some x → ys[k]? = some y → Pv b k σ' H' → ∀ H1, Ex H' H1 → tu { D with nx := Pv b (k + 1), ct := Pv b (k + 1), bk := tz D } ((σ'.set i (some x)).set j (some y)) H1)
    (hd : ∀ b σ' H', Pv b (min xs.length ys.length) σ' H' → tz D σ' H') : tSeq (tFor (iZip K (tCons ta (tCons tb tNil))) (gTup K 2 (gCons (gName i) (gCons (gName j) gNil))) tu) tz D σ H :=
  h H (Ex.refl H) _ fun H1 e1 => h2 H1 e1 _ fun b H2 nb e2 hb => ⟨a, b, xs, ys, rfl, ex_l (e1.trans e2) hx, SqL.of hb, L2.for_it (D := { D with nx := tz D }) (L2.walk_zip (xs := xs) (ys := ys) rfl) (Pv b) (h0 b H2 (fresh_back e1 nb) (e1.trans e2) hb) (fun k σ' H' _ p => hl b k σ' H' p) (fun k x σ' H' H'' hk p y => by
    obtain ⟨T, u, v, rfl, hT, rfl, hu, hv⟩ := y
    exact ⟨T, [u, v], rfl, SqT.of upd_same, rfl, u, [v], rfl, v, [], rfl, rfl, hs b k u v σ' H' hu hv p _ (Ex.new hT)⟩) (hd b)⟩
theorem cut_tail (ms : List Int) : cutI ms (some 1) none = ms.drop 1 := by
  unfold cutI
  have e1 : HT.sIx ms.length 0 (some 1) = min 1 ms.length := HT.sIx_nat ms.length 0 1
  have e2 : HT.sIx ms.length ms.length none = ms.length := rfl
  rw [e1, e2]
  cases ms with
  | nil => rfl
  | cons m ms =>
    rw [show min 1 (m :: ms).length = 1 by rw [List.length_cons]; omega]
    exact List.take_of_length_le (by rw [List.length_drop]; exact Nat.le_refl _)
theorem q_appBig {l : Addr} {xs : List V} {v : V} (hl : H l = some (.lst xs)) (ha : Ev ta σ H (.ref l)) (h : Ev te σ H v) (hz : xs.length < 16000000) (k : ∀ H1, Ex H H1 → tz D σ (upd H1 l (.lst (xs ++ [v])))) :
    tSeq (tDrop (tBM K "list" rAppend ta (tCons te tNil))) tz D σ H := ha H (Ex.refl H) _ fun H1 e1 =>
  ⟨Or.inl ⟨rfl, xs, sq_of (e1 l _ hl)⟩, h H1 e1 _ fun H2 e2 => ⟨l, xs, v, rfl, rfl, e2 l _ (e1 l _ hl), by have := sizeLine_eq; omega, k H2 (e1.trans e2)⟩⟩
end
/-! ### the step nearest to the greatest mark -/
def hiStep : List Int → Option Stp
  | a :: b :: r => if a = b then some ⟨false, a⟩ else if a = b + 1 then some ⟨true, b⟩ else hiStep (b :: r)
  | _ => none
theorem hiStep_two (a b : Int) (r : List Int) : hiStep (a :: b :: r) = if a = b then some ⟨false, a⟩ else if a = b + 1 then some ⟨true, b⟩ else hiStep (b :: r) := by rw [hiStep]
theorem hi_ok : ∀ {ms : List Int} {s : Stp}, hiStep ms = some s → okStp ms s
  | [], _, h => by cases h
  | [_], _, h => by cases h
  | a :: b :: r, s, h => by
    unfold hiStep at h
    split at h
    · rename_i e
      have := Option.some.inj h
      subst this
      subst e
      exact ⟨List.mem_cons_self, .inr ⟨rfl, by
        show 1 < (a :: a :: r).count a
        rw [List.count_cons_self, List.count_cons_self]
        omega⟩⟩
    · split at h
      · rename_i e
        have := Option.some.inj h
        subst this
        exact ⟨by simp, .inl ⟨rfl, by show b + 1 ∈ a :: b :: r; rw [← e]; exact List.mem_cons_self⟩⟩
      · obtain ⟨h1, h2⟩ := hi_ok h
        refine ⟨List.mem_cons_of_mem _ h1, ?_⟩
        rcases h2 with ⟨g1, g2⟩ | ⟨g1, g2⟩
        · exact .inl ⟨g1, List.mem_cons_of_mem _ g2⟩
        · exact .inr ⟨g1, Nat.lt_of_lt_of_le g2 (List.count_le_count_cons ..)⟩
theorem hi_none : ∀ {ms : List Int}, hiStep ms = none → ms.Pairwise (· ≥ ·) → ms.Pairwise fun a b => b + 2 ≤ a
  | [], _, _ => List.Pairwise.nil
  | [a], _, _ => List.pairwise_singleton _ _
  | a :: b :: r, h, hd => by
    unfold hiStep at h
    obtain ⟨d1, d2⟩ := List.pairwise_cons.mp hd
    split at h
    · cases h
    · split at h
      · cases h
      · have ih := hi_none h d2
        have hb := d1 b List.mem_cons_self
        have ab : b + 2 ≤ a := by omega
        refine List.pairwise_cons.mpr ⟨fun x hx => ?_, ih⟩
        rcases List.mem_cons.mp hx with e | e
        · omega
        · have := (List.pairwise_cons.mp ih).1 x e
          omega
theorem fall_form {ms : List Int} (pw : ms.Pairwise fun a b => b + 2 ≤ a) (h0 : ∀ p ∈ ms, 0 ≤ p) : ∃ l, ms = Mx.nat l ∧ Mx.Fm l := by
  refine ⟨ms.map Int.toNat, ?_, List.pairwise_map.mpr (pw.imp_of_mem fun {a b} ha hb h => ?_)⟩
  · unfold Mx.nat
    rw [List.map_map]
    symm
    have : ms.map ((fun p : Nat => (p : Int)) ∘ Int.toNat) = ms.map id := List.map_congr_left fun p hp => by
      have := h0 p hp
      show ((p.toNat : Nat) : Int) = p
      omega
    rw [this, List.map_id]
  · have := h0 a ha
    have := h0 b hb
    omega
/-! ### rows of steps that can be done -/
def Led : List Int → List Stp → Prop
  | _, [] => True
  | ns, s :: ss => okStp ns s ∧ Led (rawBehind ns s) ss
theorem okStp_perm {a b : List Int} {s : Stp} (h : a.Perm b) (ok : okStp a s) : okStp b s := mem_steps.mp (stepsOf_perm h ▸ mem_steps.mpr ok)
theorem led_perm : ∀ {ss : List Stp} {a b : List Int}, a.Perm b → Led a ss → Led b ss
  | [], _, _, _, _ => trivial
  | _ :: _, _, _, h, ⟨h1, h2⟩ => ⟨okStp_perm h h1, led_perm (raw_perm h) h2⟩
theorem fold_perm : ∀ {ss : List Stp} {a b : List Int}, a.Perm b → (ss.foldl rawBehind a).Perm (ss.foldl rawBehind b)
  | [], _, _, h => h
  | _ :: ss, _, _, h => fold_perm (ss := ss) (raw_perm h)
theorem led_snoc {s : Stp} : ∀ {ss : List Stp} {ns : List Int}, Led ns ss → okStp (ss.foldl rawBehind ns) s → Led ns (ss ++ [s])
  | [], ns, _, h => ⟨h, trivial⟩
  | x :: ss, ns, ⟨h1, h2⟩, h => ⟨h1, led_snoc h2 h⟩
theorem led_at {s : Stp} : ∀ {ss : List Stp} {ns : List Int} {i : Nat}, Led ns ss → ss[i]? = some s → okStp ((ss.take i).foldl rawBehind ns) s
  | [], _, _, _, e => by simp at e
  | x :: ss, ns, 0, ⟨h1, _⟩, e => by
    have : x = s := by simpa using e
    exact this ▸ h1
  | x :: ss, ns, i + 1, ⟨_, h2⟩, e => by
    show okStp ((ss.take i).foldl rawBehind (rawBehind ns x)) s
    exact led_at h2 (by simpa using e)
theorem led_take : ∀ {ss : List Stp} {ms : List Int} (i : Nat), Led ms ss → Led ms (ss.take i)
  | [], _, _, _ => by simp [Led]
  | _ :: _, _, 0, _ => trivial
  | _ :: _, _, i + 1, ⟨h1, h2⟩ => ⟨h1, led_take i h2⟩
theorem led_keeps : ∀ {ss : List Stp} {ms ns : List Int}, Led ms ss → Keeps ns ms → Keeps ns (ss.foldl rawBehind ms) ∧ sumOf wtI (ss.foldl rawBehind ms) + ss.length ≤ sumOf wtI ms
  | [], ms, ns, _, h => ⟨h, by show sumOf wtI ms + ((0 : Nat) : Int) ≤ _; omega⟩
  | s :: ss, ms, ns, ⟨ok, h2⟩, h => by
    obtain ⟨g1, g2⟩ := keeps_raw h ok
    obtain ⟨f1, f2⟩ := led_keeps h2 g1
    refine ⟨f1, ?_⟩
    show sumOf wtI (ss.foldl rawBehind (rawBehind ms s)) + _ ≤ _
    rw [List.length_cons]
    omega
/-- what a def that may find a step gives back -/
def HiAt (o : Option Stp) (H : Hp) (x : V) : Prop := (o = none ∧ x = .non) ∨ ∃ s, o = some s ∧ TupAt H x s
theorem HiAt.mono {o : Option Stp} {H H' : Hp} {x : V} (e : Ex H H') (h : HiAt o H x) : HiAt o H' x := by
  rcases h with h | ⟨s, h1, h2⟩
  · exact .inl h
  · exact .inr ⟨s, h1, h2.mono e⟩
def RetHi (o : Option Stp) (H : Hp) (Q : VK) : Prop := ∀ x H2, Ex H H2 → HiAt o H2 x → Q x H2
/-! ### marks opened -/
def openOf (p : Int) : List Int := if p = 1 then [0, 0] else [p - 1, p - 2]
def openRaw (ns : List Int) (p : Int) : List Int := ns.erase p ++ openOf p
def OpLed : List Int → List Int → Prop
  | _, [] => True
  | ns, p :: ps => (1 ≤ p ∧ p ∈ ns) ∧ OpLed (openRaw ns p) ps
theorem open_perm {a b : List Int} {p : Int} (h : a.Perm b) : (openRaw a p).Perm (openRaw b p) := (h.erase p).append_right _
theorem opled_snoc {p : Int} : ∀ {ps ns : List Int}, OpLed ns ps → 1 ≤ p → p ∈ ps.foldl openRaw ns → OpLed ns (ps ++ [p])
  | [], ns, _, h1, h2 => ⟨⟨h1, h2⟩, trivial⟩
  | x :: ps, ns, ⟨g1, g2⟩, h1, h2 => ⟨g1, opled_snoc g2 h1 h2⟩
theorem opled_at {p : Int} : ∀ {ps ns : List Int} {i : Nat}, OpLed ns ps → ps[i]? = some p → 1 ≤ p ∧ p ∈ (ps.take i).foldl openRaw ns
  | [], _, _, _, e => by simp at e
  | x :: ps, ns, 0, ⟨h1, _⟩, e => by
    have : x = p := by simpa using e
    exact this ▸ h1
  | x :: ps, ns, i + 1, ⟨_, h2⟩, e => by
    show 1 ≤ p ∧ p ∈ (ps.take i).foldl openRaw (openRaw ns x)
    exact opled_at h2 (by simpa using e)
theorem memI_open {p : Int} (h : 1 ≤ p) : sumOf memI (openOf p) = memI p := by
  obtain ⟨v0, v1, v2⟩ := memI_val
  unfold openOf
  have nil : sumOf memI [] = 0 := rfl
  by_cases e : p = 1
  · subst e
    rw [if_pos rfl, sumOf_cons, sumOf_cons, nil]
    omega
  · rw [if_neg e, sumOf_cons, sumOf_cons, nil]
    have a := memI_two (p := p - 2) (by omega)
    rw [show p - 2 + 2 = p by omega, show p - 2 + 1 = p - 1 by omega] at a
    omega
theorem sum_open {ns : List Int} {p : Int} (h : 1 ≤ p) (hp : p ∈ ns) : sumOf memI (openRaw ns p) = sumOf memI ns := by
  have e := sumOf_perm (f := memI) (List.perm_cons_erase hp)
  rw [sumOf_cons] at e
  unfold openRaw
  rw [sumOf_app, memI_open h]
  omega
theorem opled_sum : ∀ {ps ns : List Int}, OpLed ns ps → sumOf memI (ps.foldl openRaw ns) = sumOf memI ns
  | [], _, _ => rfl
  | p :: ps, ns, ⟨⟨h1, h2⟩, h3⟩ => (opled_sum h3).trans (sum_open h1 h2)
def below (L : List Int) (q : Int) : Int := sumOf memI (L.filter fun x => decide (x < q))
theorem below_erase {L : List Int} {p q : Int} (hp : p ∈ L) (h : q ≤ p) : below (L.erase p) q = below L q := by
  have e := sumOf_perm (f := memI) ((List.perm_cons_erase hp).filter fun x => decide (x < q))
  rw [List.filter_cons, if_neg (by simpa using h)] at e
  exact e.symm
theorem below_open {L : List Int} {a p q : Int} (ha : a ∈ L) (hp : 0 ≤ p) (h1 : p < a) (h2 : q < p) : below (openRaw L a) q = below L q := by
  have e := below_erase ha (show q ≤ a by omega)
  unfold below at e ⊢
  unfold openRaw
  rw [List.filter_append, sumOf_app, e]
  have : (openOf a).filter (fun x => decide (x < q)) = [] := by
    rw [List.filter_eq_nil_iff]
    intro x hx
    unfold openOf at hx
    simp only [decide_eq_true_eq]
    split at hx
    · rcases List.mem_cons.mp hx with g | g
      · omega
      · have := List.mem_singleton.mp g
        omega
    · rcases List.mem_cons.mp hx with g | g
      · omega
      · have := List.mem_singleton.mp g
        omega
  rw [this]
  show _ + (0 : Int) = _
  omega
theorem below_all {L : List Int} {p : Int} (h : ∀ x ∈ L, x < p) : below L p = sumOf memI L := by
  unfold below
  rw [List.filter_eq_self.mpr fun x hx => decide_eq_true (h x hx)]
/-- the state of the heap that lends: l0 at first, then L, row opened so far, b above the next one to be opened -/
structure Lend (l0 L row : List Int) (b : Nat) (done : List Nat) : Prop where
  nn : ∀ x ∈ L, 0 ≤ x ∧ x < 1000
  bd : row.length + b ≤ 1000
  ln : L.length ≤ l0.length + row.length
  pm : (row.foldl openRaw l0).Perm (L ++ Mx.nat done)
  ol : OpLed l0 row
theorem Lend.value {l0 L row : List Int} {b : Nat} {done : List Nat} (h : Lend l0 L row b done) : sumOf memI L + Mx.val done = sumOf memI l0 := by
  have e := sumOf_perm (f := memI) h.pm
  rw [opled_sum h.ol, sumOf_app, memI_nat] at e
  omega
/-- before a place -/
def Pre (l0 L row : List Int) (b : Nat) (done todo : List Nat) : Prop := Lend l0 L row b done ∧ (∀ p ∈ todo, ∀ q : Int, q ≤ p → below L q < memI q) ∧ (b = 1000 ∨ (todo ≠ [] → ∃ m ∈ L, m < (b : Int) ∧ ∀ p ∈ todo, (p : Int) < m))
/-- while a place is asked for -/
def Mid (l0 L row : List Int) (b : Nat) (done : List Nat) (p : Nat) (rest : List Nat) : Prop := Lend l0 L row b done ∧ (∀ q : Int, q < p → below L q < memI q) ∧ ((p : Int) ∈ L ∨ ∃ m ∈ L, (p : Int) < m ∧ m < (b : Int)) ∧ (b = 1000 ∨ (rest ≠ [] → ∃ m ∈ L, m ≠ (p : Int) ∧ m < (b : Int) ∧ ∀ r ∈ rest, (r : Int) < m))
theorem pre_mid {l0 L row : List Int} {b : Nat} {done rest : List Nat} {p : Nat} (h : Pre l0 L row b done (p :: rest)) (hv : Mx.val (done ++ p :: rest) ≤ sumOf memI l0) : Mid l0 L row b done p rest := by
  obtain ⟨h1, h2, h3⟩ := h
  refine ⟨h1, fun q hq => h2 p List.mem_cons_self q (by omega), ?_, ?_⟩
  · rcases h3 with e | e
    · by_cases hp : (p : Int) ∈ L
      · exact .inl hp
      · refine .inr ?_
        by_cases hm : ∃ m ∈ L, (p : Int) < m
        · obtain ⟨m, m1, m2⟩ := hm
          have := h1.nn m m1
          exact ⟨m, m1, m2, by omega⟩
        · have all : ∀ x ∈ L, x < (p : Int) := fun x hx => by
            have n1 : x ≠ p := fun e => hp (e ▸ hx)
            have n2 : ¬ (p : Int) < x := fun e => hm ⟨x, hx, e⟩
            omega
          have s := h2 p List.mem_cons_self p (Int.le_refl _)
          rw [below_all all] at s
          have v := h1.value
          rw [Mx.val_app, Mx.val_cons] at hv
          have := Mx.val_nonneg rest
          have e2 : memI (p : Int) = Mx.mem p := rfl
          omega
    · obtain ⟨m, m1, m2, m3⟩ := e (by simp)
      exact .inr ⟨m, m1, m3 p List.mem_cons_self, m2⟩
  · rcases h3 with e | e
    · exact .inl e
    · refine .inr fun hr => ?_
      obtain ⟨m, m1, m2, m3⟩ := e (by simp)
      have := m3 p List.mem_cons_self
      exact ⟨m, m1, by omega, m2, fun r hr => m3 r (List.mem_cons_of_mem _ hr)⟩
/-- the least mark above p is opened -/
theorem mid_open {l0 L row : List Int} {b : Nat} {done rest : List Nat} {p : Nat} {a : Int} (h : Mid l0 L row b done p rest) (hp : (p : Int) ∉ L) (ha : a ∈ L) (hpa : (p : Int) < a) (hmin : ∀ m ∈ L, (p : Int) < m → a ≤ m) (hr : ∀ r ∈ rest, r + 2 ≤ p) :
    Mid l0 (openRaw L a) (row ++ [a]) a.toNat done p rest ∧ a.toNat < b := by
  obtain ⟨h1, h2, h3, h4⟩ := h
  have an := h1.nn a ha
  have ab : a < (b : Int) := by
    rcases h3 with e | ⟨m, m1, m2, m3⟩
    · exact absurd e hp
    · have := hmin m m1 m2
      omega
  have m1 : a - 1 ∈ openRaw L a := by
    unfold openRaw openOf
    refine List.mem_append_right _ ?_
    split
    · rename_i e
      rw [e]
      exact List.mem_cons_self
    · exact List.mem_cons_self
  have lenO : (openOf a).length = 2 := by
    unfold openOf
    split <;> rfl
  refine ⟨⟨⟨fun x hx => ?_, ?_, ?_, ?_, ?_⟩, fun q hq => ?_, ?_, ?_⟩, by omega⟩
  · unfold openRaw at hx
    rcases List.mem_append.mp hx with g | g
    · exact h1.nn x (List.mem_of_mem_erase g)
    · unfold openOf at g
      split at g
      · rcases List.mem_cons.mp g with g | g
        · omega
        · have := List.mem_singleton.mp g
          omega
      · rcases List.mem_cons.mp g with g | g
        · omega
        · have := List.mem_singleton.mp g
          omega
  · have := h1.bd
    rw [List.length_append]
    show row.length + 1 + _ ≤ _
    omega
  · have := h1.ln
    have le := List.length_erase_of_mem ha
    have lp := List.length_pos_of_mem ha
    unfold openRaw
    rw [List.length_append, List.length_append, lenO]
    show _ ≤ _ + (row.length + 1)
    omega
  · rw [List.foldl_append]
    show (openRaw (row.foldl openRaw l0) a).Perm _
    refine (open_perm h1.pm).trans ?_
    unfold openRaw
    rw [List.erase_append_left _ ha, List.append_assoc, List.append_assoc]
    exact List.perm_append_comm.append_left _
  · exact opled_snoc h1.ol (by omega) (h1.pm.mem_iff.mpr (List.mem_append_left _ ha))
  · rw [below_open ha (by omega) hpa hq]
    exact h2 q hq
  · by_cases e : a - 1 = p
    · exact .inl (e ▸ m1)
    · exact .inr ⟨a - 1, m1, by omega, by omega⟩
  · refine .inr fun hne => ?_
    obtain ⟨r, hr0⟩ : ∃ r, r ∈ rest := List.exists_mem_of_ne_nil rest hne
    have r0 := hr r hr0
    by_cases e : a - 1 = p
    · refine ⟨a - 2, ?_, by omega, by omega, fun x hx => by have := hr x hx; omega⟩
      unfold openRaw openOf
      refine List.mem_append_right _ ?_
      rw [if_neg (by omega)]
      exact List.mem_cons_of_mem _ List.mem_cons_self
    · exact ⟨a - 1, m1, e, by omega, fun x hx => by have := hr x hx; omega⟩
/-- the place goes -/
theorem mid_pre {l0 L row : List Int} {b : Nat} {done rest : List Nat} {p : Nat} (h : Mid l0 L row b done p rest) (hp : (p : Int) ∈ L) (hr : ∀ r ∈ rest, r + 2 ≤ p) : Pre l0 (L.erase p) row b (done ++ [p]) rest := by
  obtain ⟨h1, h2, h3, h4⟩ := h
  refine ⟨⟨fun x hx => h1.nn x (List.mem_of_mem_erase hx), h1.bd, ?_, ?_, h1.ol⟩, fun r hr0 q hq => ?_, ?_⟩
  · have := h1.ln
    have : (L.erase (p : Int)).length ≤ L.length := List.length_erase_le
    omega
  · refine h1.pm.trans ?_
    have e : Mx.nat (done ++ [p]) = Mx.nat done ++ [(p : Int)] := by
      unfold Mx.nat
      rw [List.map_append]
      rfl
    rw [e]
    have g := (List.perm_cons_erase hp).append_right (Mx.nat done)
    refine g.trans ?_
    rw [← List.append_assoc]
    exact List.perm_append_comm (l₁ := [(p : Int)])
  · have := hr r hr0
    rw [below_erase hp (by omega)]
    exact h2 q (by omega)
  · rcases h4 with e | e
    · exact .inl e
    · refine .inr fun hne => ?_
      obtain ⟨m, m1, m2, m3, m4⟩ := e hne
      exact ⟨m, (List.mem_erase_of_ne m2).mpr m1, m3, m4⟩
/-- at first -/
theorem pre_first {l m : List Nat} (hl : Mx.Fm l) (hb : ∀ p ∈ l, p < 1000) : Pre (Mx.nat l) (Mx.nat l) [] 1000 [] m := by
  refine ⟨⟨fun x hx => ?_, Nat.le_refl _, Nat.le_refl _, ?_, trivial⟩, fun p hp q hq => ?_, .inl rfl⟩
  · obtain ⟨p, hp, rfl⟩ := List.mem_map.mp hx
    have := hb p hp
    omega
  · show (Mx.nat l).Perm (Mx.nat l ++ [])
    rw [List.append_nil]
  · have e : (Mx.nat l).filter (fun x => decide (x < q)) = Mx.nat (l.filter fun p : Nat => decide ((p : Int) < q)) := by
      unfold Mx.nat
      rw [List.filter_map]
      rfl
    unfold below
    rw [e, memI_nat]
    have f : Mx.Fm (l.filter fun p : Nat => decide ((p : Int) < q)) := List.Pairwise.filter _ hl
    exact Mx.val_lt f fun x hx => by
      have := of_decide_eq_true (List.mem_filter.mp hx).2
      omega
section
variable {K : PySem.W.Frag} {σ : L2.St} {H : Hp} {to te : TE} {D : Ends} {tz : TS} {l : Addr} {i : Nat}
theorem s_extL {xs zs : List V} (hl : H l = some (.lst xs)) (ho : Ev to σ H (.ref l)) (h : EvL te σ H zs) (hz : xs.length + zs.length ≤ 100000) (k : ∀ H1, Ex H H1 → D.nx σ (upd H1 l (.lst (xs ++ zs)))) :
    tDrop (tBM K "list" rExtend to (tCons te tNil)) D σ H := ho H (Ex.refl H) _ fun H1 e1 => ⟨Or.inl ⟨rfl, xs, sq_of (e1 l _ hl)⟩, h H1 e1 _ fun p H2 _ e2 hp => ⟨l, p, xs, zs, rfl, rfl, e2 l _ (e1 l _ hl), hp, sz_of hz, k H2 (e1.trans e2)⟩⟩
theorem q_minL {ns : List Int} (h : EvL te σ H (ns.map V.int)) (hne : 0 < ns.length) (k : ∀ m H1, m ∈ ns → (∀ y, y ∈ ns → m ≤ y) → Ex H H1 → tz D (σ.set i (some (.int m))) H1) : tSeq (tAsg (tCB (rMin K) (tCons te tNil)) (gName i)) tz D σ H :=
  h H (Ex.refl H) _ fun p H1 _ e1 hp => ⟨p, ns, rfl, SqL.of hp, hne, fun m h1 h2 => k m H1 h1 h2 e1⟩
end
theorem q_call2 {σ : L2.St} {H : Hp} {ta tr : TA} {sp1 sp2 : Sp} {vs : List V} {E E1 : XK} {D : Ends} {tz : TS} {i : Nat} (h : EvA ta σ H vs) (k : ∀ H1, Ex H H1 → sp1 (vs ++ []) H1 (fun v H2 => tr σ H2 fun ws H3 => sp2 ((v :: ws) ++ []) H3 (fun u H4 => tz D (σ.set i (some u)) H4) E) E1) :
    tSeq (tAsg (tCall sp2 [] E (tCons (tCall sp1 [] E1 ta) tr)) (gName i)) tz D σ H := h H (Ex.refl H) _ fun H1 e1 => k H1 e1
end Z

namespace Kk
open PySem PySem.Spec PyProof.Rows L2 Evl Z
open PySem.W (Datum)
local macro_rules | `(tactic| walk_at "ex") => `(tactic| first | exact Ex.refl _ | assumption | (refine' Ex.trans ?a ?b; (case b => assumption); (case a => walk_at "ex")))
local macro_rules | `(tactic| walk_at "sq") => `(tactic| first | assumption | exact SqL.of (by assumption) | exact SqL.of upd_same | (refine' ex_l ?e ?h; (case h => assumption); (case e => walk_at "ex")) | (refine' SqL.of (ex_to ?e ?h); (case h => assumption); (case e => walk_at "ex")))
local macro_rules | `(tactic| walk_at "at") => `(tactic| first | assumption | exact upd_same | (refine' ex_to ?e ?h; (case h => assumption); (case e => walk_at "ex")))
local macro_rules | `(tactic| walk_at "rv") => `(tactic| first | exact rv_I0 | exact rv_I (cdiv (by decide) (by decide)) | exact rv_I (show (0 : Int) < _ by decide) | exact rv_I (cpow (by decide) (by decide) (by decide)) | exact rv_eq rfl | exact rv_ne rfl | exact ru_neg)
local macro_rules | `(tactic| walk_at "ev") => `(tactic| first | exact ev_c | exact ev_var rfl | (refine' ev_op ?a ?b ?c; (case a => walk_at "ev"); (case b => walk_at "ev"); (case c => walk_at "rv")) | (refine' ev_un ?a ?c; (case a => walk_at "ev"); (case c => walk_at "rv")) | (refine' ev_len ?a ?c; (case a => walk_at "ev"); (case c => walk_at "sq")))
local macro_rules | `(tactic| walk_at "et") => `(tactic| first | (refine' et_test ?a; (case a => walk_at "ev")) | (refine' et_B ?a; (case a => walk_at "ev")) | (refine' et_not ?a; (case a => walk_at "et")))

def topS (i : Nat) : Stmt := PySem.Challenge.pw_sparsesum_k08_whole_added_and_taken.main.body.getD i (.Pass ⟨0, 0, 0, 0⟩)
abbrev s_is_whole : Stmt := topS 8
abbrev N_is_whole : List Str := ["thing"]
theorem sc_is_whole : FnScope N_is_whole ["thing"] (defScope s_is_whole) := ⟨rfl, rfl, rfl, by decide +kernel, rfl, by decide +kernel, by decide +kernel⟩
abbrev s_is_form : Stmt := topS 10
abbrev N_is_form : List Str := ["thing", "before", "place"]
theorem sc_is_form : FnScope N_is_form ["thing"] (defScope s_is_form) := ⟨rfl, rfl, rfl, by decide +kernel, rfl, by decide +kernel, by decide +kernel⟩
abbrev s_need_form : Stmt := topS 11
abbrev N_need_form : List Str := ["thing"]
theorem sc_need_form : FnScope N_need_form ["thing"] (defScope s_need_form) := ⟨rfl, rfl, rfl, by decide +kernel, rfl, by decide +kernel, by decide +kernel⟩
abbrev s_compared : Stmt := topS 12
abbrev N_compared : List Str := ["one", "other", "here", "there"]
theorem sc_compared : FnScope N_compared ["one", "other"] (defScope s_compared) := ⟨rfl, rfl, rfl, by decide +kernel, rfl, by decide +kernel, by decide +kernel⟩
abbrev s_going : Stmt := topS 14
abbrev N_going : List Str := ["step"]
theorem sc_going : FnScope N_going ["step"] (defScope s_going) := ⟨rfl, rfl, rfl, by decide +kernel, rfl, by decide +kernel, by decide +kernel⟩
abbrev s_coming : Stmt := topS 15
abbrev N_coming : List Str := ["step"]
theorem sc_coming : FnScope N_coming ["step"] (defScope s_coming) := ⟨rfl, rfl, rfl, by decide +kernel, rfl, by decide +kernel, by decide +kernel⟩
abbrev s_behind : Stmt := topS 16
abbrev N_behind : List Str := ["heap", "step", "marks", "place"]
theorem sc_behind : FnScope N_behind ["heap", "step"] (defScope s_behind) := ⟨rfl, rfl, rfl, by decide +kernel, rfl, by decide +kernel, by decide +kernel⟩
abbrev s_highest_step : Stmt := topS 17
abbrev N_highest_step : List Str := ["marks", "one", "other"]
theorem sc_highest_step : FnScope N_highest_step ["marks"] (defScope s_highest_step) := ⟨rfl, rfl, rfl, by decide +kernel, rfl, by decide +kernel, by decide +kernel⟩
abbrev s_settled_from_above : Stmt := topS 18
abbrev N_settled_from_above : List Str := ["heap", "marks", "row", "step"]
theorem sc_settled_from_above : FnScope N_settled_from_above ["heap"] (defScope s_settled_from_above) := ⟨rfl, rfl, rfl, by decide +kernel, rfl, by decide +kernel, by decide +kernel⟩
abbrev s_added : Stmt := topS 20
abbrev N_added : List Str := ["one", "other"]
theorem sc_added : FnScope N_added ["one", "other"] (defScope s_added) := ⟨rfl, rfl, rfl, by decide +kernel, rfl, by decide +kernel, by decide +kernel⟩
abbrev s_opened : Stmt := topS 21
abbrev N_opened : List Str := ["place"]
theorem sc_opened : FnScope N_opened ["place"] (defScope s_opened) := ⟨rfl, rfl, rfl, by decide +kernel, rfl, by decide +kernel, by decide +kernel⟩
abbrev s_lent : Stmt := topS 22
abbrev N_lent : List Str := ["one", "other", "left", "row", "place", "above", "mark"]
theorem sc_lent : FnScope N_lent ["one", "other"] (defScope s_lent) := ⟨rfl, rfl, rfl, by decide +kernel, rfl, by decide +kernel, by decide +kernel⟩
abbrev s_taken : Stmt := topS 23
abbrev N_taken : List Str := ["one", "other", "row", "left", "form", "told"]
theorem sc_taken : FnScope N_taken ["one", "other"] (defScope s_taken) := ⟨rfl, rfl, rfl, by decide +kernel, rfl, by decide +kernel, by decide +kernel⟩
abbrev s__law_cell_at : Stmt := topS 25
abbrev N__law_cell_at : List Str := ["_law_script", "_law_k"]
theorem sc__law_cell_at : FnScope N__law_cell_at ["_law_script", "_law_k"] (defScope s__law_cell_at) := ⟨rfl, rfl, rfl, by decide +kernel, rfl, by decide +kernel, by decide +kernel⟩
abbrev s__law_whole : Stmt := topS 26
abbrev N__law_whole : List Str := ["_law_found"]
theorem sc__law_whole : FnScope N__law_whole ["_law_found"] (defScope s__law_whole) := ⟨rfl, rfl, rfl, by decide +kernel, rfl, by decide +kernel, by decide +kernel⟩
abbrev s__law_members : Stmt := topS 27
abbrev N__law_members : List Str := ["_law_many", "_law_row", "_law_one", "_law_other", "_law_k"]
theorem sc__law_members : FnScope N__law_members ["_law_many"] (defScope s__law_members) := ⟨rfl, rfl, rfl, by decide +kernel, rfl, by decide +kernel, by decide +kernel⟩
abbrev s__law_falling : Stmt := topS 28
abbrev N__law_falling : List Str := ["_law_cells", "_law_at", "_law_rising", "_law_cell"]
theorem sc__law_falling : FnScope N__law_falling ["_law_cells", "_law_at"] (defScope s__law_falling) := ⟨rfl, rfl, rfl, by decide +kernel, rfl, by decide +kernel, by decide +kernel⟩
abbrev s__law_pair : Stmt := topS 29
abbrev N__law_pair : List Str := ["_law_script", "_law_cells", "_law_first", "_law_second", "_law_far", "_law_near", "_law_one", "_law_other", "_law_kept", "_law_k", "_law_place"]
theorem sc__law_pair : FnScope N__law_pair ["_law_script"] (defScope s__law_pair) := ⟨rfl, rfl, rfl, by decide +kernel, rfl, by decide +kernel, by decide +kernel⟩
abbrev s__law_is_form : Stmt := topS 30
abbrev N__law_is_form : List Str := ["_law_found", "_law_k"]
theorem sc__law_is_form : FnScope N__law_is_form ["_law_found"] (defScope s__law_is_form) := ⟨rfl, rfl, rfl, by decide +kernel, rfl, by decide +kernel, by decide +kernel⟩
abbrev s__law_sum : Stmt := topS 31
abbrev N__law_sum : List Str := ["_law_form", "_law_row", "_law_place"]
theorem sc__law_sum : FnScope N__law_sum ["_law_form", "_law_row"] (defScope s__law_sum) := ⟨rfl, rfl, rfl, by decide +kernel, rfl, by decide +kernel, by decide +kernel⟩
abbrev s__law_stepped : Stmt := topS 32
abbrev N__law_stepped : List Str := ["_law_marks", "_law_step", "_law_at", "_law_left"]
theorem sc__law_stepped : FnScope N__law_stepped ["_law_marks", "_law_step"] (defScope s__law_stepped) := ⟨rfl, rfl, rfl, by decide +kernel, rfl, by decide +kernel, by decide +kernel⟩
abbrev s__law_led : Stmt := topS 33
abbrev N__law_led : List Str := ["_law_marks", "_law_told", "_law_form", "_law_step"]
theorem sc__law_led : FnScope N__law_led ["_law_marks", "_law_told", "_law_form"] (defScope s__law_led) := ⟨rfl, rfl, rfl, by decide +kernel, rfl, by decide +kernel, by decide +kernel⟩
abbrev s__law_opened : Stmt := topS 34
abbrev N__law_opened : List Str := ["_law_marks", "_law_told", "_law_place"]
theorem sc__law_opened : FnScope N__law_opened ["_law_marks", "_law_told"] (defScope s__law_opened) := ⟨rfl, rfl, rfl, by decide +kernel, rfl, by decide +kernel, by decide +kernel⟩
abbrev s__law_without : Stmt := topS 35
abbrev N__law_without : List Str := ["_law_marks", "_law_form", "_law_left", "_law_place"]
theorem sc__law_without : FnScope N__law_without ["_law_marks", "_law_form"] (defScope s__law_without) := ⟨rfl, rfl, rfl, by decide +kernel, rfl, by decide +kernel, by decide +kernel⟩
abbrev s__law_refused : Stmt := topS 36
abbrev N__law_refused : List Str := ["_law_way", "_law_one", "_law_other", "_law_little", "_law_kinds", "e"]
theorem sc__law_refused : FnScope N__law_refused ["_law_way", "_law_one", "_law_other", "_law_little"] (defScope s__law_refused) := ⟨rfl, rfl, rfl, by decide +kernel, rfl, by decide +kernel, by decide +kernel⟩
abbrev s__law_taken : Stmt := topS 37
abbrev N__law_taken : List Str := ["_law_great", "_law_small", "_law_row", "_law_handed", "_law_told", "_law_left"]
theorem sc__law_taken : FnScope N__law_taken ["_law_great", "_law_small", "_law_row"] (defScope s__law_taken) := ⟨rfl, rfl, rfl, by decide +kernel, rfl, by decide +kernel, by decide +kernel⟩
abbrev s_law : Stmt := topS 38
abbrev N_law : List Str := ["_law_script", "_law_one", "_law_other", "_law_row", "_law_handed", "_law_told", "_law_great", "_law_small", "_law_cell", "_law_odd"]
theorem sc_law : FnScope N_law ["_law_script"] (defScope s_law) := ⟨rfl, rfl, rfl, by decide +kernel, rfl, by decide +kernel, by decide +kernel⟩
/-- what the top has written -/
structure Txt (K : PySem.W.Frag) (mg : Str → Option Value) where
  n_ValueError : mg "ValueError" = none
  n_bool : mg "bool" = none
  n_int : mg "int" = none
  n_isinstance : mg "isinstance" = none
  n_len : mg "len" = none
  n_list : mg "list" = none
  n_max : mg "max" = none
  n_min : mg "min" = none
  n_range : mg "range" = none
  n_reversed : mg "reversed" = none
  n_sorted : mg "sorted" = none
  n_str : mg "str" = none
  n_sum : mg "sum" = none
  n_tuple : mg "tuple" = none
  n_zip : mg "zip" = none
  a_SparseError : Addr
  g_SparseError : mg "SparseError" = some (.ref a_SparseError)
  a_NoNumber : Addr
  g_NoNumber : mg "NoNumber" = some (.ref a_NoNumber)
  a_NoForm : Addr
  g_NoForm : mg "NoForm" = some (.ref a_NoForm)
  a_NoText : Addr
  g_NoText : mg "NoText" = some (.ref a_NoText)
  a_NoStep : Addr
  g_NoStep : mg "NoStep" = some (.ref a_NoStep)
  a_TooLittle : Addr
  g_TooLittle : mg "TooLittle" = some (.ref a_TooLittle)
  x_NoForm : PySem.W.excIn K a_NoForm [.type "ValueError", .type "Exception", .type "BaseException", .type "object"] "ValueError.__new__" = true
  k_NoForm : PySem.W.keepIn K (.ref a_NoForm) = true
  b_NoForm : PySem.W.subIn K (.ref a_NoForm) (.type "BaseException") = some true
  t_NoForm : PySem.W.typeIn K (.ref a_NoForm) = some (.type "type")
  e_NoForm : ExcC K a_NoForm
  m_NoForm_SparseError : PySem.W.exmOne K (.ref a_NoForm) (.ref a_SparseError) = some true
  i_NoForm_NoNumber : PySem.W.kitOne K (.ref a_NoForm) (.ref a_NoNumber) = some false
  i_NoForm_ValueError : PySem.W.kitOne K (.ref a_NoForm) (.type "ValueError") = some true
  i_NoForm_NoForm : PySem.W.kitOne K (.ref a_NoForm) (.ref a_NoForm) = some true
  i_NoForm_NoText : PySem.W.kitOne K (.ref a_NoForm) (.ref a_NoText) = some false
  i_NoForm_NoStep : PySem.W.kitOne K (.ref a_NoForm) (.ref a_NoStep) = some false
  i_NoForm_TooLittle : PySem.W.kitOne K (.ref a_NoForm) (.ref a_TooLittle) = some false
  x_TooLittle : PySem.W.excIn K a_TooLittle [.type "ValueError", .type "Exception", .type "BaseException", .type "object"] "ValueError.__new__" = true
  k_TooLittle : PySem.W.keepIn K (.ref a_TooLittle) = true
  b_TooLittle : PySem.W.subIn K (.ref a_TooLittle) (.type "BaseException") = some true
  t_TooLittle : PySem.W.typeIn K (.ref a_TooLittle) = some (.type "type")
  e_TooLittle : ExcC K a_TooLittle
  m_TooLittle_SparseError : PySem.W.exmOne K (.ref a_TooLittle) (.ref a_SparseError) = some true
  i_TooLittle_NoNumber : PySem.W.kitOne K (.ref a_TooLittle) (.ref a_NoNumber) = some false
  i_TooLittle_ValueError : PySem.W.kitOne K (.ref a_TooLittle) (.type "ValueError") = some true
  i_TooLittle_NoForm : PySem.W.kitOne K (.ref a_TooLittle) (.ref a_NoForm) = some false
  i_TooLittle_NoText : PySem.W.kitOne K (.ref a_TooLittle) (.ref a_NoText) = some false
  i_TooLittle_NoStep : PySem.W.kitOne K (.ref a_TooLittle) (.ref a_NoStep) = some false
  i_TooLittle_TooLittle : PySem.W.kitOne K (.ref a_TooLittle) (.ref a_TooLittle) = some true
  f_is_whole : Addr
  d_is_whole : FuncData
  F_is_whole : Fun K "is_whole" "is_whole" s_is_whole f_is_whole d_is_whole
  g_is_whole : mg "is_whole" = some (.ref f_is_whole)
  b_is_whole : Binds K d_is_whole ["thing"] []
  f_is_form : Addr
  d_is_form : FuncData
  F_is_form : Fun K "is_form" "is_form" s_is_form f_is_form d_is_form
  g_is_form : mg "is_form" = some (.ref f_is_form)
  b_is_form : Binds K d_is_form ["thing"] []
  f_need_form : Addr
  d_need_form : FuncData
  F_need_form : Fun K "need_form" "need_form" s_need_form f_need_form d_need_form
  g_need_form : mg "need_form" = some (.ref f_need_form)
  b_need_form : Binds K d_need_form ["thing"] []
  f_compared : Addr
  d_compared : FuncData
  F_compared : Fun K "compared" "compared" s_compared f_compared d_compared
  g_compared : mg "compared" = some (.ref f_compared)
  b_compared : Binds K d_compared ["one", "other"] []
  f_going : Addr
  d_going : FuncData
  F_going : Fun K "going" "going" s_going f_going d_going
  g_going : mg "going" = some (.ref f_going)
  b_going : Binds K d_going ["step"] []
  f_coming : Addr
  d_coming : FuncData
  F_coming : Fun K "coming" "coming" s_coming f_coming d_coming
  g_coming : mg "coming" = some (.ref f_coming)
  b_coming : Binds K d_coming ["step"] []
  f_behind : Addr
  d_behind : FuncData
  F_behind : Fun K "behind" "behind" s_behind f_behind d_behind
  g_behind : mg "behind" = some (.ref f_behind)
  b_behind : Binds K d_behind ["heap", "step"] []
  f_highest_step : Addr
  d_highest_step : FuncData
  F_highest_step : Fun K "highest_step" "highest_step" s_highest_step f_highest_step d_highest_step
  g_highest_step : mg "highest_step" = some (.ref f_highest_step)
  b_highest_step : Binds K d_highest_step ["marks"] []
  f_settled_from_above : Addr
  d_settled_from_above : FuncData
  F_settled_from_above : Fun K "settled_from_above" "settled_from_above" s_settled_from_above f_settled_from_above d_settled_from_above
  g_settled_from_above : mg "settled_from_above" = some (.ref f_settled_from_above)
  b_settled_from_above : Binds K d_settled_from_above ["heap"] []
  f_added : Addr
  d_added : FuncData
  F_added : Fun K "added" "added" s_added f_added d_added
  g_added : mg "added" = some (.ref f_added)
  b_added : Binds K d_added ["one", "other"] []
  f_opened : Addr
  d_opened : FuncData
  F_opened : Fun K "opened" "opened" s_opened f_opened d_opened
  g_opened : mg "opened" = some (.ref f_opened)
  b_opened : Binds K d_opened ["place"] []
  f_lent : Addr
  d_lent : FuncData
  F_lent : Fun K "lent" "lent" s_lent f_lent d_lent
  g_lent : mg "lent" = some (.ref f_lent)
  b_lent : Binds K d_lent ["one", "other"] []
  f_taken : Addr
  d_taken : FuncData
  F_taken : Fun K "taken" "taken" s_taken f_taken d_taken
  g_taken : mg "taken" = some (.ref f_taken)
  b_taken : Binds K d_taken ["one", "other"] []
  f__law_cell_at : Addr
  d__law_cell_at : FuncData
  F__law_cell_at : Fun K "_law_cell_at" "_law_cell_at" s__law_cell_at f__law_cell_at d__law_cell_at
  g__law_cell_at : mg "_law_cell_at" = some (.ref f__law_cell_at)
  b__law_cell_at : Binds K d__law_cell_at ["_law_script", "_law_k"] []
  f__law_whole : Addr
  d__law_whole : FuncData
  F__law_whole : Fun K "_law_whole" "_law_whole" s__law_whole f__law_whole d__law_whole
  g__law_whole : mg "_law_whole" = some (.ref f__law_whole)
  b__law_whole : Binds K d__law_whole ["_law_found"] []
  f__law_members : Addr
  d__law_members : FuncData
  F__law_members : Fun K "_law_members" "_law_members" s__law_members f__law_members d__law_members
  g__law_members : mg "_law_members" = some (.ref f__law_members)
  b__law_members : Binds K d__law_members ["_law_many"] []
  f__law_falling : Addr
  d__law_falling : FuncData
  F__law_falling : Fun K "_law_falling" "_law_falling" s__law_falling f__law_falling d__law_falling
  g__law_falling : mg "_law_falling" = some (.ref f__law_falling)
  b__law_falling : Binds K d__law_falling ["_law_cells", "_law_at"] []
  f__law_pair : Addr
  d__law_pair : FuncData
  F__law_pair : Fun K "_law_pair" "_law_pair" s__law_pair f__law_pair d__law_pair
  g__law_pair : mg "_law_pair" = some (.ref f__law_pair)
  b__law_pair : Binds K d__law_pair ["_law_script"] []
  f__law_is_form : Addr
  d__law_is_form : FuncData
  F__law_is_form : Fun K "_law_is_form" "_law_is_form" s__law_is_form f__law_is_form d__law_is_form
  g__law_is_form : mg "_law_is_form" = some (.ref f__law_is_form)
  b__law_is_form : Binds K d__law_is_form ["_law_found"] []
  f__law_sum : Addr
  d__law_sum : FuncData
  F__law_sum : Fun K "_law_sum" "_law_sum" s__law_sum f__law_sum d__law_sum
  g__law_sum : mg "_law_sum" = some (.ref f__law_sum)
  b__law_sum : Binds K d__law_sum ["_law_form", "_law_row"] []
  f__law_stepped : Addr
  d__law_stepped : FuncData
  F__law_stepped : Fun K "_law_stepped" "_law_stepped" s__law_stepped f__law_stepped d__law_stepped
  g__law_stepped : mg "_law_stepped" = some (.ref f__law_stepped)
  b__law_stepped : Binds K d__law_stepped ["_law_marks", "_law_step"] []
  f__law_led : Addr
  d__law_led : FuncData
  F__law_led : Fun K "_law_led" "_law_led" s__law_led f__law_led d__law_led
  g__law_led : mg "_law_led" = some (.ref f__law_led)
  b__law_led : Binds K d__law_led ["_law_marks", "_law_told", "_law_form"] []
  f__law_opened : Addr
  d__law_opened : FuncData
  F__law_opened : Fun K "_law_opened" "_law_opened" s__law_opened f__law_opened d__law_opened
  g__law_opened : mg "_law_opened" = some (.ref f__law_opened)
  b__law_opened : Binds K d__law_opened ["_law_marks", "_law_told"] []
  f__law_without : Addr
  d__law_without : FuncData
  F__law_without : Fun K "_law_without" "_law_without" s__law_without f__law_without d__law_without
  g__law_without : mg "_law_without" = some (.ref f__law_without)
  b__law_without : Binds K d__law_without ["_law_marks", "_law_form"] []
  f__law_refused : Addr
  d__law_refused : FuncData
  F__law_refused : Fun K "_law_refused" "_law_refused" s__law_refused f__law_refused d__law_refused
  g__law_refused : mg "_law_refused" = some (.ref f__law_refused)
  b__law_refused : Binds K d__law_refused ["_law_way", "_law_one", "_law_other", "_law_little"] []
  f__law_taken : Addr
  d__law_taken : FuncData
  F__law_taken : Fun K "_law_taken" "_law_taken" s__law_taken f__law_taken d__law_taken
  g__law_taken : mg "_law_taken" = some (.ref f__law_taken)
  b__law_taken : Binds K d__law_taken ["_law_great", "_law_small", "_law_row"] []

section
variable {P : Program} {w : World} {K : PySem.W.Frag} {mg : Str → Option Value} {base : Heap}

/-! is_whole -/
def sp_is_whole (T : Txt K mg) : Sp := fun vs H Q _ => ∃ x, vs = [x] ∧ Kn K H x ∧ RetV (.bl (wholeV x)) H Q
theorem spv_is_whole (T : Txt K mg) {x : V} {H : Hp} (hk : Kn K H x) : SpV (sp_is_whole T) [x] H (.bl (wholeV x)) := fun H1 e Q q E => ⟨x, rfl, hk.mono e, fun H2 e2 => q H2 e2⟩
theorem ok_is_whole (T : Txt K mg) : FnOk P w K mg base CX0 1 T.f_is_whole T.d_is_whole ["thing"] (sp_is_whole T) := by
  refine T.F_is_whole.ok sc_is_whole (fun vs H Q E h => ?_) (fun cdv A outer s H vs Q E hr h => ?_)
  · obtain ⟨x, rfl, _⟩ := h
    rfl
  · obtain ⟨x, rfl, ⟨n, hn, ht⟩, q⟩ := h
    refine ⟨_, (pss_one (ps_ret (pe_and (pe_callB call_isi (by rfl) T.n_isinstance (by decide +kernel) (pa_cons (pv 0) (pa_cons (pe_bltn (v := .ty "int") (by rfl) T.n_int (by decide +kernel) rfl) pa_nil))) (pe_and (pe_not (pe_callB call_isi (by rfl) T.n_isinstance (by decide +kernel) (pa_cons (pv 0) (pa_cons (pe_bltn (v := .ty "bool") (by rfl) T.n_bool (by decide +kernel) rfl) pa_nil)))) (pe_one (pe_cmpR op_ge (pv 0) pe_int (nomark _))))))), ?_⟩
    refine s_ret ?_ q
    by_cases e : n = "int"
    · subst e
      obtain ⟨i, rfl⟩ := ty_int ht
      exact ev_eq (ev_andV (ev_isi (ev_var rfl) ht (b := true) (by decide +kernel)) fun _ => ev_andV (ev_notV (ev_isi (ev_var rfl) ht (b := false) (by decide +kernel))) fun _ => by walk_at "ev") (by simp [wholeV])
    · rw [(ty_ref ht e).2]
      by_cases e2 : n = "bool"
      · subst e2
        exact ev_eq (ev_andV (ev_isi (ev_var rfl) ht (b := true) (by decide +kernel)) fun _ => ev_andV (b := false) (ev_notV (ev_isi (ev_var rfl) ht (b := true) (by decide +kernel))) (fun h => absurd h (by decide))) rfl
      · have hb : kitB n "int" = some false := by
          rcases hn with rfl | rfl | rfl | rfl | rfl | rfl | rfl
          · exact absurd rfl e
          · exact absurd rfl e2
          all_goals decide +kernel
        exact ev_eq (ev_andV (b := false) (ev_isi (ev_var rfl) ht hb) (fun h => absurd h (by decide))) rfl

/-! is_form -/
def sp_is_form (T : Txt K mg) : Sp := fun vs H Q _ => ∃ x b, vs = [x] ∧ FmT K H x b ∧ RetV (.bl b) H Q
theorem spv_is_form (T : Txt K mg) {x : V} {b : Bool} {H : Hp} (h : FmT K H x b) : SpV (sp_is_form T) [x] H (.bl b) := fun H1 e Q q E => ⟨x, b, rfl, h.mono e, fun H2 e2 => q H2 e2⟩
def befV : Option Int → V
  | none => .non
  | some p => .int p
theorem ok_is_form (T : Txt K mg) : FnOk P w K mg base CX0 2 T.f_is_form T.d_is_form ["thing"] (sp_is_form T) := by
  refine T.F_is_form.ok sc_is_form (fun vs H Q E h => ?_) (fun cdv A outer s H vs Q E hr h => ?_)
  · obtain ⟨x, b, rfl, _⟩ := h
    rfl
  · obtain ⟨x, b, rfl, hx, q⟩ := h
    refine ⟨_, (pss_cons (ps_if (pt_not (pt_val (pe_callB call_isi (by rfl) T.n_isinstance (by decide +kernel) (pa_cons (pv 0) (pa_cons (pe_bltn (v := .ty "list") (by rfl) T.n_list (by decide +kernel) rfl) pa_nil))))) (pss_one (ps_ret pe_bl)) pss_nil)
    (pss_cons (ps_set (i := 1) sc_is_form.nd rfl (Or.inl rfl) pe_non)
    (pss_cons (ps_for PassesOwn.never rfl (pi_list (pv 0)) (pg_name (i := 2) sc_is_form.nd rfl (Or.inl rfl)) (pss_cons (ps_if (pt_not (pt_val (pe_call (ok_is_whole T) (hr.mono (by decide)) (by rfl) T.g_is_whole T.F_is_whole.kp T.b_is_whole .nil pass0 (pa_cons (pv 2) pa_nil)))) (pss_one (ps_ret pe_bl)) pss_nil)
    (pss_cons (ps_if (PW.pt (pw_and (pt_cmpR op_notN (pv 1) pe_non (nomark _)) (pw_and1 (pt_cmpR op_lt (pe_op op_sub (pv 1) (pv 2)) pe_int (nomark _))))) (pss_one (ps_ret pe_bl)) pss_nil)
    (pss_one (ps_set (i := 1) sc_is_form.nd rfl (Or.inl rfl) (pv 2))))))
    (pss_one (ps_ret pe_bl))))), ?_⟩
    rcases hx with ⟨a, xs, rfl, hA, hK, rfl⟩ | ⟨n, hn, ne, hT, rfl⟩
    · refine q_when (b := false) (et_eq (et_not (et_B (ev_isi (ev_var rfl) (TyOf.lst hA) (b := true) (by decide +kernel)))) rfl) (fun hb _ _ => absurd hb (by decide)) (fun _ H1 e1 => ?_)
      refine q_asg ev_c fun H2 e2 => ?_
      refine q_forLn (xs := xs) (ev_var rfl) (SqL.of (by walk_at "at")) (fun i σ' H' => ∃ y bf, σ' = [some (.ref a), some (befV bf), y] ∧ Ex H H' ∧ fmV none xs = fmV bf (xs.drop i)) (fun H3 e3 => ⟨_, none, rfl, by walk_at "ex", rfl⟩) (fun i σ' H' _ h => by obtain ⟨y, bf, _, e, _⟩ := h; exact SqL.of (ex_to e hA)) ?_ ?_
      · rintro i x σ' H' hi ⟨y, bf, rfl, eH, hv⟩
        have hd : xs.drop i = x :: xs.drop (i + 1) := by
          have hi2 : i < xs.length := (List.getElem?_eq_some_iff.mp hi).1
          rw [List.drop_eq_getElem_cons hi2]
          rw [(List.getElem?_eq_some_iff.mp hi).2]
        have hk : Kn K H' x := (hK x (List.mem_of_getElem? hi)).mono eH
        rw [hd] at hv
        refine q_when (b := !wholeV x) (et_not (et_B (ev_call (ea_cons (ev_var rfl) ea_nil) (spv_is_whole T hk)))) (fun hb H3 e3 => ?_) (fun hb H3 e3 => ?_)
        · have hf : fmV none xs = false := by
            rw [hv]
            cases x <;> simp [wholeV] at hb <;> simp [fmV]
            intro h
            omega
          rw [hf] at q
          exact s_ret ev_c fun H4 e4 => q H4 (by walk_at "ex")
        · obtain ⟨p, rfl, hp⟩ : ∃ p, x = .int p ∧ 0 ≤ p := by
            cases x <;> simp [wholeV] at hb
            exact ⟨_, rfl, hb⟩
          have hv2 : fmV none xs = (gap bf p && fmV (some p) (xs.drop (i + 1))) := by
            rw [hv]
            show (decide ((0 : Int) ≤ p) && (gap bf p && fmV (some p) (xs.drop (i + 1)))) = _
            rw [decide_eq_true hp, Bool.true_and]
          refine q_when (b := !gap bf p) ?_ (fun hb H4 e4 => ?_) (fun hb H4 e4 => ?_)
          · cases bf with
            | none => exact et_eq (et_and (a := false) (b := false) (et_eq (et_test (ev_op (ev_var rfl) ev_c rv_notN)) rfl) (fun h => absurd h (by decide))) rfl
            | some z => exact et_eq (et_and (a := true) (et_eq (et_test (ev_op (ev_var rfl) ev_c rv_notN)) rfl) (fun _ => by walk_at "et")) (by simp [gap])
          · have hf : fmV none xs = false := by
              rw [hv2]
              simp at hb
              rw [hb]
              rfl
            rw [hf] at q
            exact s_ret ev_c fun H5 e5 => q H5 (by walk_at "ex")
          · refine s_asg (ev_var rfl) fun H5 e5 => ⟨_, some p, rfl, by walk_at "ex", ?_⟩
            rw [hv2]
            simp at hb
            rw [hb, Bool.true_and]
      · rintro σ' H' ⟨y, bf, rfl, eH, hv⟩
        rw [List.drop_length] at hv
        have hf : fmV none xs = true := hv.trans (by cases bf <;> rfl)
        rw [hf] at q
        exact s_ret ev_c fun H5 e5 => q H5 (by walk_at "ex")
    · have hb : kitB n "list" = some false := by
        rcases hn with rfl | rfl | rfl | rfl | rfl | rfl | rfl
        case inr.inr.inr.inr.inl => exact absurd rfl ne
        all_goals decide +kernel
      refine q_when (b := true) (et_eq (et_not (et_B (ev_isi (ev_var rfl) hT hb))) rfl) (fun _ H1 e1 => ?_) (fun h _ _ => absurd h (by decide))
      exact s_ret ev_c fun H2 e2 => q H2 (e1.trans e2)

/-! need_form -/
def sp_need_form (T : Txt K mg) : Sp := fun vs H Q E => ∃ x b, vs = [x] ∧ FmT K H x b ∧ (b = false → ∀ H', Ex H H' → E (.ref T.a_NoForm) none H') ∧ (b = true → RetV .non H Q)
theorem spv_need_form (T : Txt K mg) {x : V} {H : Hp} (h : FmT K H x true) : SpV (sp_need_form T) [x] H .non := fun H1 e Q q E => ⟨x, true, rfl, h.mono e, fun z => (nomatch z), fun _ H2 e2 => q H2 e2⟩
theorem ok_need_form (T : Txt K mg) : FnOk P w K mg base (L2.CX P w) 3 T.f_need_form T.d_need_form ["thing"] (sp_need_form T) := by
  refine T.F_need_form.okX sc_need_form (fun vs H Q E h => ?_) (fun cdv A outer s H vs Q E hr h => ?_)
  · obtain ⟨x, b, rfl, _⟩ := h
    rfl
  · obtain ⟨x, b, rfl, hx, qE, q⟩ := h
    refine ⟨_, (pss_one (ps_if (pt_not (pt_val (pe_call (ok_is_form T) (hr.mono (by decide)) (by rfl) T.g_is_form T.F_is_form.kp T.b_is_form .nil pass0 (pa_cons (pv 0) pa_nil)))) (pss_one (ps_raise rfl (takes_of rfl rfl rfl rfl) (pmk_own PySem.F.excBase_ValueError T.x_NoForm T.g_NoForm T.k_NoForm (raises_own T.b_NoForm T.t_NoForm) rfl))) pss_nil)), ?_⟩
    refine s_when (b := !b) (et_not (et_B (ev_call (ea_cons (ev_var rfl) ea_nil) (spv_is_form T hx)))) (fun hb H1 e1 => ?_) (fun hb H1 e1 => ?_)
    · exact qE (by simpa using hb) H1 e1
    · exact q (by simpa using hb) H1 e1

/-! compared -/
def sp_compared (T : Txt K mg) : Sp := fun vs H Q E => ∃ x y bx bY, vs = [x, y] ∧ FmT K H x bx ∧ FmT K H y bY ∧ ((bx && bY) = false → ∀ H', Ex H H' → E (.ref T.a_NoForm) none H') ∧
  ((bx && bY) = true → ∃ a b l m, x = .ref a ∧ y = .ref b ∧ H a = some (.lst ((Mx.nat l).map V.int)) ∧ H b = some (.lst ((Mx.nat m).map V.int)) ∧ RetV (.int (Mx.cmp l m)) H Q)
theorem spv_compared (T : Txt K mg) {a b : Addr} {l m : List Nat} {H : Hp} (hA : H a = some (.lst ((Mx.nat l).map V.int))) (hB : H b = some (.lst ((Mx.nat m).map V.int))) (hl : Mx.Fm l) (hm : Mx.Fm m) : SpV (sp_compared T) [.ref a, .ref b] H (.int (Mx.cmp l m)) := fun H1 e Q q E =>
  ⟨_, _, true, true, rfl, fmT_nat (e a _ hA) hl, fmT_nat (e b _ hB) hm, fun z => (nomatch z), fun _ => ⟨a, b, l, m, rfl, rfl, e a _ hA, e b _ hB, fun H2 e2 => q H2 e2⟩⟩
theorem ok_compared (T : Txt K mg) : FnOk P w K mg base (L2.CX P w) 4 T.f_compared T.d_compared ["one", "other"] (sp_compared T) := by
  refine T.F_compared.okX sc_compared (fun vs H Q E h => ?_) (fun cdv A outer s H vs Q E hr h => ?_)
  · obtain ⟨x, y, bx, bY, rfl, _⟩ := h
    rfl
  · obtain ⟨x, y, bx, bY, rfl, hx, hy, qE, q⟩ := h
    refine ⟨_, (pss_cons (ps_expr (pe_call (ok_need_form T) (hr.mono (by decide)) (by rfl) T.g_need_form T.F_need_form.kp T.b_need_form .nil (passes_call (takes_of rfl rfl rfl rfl) (fun _ _ _ _ h => h)) (pa_cons (pv 0) pa_nil)))
    (pss_cons (ps_expr (pe_call (ok_need_form T) (hr.mono (by decide)) (by rfl) T.g_need_form T.F_need_form.kp T.b_need_form .nil (passes_call (takes_of rfl rfl rfl rfl) (fun _ _ _ _ h => h)) (pa_cons (pv 1) pa_nil)))
    (pss_cons (ps_for (passes_of rfl) rfl (pi_zip (by rfl) T.n_zip (pa_cons (pv 0) (pa_cons (pv 1) pa_nil))) (pg_tup rfl (pgs_cons (pg_name (i := 2) sc_compared.nd rfl (Or.inl rfl)) (pgs_cons (pg_name (i := 3) sc_compared.nd rfl (Or.inl rfl)) pgs_nil))) (pss_cons (ps_if (pt_cmpR op_lt (pv 2) (pv 3) (nomark _)) (pss_one (ps_ret (pe_un un_neg pe_int))) pss_nil)
    (pss_one (ps_if (pt_cmpR op_gt (pv 2) (pv 3) (nomark _)) (pss_one (ps_ret pe_int)) pss_nil))))
    (pss_cons (ps_if (pt_cmpR op_eq (pe_callB call_len_seq (by rfl) T.n_len (by decide +kernel) (pa_cons (pv 0) pa_nil)) (pe_callB call_len_seq (by rfl) T.n_len (by decide +kernel) (pa_cons (pv 1) pa_nil)) (nomark _)) (pss_one (ps_ret pe_int)) pss_nil)
    (pss_cons (ps_if (pt_cmpR op_lt (pe_callB call_len_seq (by rfl) T.n_len (by decide +kernel) (pa_cons (pv 0) pa_nil)) (pe_callB call_len_seq (by rfl) T.n_len (by decide +kernel) (pa_cons (pv 1) pa_nil)) (nomark _)) (pss_one (ps_ret (pe_un un_neg pe_int))) pss_nil)
    (pss_one (ps_ret pe_int))))))), ?_⟩
    refine q_callD (ea_cons (ev_var rfl) ea_nil) fun H0 e0 => ⟨x, bx, rfl, hx.mono e0, fun hb H' e' => qE (by rw [hb]; rfl) H' (e0.trans e'), fun hb1 H1 e1 => ?_⟩
    refine q_callD (ea_cons (ev_var rfl) ea_nil) fun H2 e2 => ⟨y, bY, rfl, hy.mono (by walk_at "ex"), fun hb H' e' => qE (by rw [hb, hb1]; rfl) H' (by walk_at "ex"), fun hb2 H3 e3 => ?_⟩
    obtain ⟨a, b, l, m, rfl, rfl, hA, hB, q⟩ := q (by rw [hb1, hb2]; rfl)
    have e03 : Ex H H3 := by walk_at "ex"
    refine q_zip (ea_cons (ev_var rfl) (ea_cons (ev_var rfl) ea_nil)) (SqL.of (e03 a _ hA)) (SqL.of (e03 b _ hB)) (fun k σ' H' => ∃ y2 y3, σ' = [some (.ref a), some (.ref b), y2, y3] ∧ Ex H H' ∧ Mx.cmp l m = Mx.cmp (l.drop k) (m.drop k))
      (fun H4 e4 => ⟨_, _, rfl, by walk_at "ex", rfl⟩) (fun k σ' H' h => by obtain ⟨_, _, _, e, _⟩ := h; exact ⟨SqL.of (e a _ hA), SqL.of (e b _ hB)⟩) ?_ ?_
    · rintro k x y σ' H' hx hy ⟨y2, y3, rfl, eH, hc⟩ H4 e4
      obtain ⟨p, hp, rfl⟩ := nat_mem hx
      obtain ⟨r, hr, rfl⟩ := nat_mem hy
      rw [nat_drop hp, nat_drop hr, Mx.cmp_cons] at hc
      refine q_when (b := decide ((p : Int) < r)) (by walk_at "et") (fun hb H5 e5 => ?_) (fun hb H5 e5 => ?_)
      · have : p < r := by
          have := of_decide_eq_true hb
          omega
        rw [if_pos this] at hc
        rw [hc] at q
        exact s_ret (by walk_at "ev") fun H6 e6 => q H6 (by walk_at "ex")
      · have h1 : ¬ p < r := by
          have := of_decide_eq_false hb
          omega
        rw [if_neg h1] at hc
        refine s_when (b := decide ((r : Int) < p)) (by walk_at "et") (fun hb H6 e6 => ?_) (fun hb H6 e6 => ?_)
        · have : r < p := by
            have := of_decide_eq_true hb
            omega
          rw [if_pos this] at hc
          rw [hc] at q
          exact s_ret ev_c fun H7 e7 => q H7 (by walk_at "ex")
        · have h2 : ¬ r < p := by
            have := of_decide_eq_false hb
            omega
          rw [if_neg h2] at hc
          exact ⟨_, _, rfl, by walk_at "ex", hc⟩
    · rintro σ' H' ⟨y2, y3, rfl, eH, hc⟩
      rw [List.length_map, List.length_map, nat_len, nat_len] at hc
      have la : ∀ {H5}, Ex H H5 → Ev (tCB (rLenS K) (tCons (tVar 0) tNil)) [some (.ref a), some (.ref b), y2, y3] H5 (.int (l.length : Int)) := fun e => ev_eq (ev_len (ev_var rfl) (SqL.of (e a _ hA))) (by rw [List.length_map, nat_len])
      have lb : ∀ {H5}, Ex H H5 → Ev (tCB (rLenS K) (tCons (tVar 1) tNil)) [some (.ref a), some (.ref b), y2, y3] H5 (.int (m.length : Int)) := fun e => ev_eq (ev_len (ev_var rfl) (SqL.of (e b _ hB))) (by rw [List.length_map, nat_len])
      refine q_when (b := decide (l.length = m.length)) (et_eq (et_test (ev_op (la eH) (lb eH) (rv_eq rfl))) (decide_eq_decide.mpr ⟨fun h => by have := V.int.inj h; omega, fun h => by rw [h]⟩)) (fun hb H5 e5 => ?_) (fun hb H5 e5 => ?_)
      · have e := of_decide_eq_true hb
        have : Mx.cmp l m = 0 := by
          rw [hc, List.drop_of_length_le (by omega), List.drop_of_length_le (by omega)]
          rfl
        rw [this] at q
        exact s_ret ev_c fun H6 e6 => q H6 (by walk_at "ex")
      · have ne := of_decide_eq_false hb
        have e5' : Ex H H5 := by walk_at "ex"
        refine q_when (b := decide (l.length < m.length)) (et_eq (et_test (ev_op (la e5') (lb e5') rv_I0)) (decide_eq_decide.mpr (by omega))) (fun hb H6 e6 => ?_) (fun hb H6 e6 => ?_)
        · have lt := of_decide_eq_true hb
          have : Mx.cmp l m = -1 := by
            have h1 : min l.length m.length < m.length := by omega
            rw [hc, List.drop_of_length_le (by omega), List.drop_eq_getElem_cons h1]
            rfl
          rw [this] at q
          exact s_ret (by walk_at "ev") fun H7 e7 => q H7 (by walk_at "ex")
        · have nlt := of_decide_eq_false hb
          have : Mx.cmp l m = 1 := by
            have h1 : min l.length m.length < l.length := by omega
            rw [hc, List.drop_of_length_le (l := m) (by omega), List.drop_eq_getElem_cons h1]
            rfl
          rw [this] at q
          exact s_ret ev_c fun H7 e7 => q H7 (by walk_at "ex")

/-! going -/
def sp_going (T : Txt K mg) : Sp := fun vs H Q _ => ∃ v s, vs = [v] ∧ TupAt H v s ∧ RetL ((goingOf s).map V.int) H Q
theorem spl_going (T : Txt K mg) {v : V} {s : Stp} {H : Hp} (h : TupAt H v s) : SpL (sp_going T) [v] H ((goingOf s).map V.int) := fun H1 e Q q E => ⟨v, s, rfl, h.mono e, fun p H2 hp e2 h2 => q p H2 hp e2 h2⟩
theorem ok_going (T : Txt K mg) : FnOk P w K mg base CX0 1 T.f_going T.d_going ["step"] (sp_going T) := by
  refine T.F_going.ok sc_going (fun vs H Q E h => ?_) (fun cdv A outer s H vs Q E hr h => ?_)
  · obtain ⟨v, s, rfl, _⟩ := h
    rfl
  · obtain ⟨v, s, rfl, hv, q⟩ := h
    refine ⟨_, (pss_cons (ps_if (pt_cmpR op_eq (pe_ix ix_tup (pv 0) pe_int (fun _ _ => rfl)) pe_str (nomark _)) (pss_one (ps_ret (pe_lst (pa_cons (pe_ix ix_tup (pv 0) pe_int (fun _ _ => rfl)) (pa_cons (pe_op op_add (pe_ix ix_tup (pv 0) pe_int (fun _ _ => rfl)) pe_int) pa_nil))))) pss_nil)
    (pss_one (ps_ret (pe_lst (pa_cons (pe_ix ix_tup (pv 0) pe_int (fun _ _ => rfl)) (pa_cons (pe_ix ix_tup (pv 0) pe_int (fun _ _ => rfl)) pa_nil)))))), ?_⟩
    refine q_when (b := s.join) (et_join (ev_var rfl) hv) (fun hb H1 e1 => ?_) (fun hb H1 e1 => ?_)
    · refine s_retL (xs := (goingOf s).map V.int) (el_eq (el_lst (vs := [.int s.at_, .int (s.at_ + 1)]) (ea_cons (ev_st1 (ev_var rfl) (hv.mono e1)) (ea_cons (ev_op (ev_st1 (ev_var rfl) (hv.mono e1)) ev_c rv_I0) ea_nil)) (show 2 ≤ 100000 by decide)) ?_) fun p H2 hp e2 h2 => q p H2 (fresh_back e1 hp) (e1.trans e2) h2
      unfold goingOf
      rw [hb]
      rfl
    · refine s_retL (xs := (goingOf s).map V.int) (el_eq (el_lst (vs := [.int s.at_, .int s.at_]) (ea_cons (ev_st1 (ev_var rfl) (hv.mono e1)) (ea_cons (ev_st1 (ev_var rfl) (hv.mono e1)) ea_nil)) (show 2 ≤ 100000 by decide)) ?_) fun p H2 hp e2 h2 => q p H2 (fresh_back e1 hp) (e1.trans e2) h2
      unfold goingOf
      rw [hb]
      rfl

/-! coming -/
def sp_coming (T : Txt K mg) : Sp := fun vs H Q _ => ∃ v s, vs = [v] ∧ TupAt H v s ∧ RetL ((comingOf s).map V.int) H Q
theorem spl_coming (T : Txt K mg) {v : V} {s : Stp} {H : Hp} (h : TupAt H v s) : SpL (sp_coming T) [v] H ((comingOf s).map V.int) := fun H1 e Q q E => ⟨v, s, rfl, h.mono e, fun p H2 hp e2 h2 => q p H2 hp e2 h2⟩
theorem ok_coming (T : Txt K mg) : FnOk P w K mg base CX0 1 T.f_coming T.d_coming ["step"] (sp_coming T) := by
  refine T.F_coming.ok sc_coming (fun vs H Q E h => ?_) (fun cdv A outer s H vs Q E hr h => ?_)
  · obtain ⟨v, s, rfl, _⟩ := h
    rfl
  · obtain ⟨v, s, rfl, hv, q⟩ := h
    refine ⟨_, (pss_cons (ps_if (pt_cmpR op_eq (pe_ix ix_tup (pv 0) pe_int (fun _ _ => rfl)) pe_str (nomark _)) (pss_one (ps_ret (pe_lst (pa_cons (pe_op op_add (pe_ix ix_tup (pv 0) pe_int (fun _ _ => rfl)) pe_int) pa_nil)))) pss_nil)
    (pss_cons (ps_if (pt_cmpR op_eq (pe_ix ix_tup (pv 0) pe_int (fun _ _ => rfl)) pe_int (nomark _)) (pss_one (ps_ret (pe_lst (pa_cons pe_int pa_nil)))) pss_nil)
    (pss_cons (ps_if (pt_cmpR op_eq (pe_ix ix_tup (pv 0) pe_int (fun _ _ => rfl)) pe_int (nomark _)) (pss_one (ps_ret (pe_lst (pa_cons pe_int (pa_cons pe_int pa_nil))))) pss_nil)
    (pss_one (ps_ret (pe_lst (pa_cons (pe_op op_add (pe_ix ix_tup (pv 0) pe_int (fun _ _ => rfl)) pe_int) (pa_cons (pe_op op_sub (pe_ix ix_tup (pv 0) pe_int (fun _ _ => rfl)) pe_int) pa_nil)))))))), ?_⟩
    refine q_when (b := s.join) (et_join (ev_var rfl) hv) (fun hb H1 e1 => ?_) (fun hb H1 e1 => ?_)
    · refine s_retL (xs := (comingOf s).map V.int) (el_eq (el_lst (vs := [.int (s.at_ + 2)]) (ea_cons (ev_op (ev_st1 (ev_var rfl) (hv.mono e1)) ev_c rv_I0) ea_nil) (show 1 ≤ 100000 by decide)) ?_) fun p H2 hp e2 h2 => q p H2 (fresh_back e1 hp) (e1.trans e2) h2
      unfold comingOf
      rw [hb]
      rfl
    have at0 : ∀ {H' : Hp} (j : Int), Ex H H' → EvT (tTest (tOp rEq (tOp (rIxT K) (tVar 0) (tC (.int 1))) (tC (.int j)))) [some v] H' (decide (s.at_ = j)) := fun j e => et_eq (et_test (ev_op (ev_st1 (ev_var rfl) (hv.mono e)) ev_c (rv_eq rfl))) (decide_eq_decide.mpr ⟨fun h => V.int.inj h, fun h => by rw [h]⟩)
    refine q_when (b := decide (s.at_ = 0)) (at0 0 e1) (fun hb0 H2 e2 => ?_) (fun hb0 H2 e2 => ?_)
    · refine s_retL (xs := (comingOf s).map V.int) (el_eq (el_lst (ea_cons ev_c ea_nil) (show 1 ≤ 100000 by decide)) ?_) fun p H3 hp e3 h3 => q p H3 (fresh_back (e1.trans e2) hp) ((e1.trans e2).trans e3) h3
      unfold comingOf
      rw [hb, if_neg (by decide), if_pos (of_decide_eq_true hb0)]
      rfl
    refine q_when (b := decide (s.at_ = 1)) (at0 1 (e1.trans e2)) (fun hb1 H3 e3 => ?_) (fun hb1 H3 e3 => ?_)
    · refine s_retL (xs := (comingOf s).map V.int) (el_eq (el_lst (ea_cons ev_c (ea_cons ev_c ea_nil)) (show 2 ≤ 100000 by decide)) ?_) fun p H4 hp e4 h4 => q p H4 (fresh_back ((e1.trans e2).trans e3) hp) (((e1.trans e2).trans e3).trans e4) h4
      unfold comingOf
      rw [hb, if_neg (by decide), if_neg (of_decide_eq_false hb0), if_pos (of_decide_eq_true hb1)]
      rfl
    · refine s_retL (xs := (comingOf s).map V.int) (el_eq (el_lst (vs := [.int (s.at_ + 1), .int (s.at_ - 2)]) (ea_cons (ev_op (ev_st1 (ev_var rfl) (hv.mono ((e1.trans e2).trans e3))) ev_c rv_I0) (ea_cons (ev_op (ev_st1 (ev_var rfl) (hv.mono ((e1.trans e2).trans e3))) ev_c rv_I0) ea_nil)) (show 2 ≤ 100000 by decide)) ?_) fun p H4 hp e4 h4 => q p H4 (fresh_back ((e1.trans e2).trans e3) hp) (((e1.trans e2).trans e3).trans e4) h4
      unfold comingOf
      rw [hb, if_neg (by decide), if_neg (of_decide_eq_false hb0), if_neg (of_decide_eq_false hb1)]
      rfl

/-! behind -/
def sp_behind (T : Txt K mg) : Sp := fun vs H Q _ => ∃ a v s, ∃ ns : List Int, vs = [.ref a, v] ∧ H a = some (.lst (ns.map V.int)) ∧ TupAt H v s ∧ okStp ns s ∧ ns.length ≤ 3000 ∧ RetL ((behindOf ns s).map V.int) H Q
theorem spl_behind (T : Txt K mg) {a : Addr} {v : V} {s : Stp} {ns : List Int} {H : Hp} (hA : H a = some (.lst (ns.map V.int))) (h : TupAt H v s) (ok : okStp ns s) (hz : ns.length ≤ 3000) : SpL (sp_behind T) [.ref a, v] H ((behindOf ns s).map V.int) := fun H1 e Q q E => ⟨a, v, s, ns, rfl, e a _ hA, h.mono e, ok, hz, fun p H2 hp e2 h2 => q p H2 hp e2 h2⟩
theorem ok_behind (T : Txt K mg) : FnOk P w K mg base CX0 2 T.f_behind T.d_behind ["heap", "step"] (sp_behind T) := by
  refine T.F_behind.ok sc_behind (fun vs H Q E h => ?_) (fun cdv A outer s H vs Q E hr h => ?_)
  · obtain ⟨a, v, s, ns, rfl, _⟩ := h
    rfl
  · obtain ⟨a, v, s, ns, rfl, hA, hv, ok, hz, q⟩ := h
    refine ⟨_, (pss_cons (ps_set (i := 2) sc_behind.nd rfl (Or.inl rfl) (pe_callTy call_list_of (by rfl) T.n_list (by decide +kernel) (pa_cons (pv 0) pa_nil)))
    (pss_cons (ps_for PassesOwn.never rfl (pi_list (pe_call (ok_going T) (hr.mono (by decide)) (by rfl) T.g_going T.F_going.kp T.b_going .nil pass0 (pa_cons (pv 1) pa_nil))) (pg_name (i := 3) sc_behind.nd rfl (Or.inl rfl)) (pss_one (ps_expr (pe_bm PySem.F.plainAttrs_list PySem.F.slot_list_remove PySem.F.type_list_remove mt_remove (pv 2) (pa_cons (pv 3) pa_nil)))))
    (pss_one (ps_ret (pe_callBK (cr_sortedRev (b := true)) (by rfl) T.n_sorted (by decide +kernel) (pa_cons (pe_op op_cat (pv 2) (pe_call (ok_coming T) (hr.mono (by decide)) (by rfl) T.g_coming T.F_coming.kp T.b_coming .nil pass0 (pa_cons (pv 1) pa_nil))) pa_nil) (pk_cons pe_bl pk_nil)))))), ?_⟩
    have two := (two_erase ok).2
    refine q_asgL (el_list (ev_var rfl) (SqL.of hA)) fun m H1 nm e1 h1 => ?_
    refine q_forNLn (el_call (ea_cons (ev_var rfl) ea_nil) (spl_going T (hv.mono e1))) (fun p i σ' H' => ∃ y, σ' = [some (.ref a), some v, some (.ref m), y] ∧ Ex H H' ∧ H' p = some (.lst ((goingOf s).map V.int)) ∧ p ≠ m ∧ H' m = some (.lst ((((goingOf s).take i).foldl List.erase ns).map V.int)))
      (fun p H2 np e2 h2 => ⟨none, rfl, by walk_at "ex", h2, (fun e => by rw [e, h1] at np; cases np), ex_to e2 h1⟩) (fun p i σ' H' _ h => by obtain ⟨y, _, _, h, _⟩ := h; exact SqL.of h) ?_ ?_
    · rintro p i x σ' H' hi ⟨y, rfl, eH, hP, npm, hM⟩
      obtain ⟨k, hk, rfl⟩ := int_mem hi
      have hmem : k ∈ ((goingOf s).take i).foldl List.erase ns := by
        have g : goingOf s = [s.at_, if s.join then s.at_ + 1 else s.at_] := by unfold goingOf; split <;> rfl
        rw [g] at hk ⊢
        match i, hk with
        | 0, hk =>
          have : s.at_ = k := by simpa using hk
          rw [← this]
          exact ok.1
        | 1, hk =>
          have : (if s.join then s.at_ + 1 else s.at_) = k := by simpa using hk
          rw [← this]
          exact two
        | i + 2, hk => simp at hk
      refine s_remove hM (ev_var rfl) (ev_var rfl) hmem fun H3 e3 => ⟨_, rfl, Ex.mut (by walk_at "ex") nm, (upd_ne npm).trans (ex_to e3 hP), npm, ?_⟩
      rw [upd_same, List.take_add_one, hk, Option.toList_some, List.foldl_append]
      rfl
    · rintro p σ' H' ⟨y, rfl, eH, hP, npm, hM⟩
      have g : ((goingOf s).take ((goingOf s).map V.int).length).foldl List.erase ns = (ns.erase s.at_).erase (if s.join then s.at_ + 1 else s.at_) := by
        rw [List.length_map, List.take_length]
        unfold goingOf
        split <;> rfl
      rw [g] at hM
      have hl : ((ns.erase s.at_).erase (if s.join then s.at_ + 1 else s.at_)).length ≤ ns.length := Nat.le_trans (List.length_erase_le) (List.length_erase_le)
      have cl := coming_len s
      exact s_retL (xs := (behindOf ns s).map V.int) (el_sortedRevL (ns := rawBehind ns s) (el_eq (el_cat (ev_var rfl) hM (el_call (ea_cons (ev_var rfl) ea_nil) (spl_coming T (hv.mono eH))) (by rw [List.length_map, List.length_map]; omega)) (by unfold rawBehind; rw [List.map_append])) (fun _ _ => ev_c)) fun r H2 hr e2 h2 => q r H2 (fresh_back eH hr) (by walk_at "ex") h2

/-! highest_step -/
def sp_highest_step (T : Txt K mg) : Sp := fun vs H Q _ => ∃ a, ∃ ms : List Int, vs = [.ref a] ∧ H a = some (.lst (ms.map V.int)) ∧ RetHi (hiStep ms) H Q
theorem ok_highest_step (T : Txt K mg) : FnOk P w K mg base CX0 1 T.f_highest_step T.d_highest_step ["marks"] (sp_highest_step T) := by
  refine T.F_highest_step.ok sc_highest_step (fun vs H Q E h => ?_) (fun cdv A outer s H vs Q E hr h => ?_)
  · obtain ⟨a, ms, rfl, _⟩ := h
    rfl
  · obtain ⟨a, ms, rfl, hA, q⟩ := h
    refine ⟨_, (pss_cons (ps_for PassesOwn.never rfl (pi_zip (by rfl) T.n_zip (pa_cons (pv 0) (pa_cons (pe_slice sl_list (pv 0) (po_some pe_int) po_none) pa_nil))) (pg_tup rfl (pgs_cons (pg_name (i := 1) sc_highest_step.nd rfl (Or.inl rfl)) (pgs_cons (pg_name (i := 2) sc_highest_step.nd rfl (Or.inl rfl)) pgs_nil))) (pss_cons (ps_if (pt_cmpR op_eq (pv 1) (pv 2) (nomark _)) (pss_one (ps_ret (pe_tup (pa_cons pe_str (pa_cons (pv 1) pa_nil))))) pss_nil)
    (pss_one (ps_if (pt_cmpR op_eq (pv 1) (pe_op op_add (pv 2) pe_int) (nomark _)) (pss_one (ps_ret (pe_tup (pa_cons pe_str (pa_cons (pv 2) pa_nil))))) pss_nil))))
    (pss_one (ps_ret pe_non))), ?_⟩
    refine q_zipVL (ys := (ms.drop 1).map V.int) (ev_var rfl) (SqL.of hA) (el_eq (el_slI (lo := some 1) (hi := none) (ev_var rfl) (eo_some ev_c) eo_none (SqL.of hA)) (by rw [cut_tail])) (fun b k σ' H' => ∃ y2 y3, σ' = [some (.ref a), y2, y3] ∧ Ex H H' ∧ H' b = some (.lst ((ms.drop 1).map V.int)) ∧ hiStep ms = hiStep (ms.drop k))
      (fun b H1 nb e1 hb => ⟨_, _, rfl, e1, hb, rfl⟩) (fun b k σ' H' h => by obtain ⟨_, _, _, e, hb, _⟩ := h; exact ⟨SqL.of (e a _ hA), SqL.of hb⟩) ?_ ?_
    · rintro b k x y σ' H' hx hy ⟨y2, y3, rfl, eH, hB, hk⟩ H1 e1
      obtain ⟨u, hu, rfl⟩ := int_mem hx
      obtain ⟨v, hv, rfl⟩ := int_mem hy
      rw [List.getElem?_drop] at hv
      have hd : ms.drop k = u :: v :: ms.drop (k + 2) := by
        obtain ⟨l1, g1⟩ := List.getElem?_eq_some_iff.mp hu
        obtain ⟨l2, g2⟩ := List.getElem?_eq_some_iff.mp hv
        rw [List.drop_eq_getElem_cons l1, g1, List.drop_eq_getElem_cons (show k + 1 < ms.length by omega)]
        have : ms[k + 1] = v := by
          have e : 1 + k = k + 1 := by omega
          simp only [e] at g2
          exact g2
        rw [this]
      have hd1 : ms.drop (k + 1) = v :: ms.drop (k + 2) := by
        have := congrArg (List.drop 1) hd
        rw [List.drop_drop] at this
        exact this
      rw [hd, hiStep_two] at hk
      refine q_when (b := decide (u = v)) (et_eq (et_test (ev_op (ev_var rfl) (ev_var rfl) (rv_eq rfl))) (decide_eq_decide.mpr ⟨fun h => V.int.inj h, fun h => by rw [h]⟩)) (fun hb H2 e2 => ?_) (fun hb H2 e2 => ?_)
      · have e := of_decide_eq_true hb
        rw [if_pos e] at hk
        refine eu_tup (ea_cons ev_c (ea_cons (ev_var (i := 1) (v := .int u) rfl) ea_nil)) (show 2 ≤ 100000 by decide) H2 (Ex.refl _) _ fun t H3 nt e3 h3 => ?_
        exact q (.ref t) H3 (by walk_at "ex") (.inr ⟨⟨false, u⟩, hk, t, rfl, h3⟩)
      · rw [if_neg (of_decide_eq_false hb)] at hk
        refine s_when (b := decide (u = v + 1)) (et_eq (et_test (ev_op (ev_var rfl) (ev_op (ev_var rfl) ev_c rv_I0) (rv_eq rfl))) (decide_eq_decide.mpr ⟨fun h => V.int.inj h, fun h => by rw [h]⟩)) (fun hb2 H3 e3 => ?_) (fun hb2 H3 e3 => ?_)
        · rw [if_pos (of_decide_eq_true hb2)] at hk
          refine eu_tup (ea_cons ev_c (ea_cons (ev_var (i := 2) (v := .int v) rfl) ea_nil)) (show 2 ≤ 100000 by decide) H3 (Ex.refl _) _ fun t H4 nt e4 h4 => ?_
          exact q (.ref t) H4 (by walk_at "ex") (.inr ⟨⟨true, v⟩, hk, t, rfl, h4⟩)
        · rw [if_neg (of_decide_eq_false hb2)] at hk
          exact ⟨_, _, rfl, by walk_at "ex", by walk_at "at", by rw [hk, hd1]⟩
    · rintro b σ' H' ⟨y2, y3, rfl, eH, hB, hk⟩
      have hn : hiStep ms = none := by
        rw [hk, List.length_map, List.length_map, List.length_drop]
        have : (ms.drop (min ms.length (ms.length - 1))).length ≤ 1 := by rw [List.length_drop]; omega
        generalize ms.drop (min ms.length (ms.length - 1)) = r at this
        match r, this with
        | [], _ => rfl
        | [x], _ => rfl
      exact s_ret ev_c fun H2 e2 => q .non H2 (eH.trans e2) (.inl ⟨hn, rfl⟩)

/-! settled_from_above -/
def RetTop (ns : List Int) (H : Hp) (Q : VK) : Prop := ∀ t F R vs ss l H2, H F = none → H R = none → F ≠ R → Ex H H2 → H2 t = some (.tup [.ref F, .ref R]) → H2 F = some (.lst ((Mx.nat l).map V.int)) → H2 R = some (.lst vs) → StAll H2 vs ss →
  Led ns ss → (Mx.nat l).Perm (ss.foldl rawBehind ns) → Mx.Fm l → Q (.ref t) H2
def sp_settled_from_above (T : Txt K mg) : Sp := fun vs H Q _ => ∃ a, ∃ ns : List Int, vs = [.ref a] ∧ H a = some (.lst (ns.map V.int)) ∧ (∀ q ∈ ns, 0 ≤ q) ∧ ns.length ≤ 2500 ∧ sumOf wtI ns ≤ 10000000 ∧ RetTop ns H Q
theorem ok_settled_from_above (T : Txt K mg) : FnOk P w K mg base CX0 3 T.f_settled_from_above T.d_settled_from_above ["heap"] (sp_settled_from_above T) := by
  refine T.F_settled_from_above.ok sc_settled_from_above (fun vs H Q E h => ?_) (fun cdv A outer s H vs Q E hr h => ?_)
  · obtain ⟨a, ns, rfl, _⟩ := h
    rfl
  · obtain ⟨a, ns, rfl, hA, hn, hz, hw, q⟩ := h
    refine ⟨_, (pss_cons (ps_set (i := 1) sc_settled_from_above.nd rfl (Or.inl rfl) (pe_callBK (cr_sortedRev (b := true)) (by rfl) T.n_sorted (by decide +kernel) (pa_cons (pv 0) pa_nil) (pk_cons pe_bl pk_nil)))
    (pss_cons (ps_set (i := 2) sc_settled_from_above.nd rfl (Or.inl rfl) (pe_lst pa_nil))
    (pss_cons (ps_set (i := 3) sc_settled_from_above.nd rfl (Or.inl rfl) (pe_call (ok_highest_step T) (hr.mono (by decide)) (by rfl) T.g_highest_step T.F_highest_step.kp T.b_highest_step .nil pass0 (pa_cons (pv 1) pa_nil)))
    (pss_cons (ps_while PassesOwn.never (pt_cmpR op_notN (pv 3) pe_non (nomark _)) (pss_cons (ps_set (i := 1) sc_settled_from_above.nd rfl (Or.inl rfl) (pe_call (ok_behind T) (hr.mono (by decide)) (by rfl) T.g_behind T.F_behind.kp T.b_behind .nil pass0 (pa_cons (pv 1) (pa_cons (pv 3) pa_nil))))
    (pss_cons (ps_expr (pe_bm PySem.F.plainAttrs_list PySem.F.slot_list_append PySem.F.type_list_append mt_append (pv 2) (pa_cons (pv 3) pa_nil)))
    (pss_one (ps_set (i := 3) sc_settled_from_above.nd rfl (Or.inl rfl) (pe_call (ok_highest_step T) (hr.mono (by decide)) (by rfl) T.g_highest_step T.F_highest_step.kp T.b_highest_step .nil pass0 (pa_cons (pv 1) pa_nil)))))))
    (pss_one (ps_ret (pe_tup (pa_cons (pv 1) (pa_cons (pv 2) pa_nil))))))))), ?_⟩
    refine q_asgL (el_sortedRev (ev_var rfl) (SqL.of hA) (fun _ _ => ev_c)) fun m0 H3 nm0 e3 hM0 => ?_
    refine q_asgL (el_lst ea_nil (by decide)) fun r H4 nr e4 hR => ?_
    have hM04 := ex_to e4 hM0
    have nr3 : H r = none := fresh_back e3 nr
    have nm0r : m0 ≠ r := ne_of_none hM0 nr
    have k0 : Keeps ns ns := ⟨hn, Nat.le_refl _, rfl⟩
    refine q_callA (ea_cons (ev_var rfl) ea_nil) fun H5 e5 => ⟨m0, desc ns, rfl, ex_to e5 hM04, fun x H6 e6 hx => ?_⟩
    refine q_while
        (fun n σ' H' => ∃ m vs ss ms x, σ' = [some (.ref a), some (.ref m), some (.ref r), some x] ∧ Ex H H' ∧ H' m = some (.lst (ms.map V.int)) ∧ m ≠ r ∧ H m = none ∧ H' r = some (.lst vs) ∧ StAll H' vs ss ∧ HiAt (hiStep ms) H' x ∧ Led ns ss ∧ ms.Perm (ss.foldl rawBehind ns) ∧ ms.Pairwise (· ≥ ·) ∧ (n : Int) = sumOf wtI ms) (sumOf wtI ns).toNat
        ⟨m0, [], [], desc ns, x, rfl, by walk_at "ex", ex_to e6 (ex_to e5 hM04), nm0r, nm0, ex_to e6 (ex_to e5 hR), trivial, hx, trivial, desc_perm ns, desc_ge ns, by
          rw [sumOf_perm (desc_perm ns)]
          have := wtI_nonneg hn
          omega⟩ ?_
    rintro n σ' H' ⟨m, vs, ss, ms, x, rfl, eH, hM, nmr, nm, hR', gR, hx, hG, hp, hd, hm⟩
    obtain ⟨⟨kn, kl, kv⟩, kw⟩ := led_keeps hG k0
    have mlen := hp.length_eq
    have vl := gR.len
    have hn' : ∀ q ∈ ms, 0 ≤ q := fun q hq => kn q (hp.mem_iff.mp hq)
    have w0 := wtI_nonneg hn'
    have wp := sumOf_perm (f := wtI) hp
    refine ⟨(hiStep ms).isSome, et_eq (et_test (ev_op (ev_var rfl) ev_c rv_notN)) ?_, fun hb H7 e7 => ?_, fun hb H7 e7 => ?_⟩
    · rcases hx with ⟨h1, rfl⟩ | ⟨s, h1, t, rfl, h2⟩
      · rw [h1]; rfl
      · rw [h1]; rfl
    · rcases hx with ⟨h1, rfl⟩ | ⟨s, h1, hvs⟩
      · rw [h1] at hb
        cases hb
      have ok : okStp ms s := hi_ok h1
      refine ⟨fun σ2 H2' => ∃ n', n' < n ∧ ∃ m vs ss ms x, σ2 = [some (.ref a), some (.ref m), some (.ref r), some x] ∧ Ex H H2' ∧ H2' m = some (.lst (ms.map V.int)) ∧ m ≠ r ∧ H m = none ∧ H2' r = some (.lst vs) ∧ StAll H2' vs ss ∧ HiAt (hiStep ms) H2' x ∧ Led ns ss ∧ ms.Perm (ss.foldl rawBehind ns) ∧ ms.Pairwise (· ≥ ·) ∧ (n' : Int) = sumOf wtI ms, fun σ2 H2' hW => hW, ?_⟩
      refine q_asgL (el_call (ea_cons (ev_var rfl) (ea_cons (ev_var rfl) ea_nil)) (spl_behind T (ex_to e7 hM) (hvs.mono e7) ok (by omega))) fun m2 H9 nm2 e9 hM2 => ?_
      have e79 := e7.trans e9
      have hR9 := ex_to e79 hR'
      have nm2r : m2 ≠ r := fun e => by rw [e, ex_to e7 hR'] at nm2; cases nm2
      refine q_appBig hR9 (ev_var rfl) (ev_var rfl) (by omega) fun H10 e10 => ?_
      have hR10 := ex_to e10 hR9
      have hM11 := (upd_ne (H := H10) (o := .lst (vs ++ [x])) nm2r).trans (ex_to e10 hM2)
      have eU : Ex H (upd H10 r (.lst (vs ++ [x]))) := Ex.mut (by walk_at "ex") nr3
      have gU : StAll (upd H10 r (.lst (vs ++ [x]))) (vs ++ [x]) (ss ++ [s]) := ((gR.mono (e79.trans e10)).upd hR10).snoc ((hvs.mono (e79.trans e10)).upd hR10)
      have hRU : (upd H10 r (.lst (vs ++ [x]))) r = some (.lst (vs ++ [x])) := upd_same
      generalize upd H10 r (.lst (vs ++ [x])) = H11 at hM11 eU gU hRU
      have pb : (behindOf ms s).Perm (rawBehind ms s) := desc_perm _
      have pf : (behindOf ms s).Perm ((ss ++ [s]).foldl rawBehind ns) := by
        rw [List.foldl_append]
        exact pb.trans (raw_perm hp)
      have hG2 : Led ns (ss ++ [s]) := led_snoc hG (okStp_perm hp ok)
      have wd := wtI_behind ok hn'
      rw [← sumOf_perm pb] at wd
      have w2p : 0 ≤ sumOf wtI (behindOf ms s) := wtI_nonneg fun q hq => (raw_mem ok hn' q (pb.mem_iff.mp hq)).1
      refine s_callA (ea_cons (ev_var rfl) ea_nil) fun H12 e12 => ⟨m2, behindOf ms s, rfl, ex_to e12 hM11, ?_⟩
      exact fun y H13 e13 hy => ⟨(sumOf wtI (behindOf ms s)).toNat, by omega, m2, vs ++ [x], ss ++ [s], behindOf ms s, y, rfl, eU.trans (e12.trans e13), ex_to (e12.trans e13) hM11, nm2r, fresh_back (by walk_at "ex") nm2, ex_to (e12.trans e13) hRU, gU.mono (e12.trans e13), hy, hG2, pf, desc_ge _, by omega⟩
    · have hs : hiStep ms = none := by
        cases e : hiStep ms with
        | none => rfl
        | some s => rw [e] at hb; cases hb
      obtain ⟨l, rfl, lF⟩ := fall_form (hi_none hs hd) hn'
      refine eu_tup (ea_cons (ev_var (i := 1) (v := .ref m) rfl) (ea_cons (ev_var (i := 2) (v := .ref r) rfl) ea_nil)) (show 2 ≤ 100000 by decide) H7 (Ex.refl _) _ fun t H8 nt e8 h8 => ?_
      exact q t m r vs ss l H8 nm nr3 nmr (by walk_at "ex") h8 (ex_to e8 (ex_to e7 hM)) (ex_to e8 (ex_to e7 hR')) (gR.mono (e7.trans e8)) hG hp lF

/-! added -/
theorem wt_nat {l : List Nat} (h : ∀ p ∈ l, p < 1000) : sumOf wtI (Mx.nat l) ≤ 3010 * l.length := by
  have := sumOf_le (f := wtI) (c := 3010) (ns := Mx.nat l) fun q hq => by
    obtain ⟨p, hp, rfl⟩ := List.mem_map.mp hq
    have := h p hp
    unfold wtI
    split <;> omega
  rw [nat_len] at this
  exact this
def sp_added (T : Txt K mg) : Sp := fun vs H Q E => ∃ x y bx bY, vs = [x, y] ∧ FmT K H x bx ∧ FmT K H y bY ∧ ((bx && bY) = false → ∀ H', Ex H H' → E (.ref T.a_NoForm) none H') ∧
  ((bx && bY) = true → ∃ a b l m, x = .ref a ∧ y = .ref b ∧ H a = some (.lst ((Mx.nat l).map V.int)) ∧ H b = some (.lst ((Mx.nat m).map V.int)) ∧ (∀ p ∈ l, p < 1000) ∧ (∀ p ∈ m, p < 1000) ∧ l.length ≤ 100 ∧ m.length ≤ 100 ∧ RetTop (Mx.nat (l ++ m)) H Q)
theorem ok_added (T : Txt K mg) : FnOk P w K mg base (L2.CX P w) 4 T.f_added T.d_added ["one", "other"] (sp_added T) := by
  refine T.F_added.okX sc_added (fun vs H Q E h => ?_) (fun cdv A outer s H vs Q E hr h => ?_)
  · obtain ⟨x, y, bx, bY, rfl, _⟩ := h
    rfl
  · obtain ⟨x, y, bx, bY, rfl, hx, hy, qE, q⟩ := h
    refine ⟨_, (pss_cons (ps_expr (pe_call (ok_need_form T) (hr.mono (by decide)) (by rfl) T.g_need_form T.F_need_form.kp T.b_need_form .nil (passes_call (takes_of rfl rfl rfl rfl) (fun _ _ _ _ h => h)) (pa_cons (pv 0) pa_nil)))
    (pss_cons (ps_expr (pe_call (ok_need_form T) (hr.mono (by decide)) (by rfl) T.g_need_form T.F_need_form.kp T.b_need_form .nil (passes_call (takes_of rfl rfl rfl rfl) (fun _ _ _ _ h => h)) (pa_cons (pv 1) pa_nil)))
    (pss_one (ps_ret (pe_call (ok_settled_from_above T) (hr.mono (by decide)) (by rfl) T.g_settled_from_above T.F_settled_from_above.kp T.b_settled_from_above .nil pass0 (pa_cons (pe_op op_cat (pv 0) (pv 1)) pa_nil)))))), ?_⟩
    refine q_callD (ea_cons (ev_var rfl) ea_nil) fun H0 e0 => ⟨x, bx, rfl, hx.mono e0, fun hb H' e' => qE (by rw [hb]; rfl) H' (e0.trans e'), fun hb1 H1 e1 => ?_⟩
    refine q_callD (ea_cons (ev_var rfl) ea_nil) fun H2 e2 => ⟨y, bY, rfl, hy.mono (by walk_at "ex"), fun hb H' e' => qE (by rw [hb, hb1]; rfl) H' (by walk_at "ex"), fun hb2 H3 e3 => ?_⟩
    obtain ⟨a, b, l, m, rfl, rfl, hA, hB, hl, hm, lz, mz, q⟩ := q (by rw [hb1, hb2]; rfl)
    have e03 : Ex H H3 := by walk_at "ex"
    have hb : ∀ p ∈ l ++ m, p < 1000 := fun p hp => by
      rcases List.mem_append.mp hp with g | g
      · exact hl p g
      · exact hm p g
    refine el_catV (ev_var (i := 0) (v := .ref a) (σ := [some (.ref a), some (.ref b)]) rfl) (ex_to e03 hA) (ev_var (i := 1) (v := .ref b) rfl) (ex_to e03 hB) (by rw [List.length_map, List.length_map, nat_len, nat_len]; omega) H3 (Ex.refl _) _ fun P H4 nP e4 hP => ?_
    refine ⟨P, Mx.nat (l ++ m), rfl, by rw [nat_cat]; exact hP, fun q hq => by obtain ⟨p, _, rfl⟩ := List.mem_map.mp hq; omega, by rw [nat_len, List.length_append]; omega, ?_, ?_⟩
    · have := wt_nat hb
      rw [List.length_append] at this
      omega
    · intro t F R vs ss l2 H5 nF nR nFR e5 ht hF hR gR hG hp lF
      exact q t F R vs ss l2 H5 (fresh_back (e03.trans e4) nF) (fresh_back (e03.trans e4) nR) nFR ((e03.trans e4).trans e5) ht hF hR gR hG hp lF

/-! opened -/
def sp_opened (T : Txt K mg) : Sp := fun vs H Q _ => ∃ p : Int, vs = [.int p] ∧ RetL ((openOf p).map V.int) H Q
theorem spl_opened (T : Txt K mg) {p : Int} {H : Hp} : SpL (sp_opened T) [.int p] H ((openOf p).map V.int) := fun H1 e Q q E => ⟨p, rfl, fun r H2 hr e2 h2 => q r H2 hr e2 h2⟩
theorem ok_opened (T : Txt K mg) : FnOk P w K mg base CX0 1 T.f_opened T.d_opened ["place"] (sp_opened T) := by
  refine T.F_opened.ok sc_opened (fun vs H Q E h => ?_) (fun cdv A outer s H vs Q E hr h => ?_)
  · obtain ⟨p, rfl, _⟩ := h
    rfl
  · obtain ⟨p, rfl, q⟩ := h
    refine ⟨_, (pss_cons (ps_if (pt_cmpR op_eq (pv 0) pe_int (nomark _)) (pss_one (ps_ret (pe_lst (pa_cons pe_int (pa_cons pe_int pa_nil))))) pss_nil)
    (pss_one (ps_ret (pe_lst (pa_cons (pe_op op_sub (pv 0) pe_int) (pa_cons (pe_op op_sub (pv 0) pe_int) pa_nil)))))), ?_⟩
    refine q_when (b := decide (p = 1)) (et_eq (et_test (ev_op (ev_var rfl) ev_c (rv_eq rfl))) (decide_eq_decide.mpr ⟨fun h => V.int.inj h, fun h => by rw [h]⟩)) (fun hb H1 e1 => ?_) (fun hb H1 e1 => ?_)
    · refine s_retL (xs := (openOf p).map V.int) (el_eq (el_lst (ea_cons ev_c (ea_cons ev_c ea_nil)) (show 2 ≤ 100000 by decide)) ?_) fun r H2 hr e2 h2 => q r H2 (fresh_back e1 hr) (e1.trans e2) h2
      unfold openOf
      rw [if_pos (of_decide_eq_true hb)]
      rfl
    · refine s_retL (xs := (openOf p).map V.int) (el_eq (el_lst (vs := [.int (p - 1), .int (p - 2)]) (ea_cons (ev_op (ev_var rfl) ev_c rv_I0) (ea_cons (ev_op (ev_var rfl) ev_c rv_I0) ea_nil)) (show 2 ≤ 100000 by decide)) ?_) fun r H2 hr e2 h2 => q r H2 (fresh_back e1 hr) (e1.trans e2) h2
      unfold openOf
      rw [if_neg (of_decide_eq_false hb)]
      rfl

/-! lent -/
def sp_lent (T : Txt K mg) : Sp := fun vs H Q _ => ∃ a c l m, vs = [.ref a, .ref c] ∧ H a = some (.lst ((Mx.nat l).map V.int)) ∧ H c = some (.lst ((Mx.nat m).map V.int)) ∧ Mx.Fm l ∧ Mx.Fm m ∧ (∀ p ∈ l, p < 1000) ∧ l.length ≤ 100 ∧ Mx.val m ≤ Mx.val l ∧
  ∀ t R L row left H2, H R = none → H L = none → R ≠ L → Ex H H2 → H2 t = some (.tup [.ref R, .ref L]) → H2 R = some (.lst (row.map V.int)) → H2 L = some (.lst (left.map V.int)) → OpLed (Mx.nat l) row → (row.foldl openRaw (Mx.nat l)).Perm (left ++ Mx.nat m) → (∀ x ∈ left, 0 ≤ x ∧ x < 1000) → left.length ≤ 1100 → row.length ≤ 1000 → Q (.ref t) H2
theorem ok_lent (T : Txt K mg) : FnOk P w K mg base CX0 2 T.f_lent T.d_lent ["one", "other"] (sp_lent T) := by
  refine T.F_lent.ok sc_lent (fun vs H Q E h => ?_) (fun cdv A outer s H vs Q E hr h => ?_)
  · obtain ⟨a, c, l, m, rfl, _⟩ := h
    rfl
  · obtain ⟨a, c, l, m, rfl, hA, hC, lF, mF, lb, lz, hv, q⟩ := h
    refine ⟨_, (pss_cons (ps_set (i := 2) sc_lent.nd rfl (Or.inl rfl) (pe_callTy call_list_of (by rfl) T.n_list (by decide +kernel) (pa_cons (pv 0) pa_nil)))
    (pss_cons (ps_set (i := 3) sc_lent.nd rfl (Or.inl rfl) (pe_lst pa_nil))
    (pss_cons (ps_for PassesOwn.never rfl (pi_list (pv 1)) (pg_name (i := 4) sc_lent.nd rfl (Or.inr rfl)) (pss_cons (ps_while PassesOwn.never (pt_cmpR op_notIn_seq (pv 4) (pv 2) (by rfl)) (pss_cons (ps_set (i := 5) sc_lent.nd rfl (Or.inl rfl) (pe_callB (cr_min rfl) (by rfl) T.n_min (by decide +kernel) (pa_cons (pe_lc (own := [("mark", 6)]) (g := gName 6)  rfl sc_lent.nd (pi_list (pv 2)) (blkOk_by (own := [("mark", 6)]) (N := N_lent) (sc := defScope s_lent) (by decide +kernel)) (fun _ _ _ _ _ => (pg_name (i := 6) sc_lent.nd rfl (Or.inl rfl))) (fun _ _ _ _ _ => (pts_one (pt_cmpR op_gt (pv 6) (pv 4) (nomark _)))) (fun _ _ _ _ _ => (pv 6))) pa_nil)))
    (pss_cons (ps_expr (pe_bm PySem.F.plainAttrs_list PySem.F.slot_list_append PySem.F.type_list_append mt_append (pv 3) (pa_cons (pv 5) pa_nil)))
    (pss_cons (ps_expr (pe_bm PySem.F.plainAttrs_list PySem.F.slot_list_remove PySem.F.type_list_remove mt_remove (pv 2) (pa_cons (pv 5) pa_nil)))
    (pss_one (ps_expr (pe_bm PySem.F.plainAttrs_list PySem.F.slot_list_extend PySem.F.type_list_extend mt_extend (pv 2) (pa_cons (pe_call (ok_opened T) (hr.mono (by decide)) (by rfl) T.g_opened T.F_opened.kp T.b_opened .nil pass0 (pa_cons (pv 5) pa_nil)) pa_nil))))))))
    (pss_one (ps_expr (pe_bm PySem.F.plainAttrs_list PySem.F.slot_list_remove PySem.F.type_list_remove mt_remove (pv 2) (pa_cons (pv 4) pa_nil))))))
    (pss_one (ps_ret (pe_tup (pa_cons (pv 3) (pa_cons (pv 2) pa_nil)))))))), ?_⟩
    refine q_asgL (el_list (ev_var rfl) (SqL.of hA)) fun x H1 nx e1 hX1 => ?_
    refine q_asgL (el_lst ea_nil (by decide)) fun r H2 nr e2 hR2 => ?_
    have nr0 : H r = none := fresh_back e1 nr
    have nxr : x ≠ r := ne_of_none hX1 nr
    refine q_forLn (xs := (Mx.nat m).map V.int) (ev_var rfl) (SqL.of (ex_to e2 (ex_to e1 hC))) (fun i σ' H' => ∃ (L row : List Int) (b : Nat) (y4 y5 : Option V), σ' = [some (.ref a), some (.ref c), some (.ref x), some (.ref r), y4, y5, none] ∧ Ex H H' ∧ H' x = some (.lst (L.map V.int)) ∧ H' r = some (.lst (row.map V.int)) ∧ Pre (Mx.nat l) L row b (m.take i) (m.drop i))
      (fun H3 e3 => ⟨Mx.nat l, [], 1000, none, none, rfl, by walk_at "ex", ex_to e3 (ex_to e2 hX1), ex_to e3 hR2, pre_first lF lb⟩) (fun i σ' H' _ h => by obtain ⟨_, _, _, _, _, _, e, _⟩ := h; exact SqL.of (ex_to e hC)) ?_ ?_
    · rintro i z σ' H' hi ⟨L, row, b, y4, y5, rfl, eH, hX, hR, hP⟩
      obtain ⟨p, hp, rfl⟩ := nat_mem hi
      have hd := nat_drop hp
      rw [hd] at hP
      have ht : m.take i ++ p :: m.drop (i + 1) = m := by rw [← hd, List.take_append_drop]
      have hr2 : ∀ r ∈ m.drop (i + 1), r + 2 ≤ p := by
        have f : Mx.Fm (m.drop i) := List.Pairwise.drop mF
        rw [hd] at f
        exact Mx.fm_lt f
      have hmid := pre_mid hP (by rw [ht, memI_nat]; exact hv)
      refine q_while (fun n σ2 H2' => ∃ (L row : List Int) (b : Nat) (y5 : Option V), n = b ∧ σ2 = [some (.ref a), some (.ref c), some (.ref x), some (.ref r), some (.int (p : Int)), y5, none] ∧ Ex H H2' ∧ H2' x = some (.lst (L.map V.int)) ∧ H2' r = some (.lst (row.map V.int)) ∧ Mid (Mx.nat l) L row b (m.take i) p (m.drop (i + 1))) b ⟨L, row, b, y5, rfl, rfl, eH, hX, hR, hmid⟩ ?_
      clear hP hmid hX hR eH
      rintro n σ2 H3 ⟨L, row, b, y5, rfl, rfl, eH, hX, hR, hM⟩
      have hbd := hM.1.bd
      have hln := hM.1.ln
      rw [nat_len] at hln
      refine ⟨!decide ((p : Int) ∈ L), et_test (ev_op (ev_var rfl) (ev_var rfl) (rv_notinI (SqL.of hX))), fun hb H4 e4 => ?_, fun hb H4 e4 => ?_⟩
      · have hpL : (p : Int) ∉ L := by simpa using hb
        refine ⟨fun σ3 H5 => ∃ n', n' < n ∧ ∃ (L row : List Int) (b : Nat) (y5 : Option V), n' = b ∧ σ3 = [some (.ref a), some (.ref c), some (.ref x), some (.ref r), some (.int (p : Int)), y5, none] ∧ Ex H H5 ∧ H5 x = some (.lst (L.map V.int)) ∧ H5 r = some (.lst (row.map V.int)) ∧ Mid (Mx.nat l) L row b (m.take i) p (m.drop (i + 1)), fun σ3 H5 hW => hW, ?_⟩
        have hex : ∃ w ∈ L, (p : Int) < w := by
          rcases hM.2.2.1 with e | ⟨w, w1, w2, _⟩
          · exact absurd e hpL
          · exact ⟨w, w1, w2⟩
        refine q_minL (ns := L.filter fun w => decide ((p : Int) < w)) (el_mapIf (fun w => decide ((p : Int) < w)) (fun w => V.int w) (ev_var rfl) (SqL.of (ex_to e4 hX)) (by omega) (fun _ => rfl) (fun w H5 e5 hw => et_test (ev_op (ev_var rfl) (ev_var rfl) rv_I0)) fun w H5 e5 hw hpw => ev_var rfl) ?_ fun w H5 hw hmin e5 => ?_
        · obtain ⟨w, w1, w2⟩ := hex
          exact List.length_pos_of_mem (List.mem_filter.mpr ⟨w1, decide_eq_true w2⟩)
        obtain ⟨wL, wp⟩ := List.mem_filter.mp hw
        have wp : (p : Int) < w := of_decide_eq_true wp
        obtain ⟨hM2, hlt⟩ := mid_open hM hpL wL wp (fun u u1 u2 => hmin u (List.mem_filter.mpr ⟨u1, decide_eq_true u2⟩)) hr2
        have e45 := e4.trans e5
        refine q_app (ex_to e45 hR) (ev_var rfl) (ev_var rfl) (by rw [List.length_map]; omega) fun H6 e6 => ?_
        have hX6 := (upd_ne (H := H6) (o := .lst (row.map V.int ++ [.int w])) nxr).trans (ex_to e6 (ex_to e45 hX))
        have hR6 : (upd H6 r (.lst (row.map V.int ++ [.int w]))) r = some (.lst ((row ++ [w]).map V.int)) := by rw [upd_same, List.map_append]; rfl
        have eU6 : Ex H (upd H6 r (.lst (row.map V.int ++ [.int w]))) := Ex.mut (by walk_at "ex") nr0
        generalize upd H6 r (.lst (row.map V.int ++ [.int w])) = H7 at hX6 hR6 eU6
        refine q_remove hX6 (ev_var rfl) (ev_var rfl) wL fun H8 e8 => ?_
        have hR8 := (upd_ne (H := H8) (o := .lst ((L.erase w).map V.int)) nxr.symm).trans (ex_to e8 hR6)
        have eU8 : Ex H (upd H8 x (.lst ((L.erase w).map V.int))) := Ex.mut (by walk_at "ex") nx
        have hX8 : (upd H8 x (.lst ((L.erase w).map V.int))) x = some (.lst ((L.erase w).map V.int)) := upd_same
        generalize upd H8 x (.lst ((L.erase w).map V.int)) = H9 at hR8 eU8 hX8
        have le := List.length_erase_of_mem wL
        have lo : (openOf w).length = 2 := by unfold openOf; split <;> rfl
        refine s_extL hX8 (ev_var rfl) (el_call (ea_cons (ev_var rfl) ea_nil) (spl_opened T)) (by rw [List.length_map, List.length_map]; omega) fun H10 e10 => ?_
        have hR10 := (upd_ne (H := H10) (o := .lst ((L.erase w).map V.int ++ (openOf w).map V.int)) nxr.symm).trans (ex_to e10 hR8)
        exact ⟨w.toNat, hlt, openRaw L w, row ++ [w], w.toNat, _, rfl, rfl, Ex.mut (by walk_at "ex") nx, by rw [upd_same]; unfold openRaw; rw [List.map_append], hR10, hM2⟩
      · have hpL : (p : Int) ∈ L := by simpa using hb
        refine s_remove (ex_to e4 hX) (ev_var rfl) (ev_var rfl) hpL fun H5 e5 => ⟨L.erase (p : Int), row, n, _, _, rfl, Ex.mut (by walk_at "ex") nx, upd_same, (upd_ne nxr.symm).trans (ex_to e5 (ex_to e4 hR)), ?_⟩
        have := mid_pre hM hpL hr2
        rw [List.take_add_one, hp]
        exact this
    · rintro σ' H' ⟨L, row, b, y4, y5, rfl, eH, hX, hR, hP⟩
      rw [List.length_map, nat_len, List.take_length] at hP
      have hL := hP.1
      have hbd := hL.bd
      have hln := hL.ln
      rw [nat_len] at hln
      refine eu_tup (ea_cons (ev_var (i := 3) (v := .ref r) rfl) (ea_cons (ev_var (i := 2) (v := .ref x) rfl) ea_nil)) (show 2 ≤ 100000 by decide) H' (Ex.refl _) _ fun t H3 nt e3 h3 => ?_
      exact q t r x row L H3 nr0 nx nxr.symm (eH.trans e3) h3 (ex_to e3 hR) (ex_to e3 hX) hL.ol hL.pm hL.nn (by omega) (by omega)

/-! taken -/
def RetTaken (l m : List Nat) (H : Hp) (Q : VK) : Prop := ∀ t F R W row left vs ss l2 H2, H F = none → H R = none → R ≠ F → Ex H H2 → H2 t = some (.tup [.ref F, .ref R, .ref W]) → H2 F = some (.lst ((Mx.nat l2).map V.int)) → H2 R = some (.lst (row.map V.int)) → H2 W = some (.lst vs) → StAll H2 vs ss →
  OpLed (Mx.nat l) row → (row.foldl openRaw (Mx.nat l)).Perm (left ++ Mx.nat m) → (∀ x ∈ left, 0 ≤ x ∧ x < 1000) → left.length ≤ 1100 → row.length ≤ 1000 → Led left ss → (Mx.nat l2).Perm (ss.foldl rawBehind left) → Mx.Fm l2 → Q (.ref t) H2
def sp_taken (T : Txt K mg) : Sp := fun vs H Q E => ∃ x y bx bY, vs = [x, y] ∧ FmT K H x bx ∧ FmT K H y bY ∧ ((bx && bY) = false → ∀ H', Ex H H' → E (.ref T.a_NoForm) none H') ∧
  ((bx && bY) = true → ∃ a b l m, x = .ref a ∧ y = .ref b ∧ H a = some (.lst ((Mx.nat l).map V.int)) ∧ H b = some (.lst ((Mx.nat m).map V.int)) ∧ Mx.Fm l ∧ Mx.Fm m ∧ (∀ p ∈ l, p < 1000) ∧ l.length ≤ 100 ∧ (Mx.val l < Mx.val m → ∀ H', Ex H H' → E (.ref T.a_TooLittle) none H') ∧ (Mx.val m ≤ Mx.val l → RetTaken l m H Q))
theorem ok_taken (T : Txt K mg) : FnOk P w K mg base (L2.CX P w) 5 T.f_taken T.d_taken ["one", "other"] (sp_taken T) := by
  refine T.F_taken.okX sc_taken (fun vs H Q E h => ?_) (fun cdv A outer s H vs Q E hr h => ?_)
  · obtain ⟨x, y, bx, bY, rfl, _⟩ := h
    rfl
  · obtain ⟨x, y, bx, bY, rfl, hx, hy, qE, q⟩ := h
    refine ⟨_, (pss_cons (ps_if (pt_cmpR op_lt (pe_call (ok_compared T) (hr.mono (by decide)) (by rfl) T.g_compared T.F_compared.kp T.b_compared .nil (passes_call (takes_of rfl rfl rfl rfl) (fun _ _ _ _ h => h)) (pa_cons (pv 0) (pa_cons (pv 1) pa_nil))) pe_int (nomark _)) (pss_one (ps_raise rfl (takes_of rfl rfl rfl rfl) (pmk_own PySem.F.excBase_ValueError T.x_TooLittle T.g_TooLittle T.k_TooLittle (raises_own T.b_TooLittle T.t_TooLittle) rfl))) pss_nil)
    (pss_cons (ps_asg (pe_call (ok_lent T) (hr.mono (by decide)) (by rfl) T.g_lent T.F_lent.kp T.b_lent .nil pass0 (pa_cons (pv 0) (pa_cons (pv 1) pa_nil))) (pg_tup rfl (pgs_cons (pg_name (i := 2) sc_taken.nd rfl (Or.inl rfl)) (pgs_cons (pg_name (i := 3) sc_taken.nd rfl (Or.inl rfl)) pgs_nil))))
    (pss_cons (ps_asg (pe_call (ok_settled_from_above T) (hr.mono (by decide)) (by rfl) T.g_settled_from_above T.F_settled_from_above.kp T.b_settled_from_above .nil pass0 (pa_cons (pv 3) pa_nil)) (pg_tup rfl (pgs_cons (pg_name (i := 4) sc_taken.nd rfl (Or.inl rfl)) (pgs_cons (pg_name (i := 5) sc_taken.nd rfl (Or.inl rfl)) pgs_nil))))
    (pss_one (ps_ret (pe_tup (pa_cons (pv 4) (pa_cons (pv 2) (pa_cons (pv 5) pa_nil))))))))), ?_⟩
    by_cases hb : (bx && bY) = true
    · obtain ⟨a, b, l, m, rfl, rfl, hA, hB, lF, mF, lb, lz, qT, q⟩ := q hb
      have hcmp := Mx.cmp_lt lF mF
      refine q_when (b := decide (Mx.cmp l m < 0)) (et_test (ev_op (ev_call (ea_cons (ev_var rfl) (ea_cons (ev_var rfl) ea_nil)) (spv_compared T hA hB lF mF)) ev_c rv_I0)) (fun hb2 H1 e1 => ?_) (fun hb2 H1 e1 => ?_)
      · have hlt := of_decide_eq_true hb2
        refine qT ?_ H1 e1
        rcases hcmp with ⟨_, g⟩ | ⟨g, _⟩ | ⟨g, _⟩ <;> omega
      have hge := of_decide_eq_false hb2
      have hv : Mx.val m ≤ Mx.val l := by
        rcases hcmp with ⟨g, _⟩ | ⟨_, g⟩ | ⟨_, g⟩
        · omega
        · rw [g]; exact Int.le_refl _
        · omega
      refine q_callG (ea_cons (ev_var rfl) (ea_cons (ev_var rfl) ea_nil)) fun H2 e2 => ⟨a, b, l, m, rfl, ex_to (e1.trans e2) hA, ex_to (e1.trans e2) hB, lF, mF, lb, lz, hv, ?_⟩
      intro t R L row left H3 nR nL nRL e3 ht hR hL ol pm nn lz2 rz
      refine ⟨t, _, rfl, SqT.of ht, rfl, _, _, rfl, _, _, rfl, rfl, ?_⟩
      refine q_callG (ea_cons (ev_var rfl) ea_nil) fun H4 e4 => ⟨L, left, rfl, ex_to e4 hL, fun q hq => (nn q hq).1, by omega, ?_, ?_⟩
      · have := sumOf_le (f := wtI) (c := 3010) (ns := left) fun q hq => by
          have := nn q hq
          unfold wtI
          split <;> omega
        omega
      intro t2 F W vs ss l2 H5 nF nW nFW e5 ht2 hF hW gW hG hp l2F
      refine ⟨t2, _, rfl, SqT.of ht2, rfl, _, _, rfl, _, _, rfl, rfl, ?_⟩
      have e12 := e1.trans e2
      have nRF : R ≠ F := fun e => by rw [← e, ex_to e4 hR] at nF; cases nF
      refine eu_tup (ea_cons (ev_var (i := 4) (v := .ref F) rfl) (ea_cons (ev_var (i := 2) (v := .ref R) rfl) (ea_cons (ev_var (i := 5) (v := .ref W) rfl) ea_nil))) (show 3 ≤ 100000 by decide) H5 (Ex.refl _) _ fun t3 H6 nt3 e6 h6 => ?_
      exact q hv t3 F R W row left vs ss l2 H6 (fresh_back ((e12.trans e3).trans e4) nF) (fresh_back e12 nR) nRF (by walk_at "ex") h6 (ex_to e6 hF) (ex_to e6 (ex_to e5 (ex_to e4 hR))) (ex_to e6 hW) (gW.mono e6) ol pm nn lz2 rz hG hp l2F
    · have hb : (bx && bY) = false := by simpa using hb
      exact ⟨_, rfl, _, rfl, x, y, bx, bY, rfl, hx, hy, fun _ H' e' => qE hb H' e', fun h => by rw [hb] at h; cases h⟩

/-! _law_cell_at: a cell of the script, else 0 -/
def cell (ns : List Int) (k : Nat) : Int := ns.getD k 0
def sp__law_cell_at (T : Txt K mg) : Sp := fun vs H Q _ => ∃ a ns, ∃ k : Nat, vs = [.ref a, .int k] ∧ SqL K H a (ns.map V.int) ∧ RetV (.int (cell ns k)) H Q
theorem spv__law_cell_at (T : Txt K mg) {a : Addr} {ns : List Int} {H : Hp} {k : Nat} (hS : SqL K H a (ns.map V.int)) : SpV (sp__law_cell_at T) [.ref a, .int k] H (.int (cell ns k)) := fun H1 e Q q E => ⟨a, ns, k, rfl, ex_l e hS, fun H2 e2 => q H2 e2⟩
theorem ok__law_cell_at (T : Txt K mg) : FnOk P w K mg base CX0 1 T.f__law_cell_at T.d__law_cell_at ["_law_script", "_law_k"] (sp__law_cell_at T) := by
  refine T.F__law_cell_at.ok sc__law_cell_at (fun vs H Q E h => ?_) (fun cdv A outer s H vs Q E hr h => ?_)
  · obtain ⟨a, ns, k, rfl, _⟩ := h
    rfl
  · obtain ⟨a, ns, k, rfl, hS, q⟩ := h
    refine ⟨_, (pss_cons (ps_if (pt_cmpR op_lt (pv 1) (pe_callB call_len_seq (by rfl) T.n_len (by decide +kernel) (pa_cons (pv 0) pa_nil)) (nomark _)) (pss_one (ps_ret (pe_ix ix_list (pv 0) (pv 1) (fun _ _ => rfl)))) pss_nil)
    (pss_one (ps_ret pe_int))), ?_⟩
    refine q_when (b := decide ((k : Int) < ns.length)) ?_ (fun hb H1 e1 => ?_) (fun hb H1 e1 => ?_)
    · exact et_eq (by walk_at "et") (by rw [List.length_map])
    · have hk : k < ns.length := by
        have := of_decide_eq_true hb
        omega
      have g : (ns.map V.int)[k]? = some (.int (cell ns k)) := by
        unfold cell
        rw [List.getElem?_map, List.getElem?_eq_getElem hk, List.getD_eq_getElem?_getD, List.getElem?_eq_getElem hk]
        rfl
      exact s_ret (ev_op (ev_var rfl) (ev_var rfl) (rv_ixL (ex_l e1 hS) (atI_nat g))) fun H2 e2 => q H2 (e1.trans e2)
    · have hk : ¬ k < ns.length := by
        have := of_decide_eq_false hb
        omega
      have g : cell ns k = 0 := by
        unfold cell
        rw [List.getD_eq_getElem?_getD, List.getElem?_eq_none (by omega)]
        rfl
      rw [g] at q
      exact s_ret ev_c fun H2 e2 => q H2 (e1.trans e2)

/-! _law_whole -/
def sp__law_whole (T : Txt K mg) : Sp := fun vs H Q _ => ∃ x, vs = [x] ∧ Kn K H x ∧ RetV (.bl (isIntV x)) H Q
theorem spv__law_whole (T : Txt K mg) {x : V} {H : Hp} (hk : Kn K H x) : SpV (sp__law_whole T) [x] H (.bl (isIntV x)) := fun H1 e Q q E => ⟨x, rfl, hk.mono e, fun H2 e2 => q H2 e2⟩
theorem spv__law_whole_int (T : Txt K mg) {i : Int} {H : Hp} : SpV (sp__law_whole T) [.int i] H (.bl true) := spv__law_whole T kn_int
theorem ok__law_whole (T : Txt K mg) : FnOk P w K mg base CX0 1 T.f__law_whole T.d__law_whole ["_law_found"] (sp__law_whole T) := by
  refine T.F__law_whole.ok sc__law_whole (fun vs H Q E h => ?_) (fun cdv A outer s H vs Q E hr h => ?_)
  · obtain ⟨x, rfl, _⟩ := h
    rfl
  · obtain ⟨x, rfl, ⟨n, hn, ht⟩, q⟩ := h
    refine ⟨_, (pss_one (ps_ret (pe_and (pe_callB call_isi (by rfl) T.n_isinstance (by decide +kernel) (pa_cons (pv 0) (pa_cons (pe_bltn (v := .ty "int") (by rfl) T.n_int (by decide +kernel) rfl) pa_nil))) (pe_one (pe_not (pe_callB call_isi (by rfl) T.n_isinstance (by decide +kernel) (pa_cons (pv 0) (pa_cons (pe_bltn (v := .ty "bool") (by rfl) T.n_bool (by decide +kernel) rfl) pa_nil)))))))), ?_⟩
    refine s_ret ?_ q
    by_cases e : n = "int"
    · subst e
      obtain ⟨i, rfl⟩ := ty_int ht
      exact ev_eq (ev_andV (ev_isi (ev_var rfl) ht (b := true) (by decide +kernel)) fun _ => ev_notV (ev_isi (ev_var rfl) ht (b := false) (by decide +kernel))) rfl
    · rw [(ty_ref ht e).1]
      by_cases e2 : n = "bool"
      · subst e2
        exact ev_eq (ev_andV (ev_isi (ev_var rfl) ht (b := true) (by decide +kernel)) fun _ => ev_notV (ev_isi (ev_var rfl) ht (b := true) (by decide +kernel))) rfl
      · have hb : kitB n "int" = some false := by
          rcases hn with rfl | rfl | rfl | rfl | rfl | rfl | rfl
          · exact absurd rfl e
          · exact absurd rfl e2
          all_goals decide +kernel
        exact ev_eq (ev_andV (b := false) (ev_isi (ev_var rfl) ht hb) (fun h => absurd h (by decide))) rfl

/-! _law_members -/
def sp__law_members (T : Txt K mg) : Sp := fun vs H Q _ => ∃ n : Nat, vs = [.int n] ∧ n ≤ 2000 ∧ RetL ((Mx.row n).map V.int) H Q
theorem spl__law_members (T : Txt K mg) {n : Nat} {H : Hp} (hn : n ≤ 2000) : SpL (sp__law_members T) [.int n] H ((Mx.row n).map V.int) := fun H1 e Q q E => ⟨n, rfl, hn, fun p H2 hp e2 h2 => q p H2 hp e2 h2⟩
theorem ok__law_members (T : Txt K mg) : FnOk P w K mg base CX0 1 T.f__law_members T.d__law_members ["_law_many"] (sp__law_members T) := by
  refine T.F__law_members.ok sc__law_members (fun vs H Q E h => ?_) (fun cdv A outer s H vs Q E hr h => ?_)
  · obtain ⟨n, rfl, _⟩ := h
    rfl
  · obtain ⟨n, rfl, hn, q⟩ := h
    refine ⟨_, (pss_cons (ps_set (i := 1) sc__law_members.nd rfl (Or.inl rfl) (pe_lst pa_nil))
    (pss_cons (ps_set (i := 2) sc__law_members.nd rfl (Or.inl rfl) pe_int)
    (pss_cons (ps_set (i := 3) sc__law_members.nd rfl (Or.inl rfl) pe_int)
    (pss_cons (ps_for PassesOwn.never rfl (pi_range1 (by rfl) T.n_range (pa_cons (pv 0) pa_nil)) (pg_name (i := 4) sc__law_members.nd rfl (Or.inl rfl)) (pss_cons (ps_expr (pe_bm PySem.F.plainAttrs_list PySem.F.slot_list_append PySem.F.type_list_append mt_append (pv 1) (pa_cons (pv 2) pa_nil)))
    (pss_one (ps_par (i := 2) (j := 3) (by rfl) sc__law_members.nd rfl rfl (by decide) rfl rfl (pa_cons (pv 3) (pa_cons (pe_op op_add (pv 2) (pv 3)) pa_nil)) (by rfl)))))
    (pss_one (ps_ret (pv 1))))))), ?_⟩
    refine q_asgL (el_lst ea_nil (by decide)) fun r H1 nr e1 h1 => ?_
    refine q_asg ev_c fun H2 e2 => ?_
    refine q_asg ev_c fun H3 e3 => ?_
    refine q_forR1 (ea_cons (ev_var rfl) ea_nil) ⟨by omega, by omega⟩ (fun i σ' H' => ∃ y, σ' = [some (.int n), some (.ref r), some (.int (Mx.mem i)), some (.int (Mx.mem (i + 1))), y] ∧ Ex H H' ∧ H' r = some (.lst ((Mx.row i).map V.int))) (fun H4 e4 => ⟨_, by rw [Mx.mem_zero, Mx.mem_01]; rfl, by walk_at "ex", by walk_at "at"⟩) ?_ ?_
    · rintro i σ' H' hi ⟨y, rfl, eH, hR⟩
      refine q_app hR (ev_var rfl) (ev_var rfl) (by rw [List.length_map, Mx.row_len]; omega) fun H6 e6 => ?_
      refine ⟨_, rfl, _, rfl, _, rfl, _, _, rfl, rfl, _, _, rfl, _, by rw [Mx.mem_two]; rfl, ?_, ?_⟩
      · exact Ex.mut (by walk_at "ex") nr
      · rw [upd_same, Mx.row_succ, List.map_append]
        rfl
    · rintro σ' H' ⟨y, rfl, eH, hR⟩
      exact s_ret (ev_var rfl) fun H6 e6 => q r H6 nr (by walk_at "ex") (ex_to e6 hR)

/-! _law_falling: some form, its places at or above at -/
def sp__law_falling (T : Txt K mg) : Sp := fun vs H Q _ => ∃ a, ∃ ns : List Int, ∃ at0 : Nat, vs = [.ref a, .int at0] ∧ H a = some (.lst (ns.map V.int)) ∧ ns.length ≤ 60 ∧
  ∀ l, Mx.Fm l → (∀ p ∈ l, at0 ≤ p ∧ p + 4 ≤ at0 + 4 * ns.length) → l.length = ns.length → RetL ((Mx.nat l).map V.int) H Q
theorem ok__law_falling (T : Txt K mg) : FnOk P w K mg base CX0 1 T.f__law_falling T.d__law_falling ["_law_cells", "_law_at"] (sp__law_falling T) := by
  refine T.F__law_falling.ok sc__law_falling (fun vs H Q E h => ?_) (fun cdv A outer s H vs Q E hr h => ?_)
  · obtain ⟨a, ns, at0, rfl, _⟩ := h
    rfl
  · obtain ⟨a, ns, at0, rfl, hA, hz, q⟩ := h
    refine ⟨_, (pss_cons (ps_set (i := 2) sc__law_falling.nd rfl (Or.inl rfl) (pe_lst pa_nil))
    (pss_cons (ps_for PassesOwn.never rfl (pi_list (pv 0)) (pg_name (i := 3) sc__law_falling.nd rfl (Or.inl rfl)) (pss_cons (ps_expr (pe_bm PySem.F.plainAttrs_list PySem.F.slot_list_append PySem.F.type_list_append mt_append (pv 2) (pa_cons (pv 1) pa_nil)))
    (pss_one (ps_set (i := 1) sc__law_falling.nd rfl (Or.inl rfl) (pe_op op_add (pe_op op_add (pv 1) pe_int) (pe_op op_mod (pv 3) pe_int))))))
    (pss_one (ps_ret (pe_lstRev rfl (by rfl) T.n_list (by rfl) T.n_reversed (pv 2)))))), ?_⟩
    refine q_asgL (el_lst ea_nil (by decide)) fun r H2 nr e2 h2 => ?_
    refine q_forLn (xs := ns.map V.int) (ev_var rfl) (SqL.of (by walk_at "at")) (fun i σ' H' => ∃ (l : List Nat) (p : Nat) (y : Option V), σ' = [some (.ref a), some (.int (p : Int)), some (.ref r), y] ∧ Ex H H' ∧ H' r = some (.lst ((Mx.nat l).map V.int)) ∧ (∀ x ∈ l, x + 2 ≤ p) ∧ (∀ x ∈ l, at0 ≤ x ∧ x + 4 ≤ at0 + 4 * i) ∧ l.Pairwise (fun a b => a + 2 ≤ b) ∧ at0 ≤ p ∧ p ≤ at0 + 4 * i ∧ l.length = i)
      (fun H3 e3 => ⟨[], at0, none, rfl, by walk_at "ex", ex_to e3 h2, by simp, by simp, List.Pairwise.nil, Nat.le_refl _, by omega, rfl⟩) (fun i σ' H' _ h => by obtain ⟨l, p, y, _, e, _⟩ := h; exact SqL.of (ex_to e hA)) ?_ ?_
    · rintro i x σ' H' hi ⟨l, p, y, rfl, eH, hR, hb, hc, hf, hp0, hp, hl⟩
      have hi2 : i < ns.length := by
        have := (List.getElem?_eq_some_iff.mp hi).1
        rw [List.length_map] at this
        exact this
      obtain ⟨n, _, rfl⟩ := int_mem hi
      refine q_app hR (ev_var rfl) (ev_var rfl) (by rw [List.length_map, nat_len]; omega) fun H4 e4 => ?_
      refine s_asg (ev_op (ev_op (ev_var rfl) ev_c rv_I0) (ev_op (ev_var rfl) ev_c (rv_I (show (0 : Int) < 3 by decide))) rv_I0) fun H5 e5 => ⟨l ++ [p], p + 2 + (n % 3).toNat, some (.int n), ?_, ?_, ?_, ?_, ?_, ?_, by omega, by omega, by rw [List.length_append, hl]; rfl⟩
      · rw [show ((p + 2 + (n % 3).toNat : Nat) : Int) = (p : Int) + 2 + n % 3 by omega]
        rfl
      · exact Ex.trans (Ex.mut (by walk_at "ex") nr) e5
      · exact ex_to e5 (upd_same.trans (by rw [nat_snoc]))
      · intro x hx
        rcases List.mem_append.mp hx with h | h
        · have := hb x h
          omega
        · rw [List.mem_singleton.mp h]
          omega
      · intro x hx
        rcases List.mem_append.mp hx with h | h
        · have := hc x h
          omega
        · rw [List.mem_singleton.mp h]
          omega
      · refine List.pairwise_append.mpr ⟨hf, List.pairwise_singleton _ _, fun x hx z hz => ?_⟩
        rw [List.mem_singleton.mp hz]
        exact hb x hx
    · rintro σ' H' ⟨l, p, y, rfl, eH, hR, hb, hc, hf, hp0, hp, hl⟩
      rw [List.length_map] at hc hl
      exact s_retL (xs := (Mx.nat l.reverse).map V.int) (el_eq (el_rev (ev_var rfl) (SqL.of hR)) (nat_rev l)) fun s H5 hs e5 h5 => q l.reverse (List.pairwise_reverse.mpr hf) (fun x hx2 => hc x (List.mem_reverse.mp hx2)) (by rw [List.length_reverse]; exact hl) s H5 (fresh_back eH hs) (by walk_at "ex") h5

/-! _law_pair: two forms -/
def RetPair (l m : List Nat) (H : Hp) (Q : VK) : Prop := ∀ p a b H2, Ex H H2 → H2 p = some (.lst [.ref a, .ref b]) → H2 a = some (.lst ((Mx.nat l).map V.int)) → H2 b = some (.lst ((Mx.nat m).map V.int)) → Q (.ref p) H2
def FmB (l : List Nat) : Prop := Mx.Fm l ∧ (∀ p ∈ l, p < 990) ∧ l.length ≤ 50
def sp__law_pair (T : Txt K mg) : Sp := fun vs H Q _ => ∃ a, ∃ ns : List Int, vs = [.ref a] ∧ SqL K H a (ns.map V.int) ∧ ns.length ≤ 63 ∧ ∀ l m, FmB l → FmB m → RetPair l m H Q
def halves (r : Int) (n : Nat) : List Nat := (List.range n).filter fun k : Nat => decide ((k : Int) % 2 = r)
theorem halves_len : ∀ n, n ≤ 48 → (halves 0 n).length ≤ 24 ∧ (halves 1 n).length ≤ 24 := by decide +kernel
theorem cut_nat (l : List Nat) (k : Nat) : cutI (Mx.nat l) none (some (k : Int)) = Mx.nat (l.take k) := by
  unfold cutI
  have e1 : HT.sIx (Mx.nat l).length 0 none = 0 := rfl
  have e2 : HT.sIx (Mx.nat l).length (Mx.nat l).length (some (k : Int)) = min k (Mx.nat l).length := HT.sIx_nat (Mx.nat l).length (Mx.nat l).length k
  rw [e1, e2, nat_len]
  show ((Mx.nat l).drop 0).take (min k l.length - 0) = Mx.nat (l.take k)
  unfold Mx.nat
  rw [List.drop_zero, Nat.sub_zero, List.map_take]
  by_cases h : k ≤ l.length
  · rw [Nat.min_eq_left h]
  · rw [Nat.min_eq_right (by omega), List.take_of_length_le (by rw [List.length_map]; exact Nat.le_refl _), List.take_of_length_le (by rw [List.length_map]; omega)]
theorem ok__law_pair (T : Txt K mg) : FnOk P w K mg base CX0 2 T.f__law_pair T.d__law_pair ["_law_script"] (sp__law_pair T) := by
  refine T.F__law_pair.ok sc__law_pair (fun vs H Q E h => ?_) (fun cdv A outer s H vs Q E hr h => ?_)
  · obtain ⟨a, ns, rfl, _⟩ := h
    rfl
  · obtain ⟨a, ns, rfl, hS, hlen, q⟩ := h
    refine ⟨_, (pss_cons (ps_set (i := 1) sc__law_pair.nd rfl (Or.inr rfl) (pe_slice sl_list (pv 0) (po_some pe_int) (po_some pe_int)))
    (pss_cons (ps_set (i := 2) sc__law_pair.nd rfl (Or.inl rfl) (pe_call (ok__law_cell_at T) (hr.mono (by decide)) (by rfl) T.g__law_cell_at T.F__law_cell_at.kp T.b__law_cell_at .nil pass0 (pa_cons (pv 0) (pa_cons pe_int pa_nil))))
    (pss_cons (ps_set (i := 3) sc__law_pair.nd rfl (Or.inl rfl) (pe_call (ok__law_cell_at T) (hr.mono (by decide)) (by rfl) T.g__law_cell_at T.F__law_cell_at.kp T.b__law_cell_at .nil pass0 (pa_cons (pv 0) (pa_cons pe_int pa_nil))))
    (pss_cons (ps_set (i := 4) sc__law_pair.nd rfl (Or.inl rfl) pe_int)
    (Evl.pss_cut (ps_if (pt_cmpR op_eq (pe_op op_mod (pv 2) pe_int) pe_int (nomark _)) (pss_one (ps_set (i := 4) sc__law_pair.nd rfl (Or.inl rfl) (pe_op op_mod (pe_op op_fdiv (pv 2) pe_int) pe_int))) pss_nil)
    (pss_cons (ps_set (i := 5) sc__law_pair.nd rfl (Or.inl rfl) (pe_op op_mul (pv 4) (pe_op op_mod (pe_op op_fdiv (pv 2) pe_int) pe_int)))
    (pss_cons (ps_set (i := 6) sc__law_pair.nd rfl (Or.inl rfl) (pe_call (ok__law_falling T) (hr.mono (by decide)) (by rfl) T.g__law_falling T.F__law_falling.kp T.b__law_falling .nil pass0 (pa_cons (pe_lc (own := [("_law_k", 9)]) (g := gName 9)  rfl sc__law_pair.nd (pi_range1 (by rfl) T.n_range (pa_cons (pe_callB call_len_seq (by rfl) T.n_len (by decide +kernel) (pa_cons (pv 1) pa_nil)) pa_nil)) (blkOk_by (own := [("_law_k", 9)]) (N := N__law_pair) (sc := defScope s__law_pair) (by decide +kernel)) (fun _ _ _ _ _ => (pg_name (i := 9) sc__law_pair.nd rfl (Or.inl rfl))) (fun _ _ _ _ _ => (pts_one (pt_cmpR op_eq (pe_op op_mod (pv 9) pe_int) pe_int (nomark _)))) (fun _ _ _ _ _ => (pe_ix (r := rIxL K) ix_list (pv 1) (pv 9) (fun _ _ => rfl)))) (pa_cons (pe_op op_add (pv 4) (pe_op op_mod (pv 3) pe_int)) pa_nil))))
    (pss_cons (ps_set (i := 7) sc__law_pair.nd rfl (Or.inl rfl) (pe_call (ok__law_falling T) (hr.mono (by decide)) (by rfl) T.g__law_falling T.F__law_falling.kp T.b__law_falling .nil pass0 (pa_cons (pe_lc (own := [("_law_k", 9)]) (g := gName 9)  rfl sc__law_pair.nd (pi_range1 (by rfl) T.n_range (pa_cons (pe_callB call_len_seq (by rfl) T.n_len (by decide +kernel) (pa_cons (pv 1) pa_nil)) pa_nil)) (blkOk_by (own := [("_law_k", 9)]) (N := N__law_pair) (sc := defScope s__law_pair) (by decide +kernel)) (fun _ _ _ _ _ => (pg_name (i := 9) sc__law_pair.nd rfl (Or.inl rfl))) (fun _ _ _ _ _ => (pts_one (pt_cmpR op_eq (pe_op op_mod (pv 9) pe_int) pe_int (nomark _)))) (fun _ _ _ _ _ => (pe_ix (r := rIxL K) ix_list (pv 1) (pv 9) (fun _ _ => rfl)))) (pa_cons (pe_op op_add (pv 5) (pe_op op_mod (pe_op op_fdiv (pv 3) pe_int) pe_int)) pa_nil))))
    (Evl.pss_cut (ps_if (pt_cmpR op_eq (pe_op op_mod (pe_op op_fdiv (pv 3) pe_int) pe_int) pe_int (nomark _)) (pss_one (ps_set (i := 7) sc__law_pair.nd rfl (Or.inl rfl) (pe_callTy call_list_of (by rfl) T.n_list (by decide +kernel) (pa_cons (pv 6) pa_nil)))) pss_nil)
    (Evl.pss_cut (ps_if (pt_cmpR op_eq (pe_op op_mod (pe_op op_fdiv (pv 3) pe_int) pe_int) pe_int (nomark _)) (pss_one (ps_set (i := 7) sc__law_pair.nd rfl (Or.inl rfl) (pe_lst pa_nil))) pss_nil)
    (Evl.pss_cut (ps_if (pt_cmpR op_eq (pe_op op_mod (pe_op op_fdiv (pv 3) pe_int) pe_int) pe_int (nomark _)) (pss_cons (ps_set (i := 8) sc__law_pair.nd rfl (Or.inr rfl) (pe_slice sl_list (pv 6) po_none (po_some (pe_op op_mod (pe_op op_fdiv (pv 3) pe_int) (pe_op op_add (pe_callB call_len_seq (by rfl) T.n_len (by decide +kernel) (pa_cons (pv 6) pa_nil)) pe_int)))))
    (pss_one (ps_set (i := 7) sc__law_pair.nd rfl (Or.inl rfl) (pe_op op_cat (pv 8) (pe_lc (own := [("_law_place", 10)]) (g := gName 10)  rfl sc__law_pair.nd (pi_list (pv 7)) (blkOk_by (own := [("_law_place", 10)]) (N := N__law_pair) (sc := defScope s__law_pair) (by decide +kernel)) (fun _ _ _ _ _ => (pg_name (i := 10) sc__law_pair.nd rfl (Or.inl rfl))) (fun _ _ _ _ _ => (pts_one (PW.pt (pw_or (pt_cmpR (r := rEqD K) (op_eqD hr.units) (pv 8) (pe_lst pa_nil) (nomark _)) (pw_or1 (pt_cmpR op_le (pe_op op_add (pv 10) pe_int) (pe_ix (r := rIxL K) ix_list (pv 8) (pe_un un_neg pe_int) (fun _ _ => rfl)) (nomark _))))))) (fun _ _ _ _ _ => (pv 10))))))) pss_nil)
    (pss_one (ps_ret (pe_lst (pa_cons (pv 6) (pa_cons (pv 7) pa_nil)))))))))))))))), ?_⟩
    have hc : ∀ {σ : L2.St} {H1 : Hp} {E : XK} (k : Nat) (hv : σ[0]? = some (some (.ref a))), Ex H H1 → Ev (tCall (sp__law_cell_at T) [] E (tCons (tVar 0) (tCons (tC (.int (k : Int))) tNil))) σ H1 (.int (cell ns k)) := fun k hv e =>
      ev_call (ea_cons (ev_var hv) (ea_cons ev_c ea_nil)) (spv__law_cell_at T (ex_l e hS))
    refine q_asgL (el_slI (lo := some 2) (hi := some 50) (ev_var rfl) (eo_some ev_c) (eo_some ev_c) hS) fun s H1 ns1 e1 h1 => ?_
    have cl : (cutI ns (some 2) (some 50)).length ≤ 48 := cut_most (i := 2) (j := 50)
    generalize cutI ns (some 2) (some 50) = ms at h1 cl
    refine q_asg (hc 0 rfl e1) fun H2 e2 => ?_
    refine q_asg (hc 1 rfl (e1.trans e2)) fun H3 e3 => ?_
    generalize cell ns 0 = f
    generalize cell ns 1 = g
    have h3 : H3 s = some (.lst (ms.map V.int)) := ex_to e3 (ex_to e2 h1)
    have eH3 : Ex H H3 := (e1.trans e2).trans e3
    refine q_asg ev_c fun H4 e4 => ?_
    refine q_cut (M := fun σ' H' => ∃ far : Nat, σ' = [some (.ref a), some (.ref s), some (.int f), some (.int g), some (.int (far : Int)), none, none, none, none, none, none] ∧ Ex H3 H' ∧ far < 850) ?_ ?_
    · refine s_when (b := decide (f % 4 = 1)) (et_eq (et_test (ev_op (ev_op (ev_var rfl) ev_c (rv_I (show (0 : Int) < 4 by decide))) ev_c (rv_eq rfl))) (decide_eq_decide.mpr ⟨fun h => V.int.inj h, fun h => by rw [h]⟩)) (fun hb H5 e5 => ?_) (fun hb H5 e5 => ⟨0, rfl, e4.trans e5, by decide⟩)
      obtain ⟨fa, hfa, hfa2⟩ : ∃ fa : Nat, f / 4 % 850 = (fa : Int) ∧ fa < 850 := ⟨(f / 4 % 850).toNat, by omega, by omega⟩
      exact s_asg (v := .int (fa : Int)) (ev_eq (ev_op (ev_op (ev_var (v := .int f) rfl) ev_c (rv_I (cdiv (by decide) (by decide)))) ev_c (rv_I (show (0 : Int) < 850 by decide))) (by rw [hfa])) fun H6 e6 => ⟨fa, rfl, (e4.trans e5).trans e6, hfa2⟩
    rintro σ1 H5 ⟨far, rfl, e5, hfar⟩
    obtain ⟨near, hnear, hnear2⟩ : ∃ near : Nat, (far : Int) * (f / 3400 % 2) = (near : Int) ∧ near < 850 := by
      have : f / 3400 % 2 = 0 ∨ f / 3400 % 2 = 1 := by omega
      rcases this with e | e
      · exact ⟨0, by rw [e, Int.mul_zero]; rfl, by decide⟩
      · exact ⟨far, by rw [e, Int.mul_one], hfar⟩
    refine q_asg (v := .int (near : Int)) (ev_eq (ev_op (ev_var rfl) (ev_op (ev_op (ev_var (v := .int f) rfl) ev_c (rv_I (cdiv (by decide) (by decide)))) ev_c (rv_I (show (0 : Int) < 2 by decide))) (rv_I (.inl ⟨by omega, by omega⟩))) (by rw [hnear])) fun H6 e6 => ?_
    have e36 := e5.trans e6
    have h6 := ex_to e36 h3
    have pick : ∀ (r : Int) {σ : L2.St} {H4 : Hp}, σ[1]? = some (some (.ref s)) → σ.length = 11 → Ex H6 H4 → EvL (tLc (iRng1 (tCons (tCB (rLenS K) (tCons (tVar 1) tNil)) tNil)) (gName 9) (tTest (tOp rEq (tOp (rI (fun _ j => 0 < j) fun i j => .int (i % j)) (tVar 9) (tC (.int 2))) (tC (.int r)))) (tOp (rIxL K) (tVar 1) (tVar 9)) [9]) σ H4
        (((halves r ms.length).map fun k => ms.getD k 0).map V.int) := fun r {σ H4} hv hl e => by
      refine el_eq (el_mapRIf (fun k : Nat => decide ((k : Int) % 2 = r)) (fun k => .int (ms.getD k 0)) (ea_cons (ev_eq (ev_len (ev_var hv) (SqL.of (ex_to e h6))) (by rw [List.length_map])) ea_nil) (by omega) ?_ ?_ ?_) ?_
      · intro x
        match σ, hl with
        | [_, _, _, _, _, _, _, _, _, _, _], _ => rfl
      · intro i H5 e5 hi
        have g8 : ((wipe σ [9]).set 9 (some (.int (i : Int))))[9]? = some (some (.int (i : Int))) := by
          match σ, hl with
          | [_, _, _, _, _, _, _, _, _, _, _], _ => rfl
        exact et_eq (et_test (ev_op (ev_op (ev_var g8) ev_c (rv_I (by decide))) ev_c (rv_eq rfl))) (decide_eq_decide.mpr ⟨fun h => V.int.inj h, fun h => by rw [h]⟩)
      · intro i H5 e5 hi hp
        have g8 : ((wipe σ [9]).set 9 (some (.int (i : Int))))[9]? = some (some (.int (i : Int))) ∧ ((wipe σ [9]).set 9 (some (.int (i : Int))))[1]? = some (some (.ref s)) := by
          match σ, hl, hv with
          | [_, _, _, _, _, _, _, _, _, _, _], _, hv => exact ⟨rfl, hv⟩
        exact ev_op (ev_var g8.2) (ev_var g8.1) (rv_ixL (SqL.of (ex_to e5 (ex_to e h6))) (atI_nat (ints_at (by rw [List.getD_eq_getElem?_getD, List.getElem?_eq_getElem hi]; rfl))))
      · unfold halves
        rw [List.map_map]
        rfl
    obtain ⟨t0, t1⟩ := halves_len ms.length cl
    obtain ⟨g0, hg0, hg0'⟩ : ∃ p : Nat, g % 3 = (p : Int) ∧ p < 3 := ⟨(g % 3).toNat, by omega, by omega⟩
    obtain ⟨g1, hg1, hg1'⟩ : ∃ p : Nat, g / 3 % 3 = (p : Int) ∧ p < 3 := ⟨(g / 3 % 3).toNat, by omega, by omega⟩
    refine q_callLA (pick 0 rfl rfl (Ex.refl _)) (fun H7 e7 => ea_cons (ev_eq (w := .int ((far + g0 : Nat) : Int)) (ev_op (ev_var rfl) (ev_op (ev_var (v := .int g) rfl) ev_c (rv_I (show (0 : Int) < 3 by decide))) rv_I0) (by rw [hg0]; rfl)) ea_nil) fun p1 H7 hp1 e7 h7 => ⟨p1, _, far + g0, rfl, h7, by rw [List.length_map]; omega, fun l F1 b1 z1 A H8 nA e8 hA => ?_⟩
    refine q_callLA (pick 1 rfl rfl (e7.trans e8)) (fun H9 e9 => ea_cons (ev_eq (w := .int ((near + g1 : Nat) : Int)) (ev_op (ev_var rfl) (ev_op (ev_op (ev_var (v := .int g) rfl) ev_c (rv_I (cdiv (by decide) (by decide)))) ev_c (rv_I (show (0 : Int) < 3 by decide))) rv_I0) (by rw [hg1]; rfl)) ea_nil) fun p2 H9 hp2 e9 h9 => ⟨p2, _, near + g1, rfl, h9, by rw [List.length_map]; omega, fun m F2 b2 z2 B H10 nB e10 hB => ?_⟩
    rw [List.length_map] at b1 z1 b2 z2
    have lB : FmB l := ⟨F1, fun p hp => by have := b1 p hp; omega, by omega⟩
    have mB : FmB m := ⟨F2, fun p hp => by have := b2 p hp; omega, by omega⟩
    have m24 : m.length ≤ 24 := by omega
    have l24 : l.length ≤ 24 := by omega
    have hA10 := ex_to (e9.trans e10) hA
    have eH10 : Ex H H10 := ((eH3.trans e36).trans (e7.trans e8)).trans (e9.trans e10)
    have ifg : ∀ {σ : L2.St} {H' : Hp} (j : Int), σ[3]? = some (some (.int g)) → EvT (tTest (tOp rEq (tOp (rI (fun _ j => 0 < j) fun i j => .int (i % j)) (tOp (rI CDiv fun i j => .int (i / j)) (tVar 3) (tC (.int 9))) (tC (.int 4))) (tC (.int j)))) σ H' (decide (g / 9 % 4 = j)) := fun j hv => et_eq (et_test (ev_op (ev_op (ev_op (ev_var hv) ev_c (rv_I (cdiv (by decide) (by decide)))) ev_c (rv_I (show (0 : Int) < 4 by decide))) ev_c (rv_eq rfl))) (decide_eq_decide.mpr ⟨fun h => V.int.inj h, fun h => by rw [h]⟩)
    clear hA hp1 hp2 h7 h9 nA nB b1 b2 z1 z2
    show tCut _ _ _ ([some (.ref a), some (.ref s), some (.int f), some (.int g), some (.int (far : Int)), some (.int (near : Int)), some (.ref A), some (.ref B), none, none, none] : L2.St) H10
    refine q_cut (M := fun σ' H' => ∃ (m : List Nat) (B : Addr), σ' = [some (.ref a), some (.ref s), some (.int f), some (.int g), some (.int (far : Int)), some (.int (near : Int)), some (.ref A), some (.ref B), none, none, none] ∧ Ex H10 H' ∧ H' B = some (.lst ((Mx.nat m).map V.int)) ∧ FmB m ∧ m.length ≤ 24) ?_ ?_
    · refine s_when (b := decide (g / 9 % 4 = 1)) (ifg 1 rfl) (fun hb H11 e11 => ?_) (fun hb H11 e11 => ⟨m, B, rfl, e11, ex_to e11 hB, mB, m24⟩)
      exact s_asgL (el_list (ev_var rfl) (SqL.of (ex_to e11 hA10))) fun B2 H12 nB2 e12 hB2 => ⟨l, B2, rfl, e11.trans e12, hB2, lB, l24⟩
    clear hB mB m24
    rintro σ2 H11 ⟨m, B, rfl, e11, hB, mB, m24⟩
    refine q_cut (M := fun σ' H' => ∃ (m : List Nat) (B : Addr), σ' = [some (.ref a), some (.ref s), some (.int f), some (.int g), some (.int (far : Int)), some (.int (near : Int)), some (.ref A), some (.ref B), none, none, none] ∧ Ex H10 H' ∧ H' B = some (.lst ((Mx.nat m).map V.int)) ∧ FmB m ∧ m.length ≤ 24) ?_ ?_
    · refine s_when (b := decide (g / 9 % 4 = 3)) (ifg 3 rfl) (fun hb H12 e12 => ?_) (fun hb H12 e12 => ⟨m, B, rfl, e11.trans e12, ex_to e12 hB, mB, m24⟩)
      exact s_asgL (el_lst ea_nil (by decide)) fun B2 H13 nB2 e13 hB2 => ⟨[], B2, rfl, (e11.trans e12).trans e13, hB2, ⟨List.Pairwise.nil, (fun p hp => by cases hp), by decide⟩, by decide⟩
    clear hB mB m24 e11
    rintro σ3 H12 ⟨m, B, rfl, e12, hB, mB, m24⟩
    refine q_cut (M := fun σ' H' => ∃ (m : List Nat) (B : Addr) (y : Option V), σ' = [some (.ref a), some (.ref s), some (.int f), some (.int g), some (.int (far : Int)), some (.int (near : Int)), some (.ref A), some (.ref B), y, none, none] ∧ Ex H10 H' ∧ H' B = some (.lst ((Mx.nat m).map V.int)) ∧ FmB m) ?_ ?_
    · refine s_when (b := decide (g / 9 % 4 = 2)) (ifg 2 rfl) (fun hb H13 e13 => ?_) (fun hb H13 e13 => ⟨m, B, none, rfl, e12.trans e13, ex_to e13 hB, mB⟩)
      have hA13 := ex_to (e12.trans e13) hA10
      have hB13 := ex_to e13 hB
      obtain ⟨k, hk⟩ : ∃ k : Nat, g / 36 % ((l.length : Int) + 1) = (k : Int) := ⟨(g / 36 % ((l.length : Int) + 1)).toNat, by have := Int.emod_nonneg (g / 36) (show (l.length : Int) + 1 ≠ 0 by omega); omega⟩
      refine q_asgL (xs := (Mx.nat (l.take k)).map V.int) (el_eq (el_slI (lo := none) (hi := some (k : Int)) (ev_var rfl) eo_none (eo_some (ev_eq (ev_op (ev_op (ev_var (v := .int g) rfl) ev_c (rv_I (cdiv (by decide) (by decide)))) (ev_op (ev_eq (ev_len (ev_var rfl) (SqL.of hA13)) (by rw [List.length_map, nat_len])) ev_c rv_I0) (rv_I (by omega))) (by rw [hk]))) (SqL.of hA13)) (by rw [cut_nat])) fun P H14 nP e14 hP => ?_
      have hB14 := ex_to e14 hB13
      have kz : (l.take k).length ≤ 24 := by rw [List.length_take]; omega
      have kF : Mx.Fm (l.take k) := List.Pairwise.sublist (List.take_sublist k l) lB.1
      have kb : ∀ p ∈ l.take k, p < 990 := fun p hp => lB.2.1 p (List.mem_of_mem_take hp)
      generalize l.take k = u at hP kz kF kb
      obtain ⟨t, ht⟩ : ∃ t : Int, u ≠ [] → atI ((Mx.nat u).map V.int) (-1) = some (.int t) ∧ ∀ x ∈ u, t ≤ (x : Int) := by
        by_cases hu : u = []
        · exact ⟨0, fun h => absurd hu h⟩
        obtain ⟨v, w, rfl⟩ : ∃ v w, u = v ++ [w] := ⟨u.dropLast, u.getLast hu, (List.dropLast_concat_getLast hu).symm⟩
        refine ⟨(w : Int), fun _ => ⟨?_, fun x hx => ?_⟩⟩
        · unfold atI
          have : ixN ((Mx.nat (v ++ [w])).map V.int).length (-1) = some v.length := by
            rw [List.length_map, nat_len, List.length_append]
            unfold ixN
            rw [if_neg (by decide)]
            simp
            omega
          rw [this]
          exact nat_at (by simp)
        · rcases List.mem_append.mp hx with h | h
          · have := (List.pairwise_append.mp kF).2.2 x h w (by simp)
            omega
          · rw [List.mem_singleton.mp h]
            exact Int.le_refl _
      let pr : Int → Bool := fun z => decide (Mx.nat u = []) || decide (z + 2 ≤ t)
      have fe : (Mx.nat m).filter pr = Mx.nat (m.filter fun p : Nat => pr (p : Int)) := by
        unfold Mx.nat
        rw [List.filter_map]
        rfl
      have fz : (m.filter fun p : Nat => pr (p : Int)).length ≤ m.length := List.length_filter_le _ _
      refine s_asgL (xs := (Mx.nat (u ++ m.filter fun p : Nat => pr (p : Int))).map V.int) (el_eq (el_cat (ev_var rfl) hP (el_mapIf pr (fun z => V.int z) (ev_var rfl) (SqL.of hB14) (by rw [nat_len]; omega) (fun _ => rfl) (fun z H15 e15 hz => et_or (a := decide (Mx.nat u = [])) (b := decide (z + 2 ≤ t)) (et_test (ev_eqH (evh_v (ev_var rfl) (hd_ints (SqL.of (ex_to e15 hP)))) (evh_L (el_lst ea_nil (by decide)) hdAll_nil) (by decide))) fun hu => ?_) fun z H15 e15 hz hp => ev_var rfl) (by rw [List.length_map, List.length_map, fe, nat_len, nat_len]; omega)) (by rw [nat_cat, fe])) fun B2 H15 nB2 e15 hB2 => ⟨_, B2, _, rfl, ((e12.trans e13).trans e14).trans e15, hB2, ?_, ?_, by rw [List.length_append]; omega⟩
      · have hne : u ≠ [] := fun e => by rw [e] at hu; exact absurd hu (by decide)
        exact et_test (ev_op (ev_op (ev_var rfl) ev_c rv_I0) (ev_op (ev_var rfl) (ev_un ev_c ru_neg) (rv_ixL (SqL.of (ex_to e15 hP)) (ht hne).1)) rv_I0)
      · refine List.pairwise_append.mpr ⟨kF, List.Pairwise.filter _ mB.1, fun x hx y hy => ?_⟩
        have hp := (List.mem_filter.mp hy).2
        have hne : u ≠ [] := fun e => by rw [e] at hx; cases hx
        have h1 := (ht hne).2 x hx
        have hf : decide (Mx.nat u = []) = false := decide_eq_false fun e => hne (List.map_eq_nil_iff.mp e)
        have hp : (decide (Mx.nat u = []) || decide ((y : Int) + 2 ≤ t)) = true := hp
        rw [hf, Bool.false_or] at hp
        have := of_decide_eq_true hp
        omega
      · intro p hp
        rcases List.mem_append.mp hp with h | h
        · exact kb p h
        · exact mB.2.1 p (List.mem_filter.mp h).1
    rintro σ4 H13 ⟨m, B, y, rfl, e13, hB, mB⟩
    exact s_retL (el_lst (ea_cons (ev_var rfl) (ea_cons (ev_var rfl) ea_nil)) (show 2 ≤ 100000 by decide)) fun R H14 nR e14 hR => q l m lB mB R A B H14 ((eH10.trans e13).trans e14) hR (ex_to e14 (ex_to e13 hA10)) (ex_to e14 hB)

/-! _law_is_form: of a form it says True -/
def sp__law_is_form (T : Txt K mg) : Sp := fun vs H Q _ => ∃ a l, vs = [.ref a] ∧ H a = some (.lst ((Mx.nat l).map V.int)) ∧ Mx.Fm l ∧ l.length ≤ 3000 ∧ RetV (.bl true) H Q
theorem spv__law_is_form (T : Txt K mg) {a : Addr} {l : List Nat} {H : Hp} (hA : H a = some (.lst ((Mx.nat l).map V.int))) (hF : Mx.Fm l) (hl : l.length ≤ 3000) : SpV (sp__law_is_form T) [.ref a] H (.bl true) := fun H1 e Q q E => ⟨a, l, rfl, e a _ hA, hF, hl, fun H2 e2 => q H2 e2⟩
theorem ok__law_is_form (T : Txt K mg) : FnOk P w K mg base CX0 2 T.f__law_is_form T.d__law_is_form ["_law_found"] (sp__law_is_form T) := by
  refine T.F__law_is_form.ok sc__law_is_form (fun vs H Q E h => ?_) (fun cdv A outer s H vs Q E hr h => ?_)
  · obtain ⟨a, l, rfl, _⟩ := h
    rfl
  · obtain ⟨a, l, rfl, hA, hF, hl, q⟩ := h
    have hS : SqL K H a ((Mx.nat l).map V.int) := SqL.of hA
    refine ⟨_, (pss_cons (ps_if (pt_not (pt_val (pe_callB call_isi (by rfl) T.n_isinstance (by decide +kernel) (pa_cons (pv 0) (pa_cons (pe_bltn (v := .ty "list") (by rfl) T.n_list (by decide +kernel) rfl) pa_nil))))) (pss_one (ps_ret pe_bl)) pss_nil)
    (pss_cons (ps_for PassesOwn.never rfl (pi_range1 (by rfl) T.n_range (pa_cons (pe_callB call_len_seq (by rfl) T.n_len (by decide +kernel) (pa_cons (pv 0) pa_nil)) pa_nil)) (pg_name (i := 1) sc__law_is_form.nd rfl (Or.inl rfl)) (pss_cons (ps_if (PW.pt (pw_or (pt_not (pt_val (pe_call (ok__law_whole T) (hr.mono (by decide)) (by rfl) T.g__law_whole T.F__law_whole.kp T.b__law_whole .nil pass0 (pa_cons (pe_ix ix_list (pv 0) (pv 1) (fun _ _ => rfl)) pa_nil)))) (pw_or1 (pt_cmpR op_lt (pe_ix ix_list (pv 0) (pv 1) (fun _ _ => rfl)) pe_int (nomark _))))) (pss_one (ps_ret pe_bl)) pss_nil)
    (pss_one (ps_if (PW.pt (pw_and (pt_cmpR op_gt (pv 1) pe_int (nomark _)) (pw_and1 (pt_cmpR op_lt (pe_op op_sub (pe_ix ix_list (pv 0) (pe_op op_sub (pv 1) pe_int) (fun _ _ => rfl)) (pe_ix ix_list (pv 0) (pv 1) (fun _ _ => rfl))) pe_int (nomark _))))) (pss_one (ps_ret pe_bl)) pss_nil))))
    (pss_one (ps_ret pe_bl)))), ?_⟩
    refine q_when (b := false) (et_eq (et_not (et_B (ev_isi (ev_var rfl) (TyOf.lst hA) (b := true) (by decide +kernel)))) rfl) (fun hb _ _ => absurd hb (by decide)) (fun _ H1 e1 => ?_)
    refine q_forR1 (n := (l.length : Int)) (ea_cons (ev_eq (ev_len (ev_var rfl) (ex_l e1 hS)) (by rw [List.length_map, nat_len])) ea_nil) ⟨by omega, by omega⟩ (fun i σ' H' => ∃ y, σ' = [some (.ref a), y] ∧ Ex H H') (fun H2 e2 => ⟨_, rfl, by walk_at "ex"⟩) ?_ ?_
    · rintro i σ' H' hi ⟨y, rfl, eH⟩
      have hi : i < l.length := by omega
      have hA' := ex_l eH hS
      have g : ∀ {j : Nat} (hj : j < l.length), ((Mx.nat l).map V.int)[j]? = some (.int (l[j] : Nat)) := fun hj => nat_at (List.getElem?_eq_getElem hj)
      refine q_when (b := false) ?_ (fun hb _ _ => absurd hb (by decide)) (fun hb H2 e2 => ?_)
      · refine et_eq (et_or (a := false) (b := false) ?_ fun _ => ?_) rfl
        · exact et_eq (et_not (et_B (ev_call (z := .bl true) (ea_cons (ev_op (ev_var rfl) (ev_var rfl) (rv_ixL hA' (atI_nat (g hi)))) ea_nil) (spv__law_whole T kn_int)))) rfl
        · exact et_eq (et_test (ev_op (ev_op (ev_var rfl) (ev_var rfl) (rv_ixL hA' (atI_nat (g hi)))) ev_c rv_I0)) (by simp)
      refine s_when (b := false) ?_ (fun hb _ _ => absurd hb (by decide)) (fun hb H3 e3 => ⟨_, rfl, by walk_at "ex"⟩)
      refine et_eq (et_and (a := decide (0 < (i : Int))) (b := false) (by walk_at "et") fun ha => ?_) (Bool.and_false _)
      have h2 : 1 ≤ i := by
        have := of_decide_eq_true ha
        omega
      have hA2 := ex_l e2 hA'
      refine et_eq (et_test (ev_op (ev_op (ev_op (ev_var rfl) (by walk_at "ev") (rv_ixL hA2 (at_of (j := i - 1) (by omega) (g (by omega))))) (ev_op (ev_var rfl) (ev_var rfl) (rv_ixL hA2 (atI_nat (g hi)))) rv_I0) ev_c rv_I0)) ?_
      have hp := List.pairwise_iff_getElem.mp hF (i - 1) i (by omega) hi (by omega)
      simp only [decide_eq_false_iff_not]
      omega
    · rintro σ' H' ⟨y, rfl, eH⟩
      exact s_ret ev_c fun H2 e2 => q H2 (eH.trans e2)

/-! _law_sum -/
def sp__law_sum (T : Txt K mg) : Sp := fun vs H Q _ => ∃ a r l, ∃ n : Nat, vs = [.ref a, .ref r] ∧ H a = some (.lst ((Mx.nat l).map V.int)) ∧ H r = some (.lst ((Mx.row n).map V.int)) ∧ (∀ p ∈ l, p < n) ∧ l.length ≤ 3000 ∧ RetV (.int (Mx.val l)) H Q
theorem spv__law_sum (T : Txt K mg) {a r : Addr} {l : List Nat} {n : Nat} {H : Hp} (hA : H a = some (.lst ((Mx.nat l).map V.int))) (hR : H r = some (.lst ((Mx.row n).map V.int))) (hp : ∀ p ∈ l, p < n) (hl : l.length ≤ 3000) :
    SpV (sp__law_sum T) [.ref a, .ref r] H (.int (Mx.val l)) := fun H1 e Q q E => ⟨a, r, l, n, rfl, e a _ hA, e r _ hR, hp, hl, fun H2 e2 => q H2 e2⟩
theorem ok__law_sum (T : Txt K mg) : FnOk P w K mg base CX0 1 T.f__law_sum T.d__law_sum ["_law_form", "_law_row"] (sp__law_sum T) := by
  refine T.F__law_sum.ok sc__law_sum (fun vs H Q E h => ?_) (fun cdv A outer s H vs Q E hr h => ?_)
  · obtain ⟨a, r, l, n, rfl, _⟩ := h
    rfl
  · obtain ⟨a, r, l, n, rfl, hA, hR, hp, hl, q⟩ := h
    refine ⟨_, (pss_cons (ps_if (PW.pt (pw_and (pt_cmpR (op_neD hr.units) (pv 0) (pe_lst pa_nil) (nomark _)) (pw_and1 (pt_cmpR op_ge (pe_ix ix_list (pv 0) pe_int (fun _ _ => rfl)) (pe_callB call_len_seq (by rfl) T.n_len (by decide +kernel) (pa_cons (pv 1) pa_nil)) (nomark _))))) (pss_one (ps_ret (pe_un un_neg pe_int))) pss_nil)
    (pss_one (ps_ret (pe_callB (cr_sum rfl) (by rfl) T.n_sum (by decide +kernel) (pa_cons (pe_lc (own := [("_law_place", 2)]) (g := gName 2) (tt := tYes) rfl sc__law_sum.nd (pi_list (pv 0)) (blkOk_by (own := [("_law_place", 2)]) (N := N__law_sum) (sc := defScope s__law_sum) (by decide +kernel)) (fun _ _ _ _ _ => (pg_name (i := 2) sc__law_sum.nd rfl (Or.inl rfl))) (fun _ _ _ _ _ => pts_nil) (fun _ _ _ _ _ => (pe_ix (r := rIxL K) ix_list (pv 1) (pv 2) (fun _ _ => rfl)))) pa_nil))))), ?_⟩
    refine q_when (b := false) ?_ (fun hb _ _ => absurd hb (by decide)) (fun hb H1 e1 => ?_)
    · refine et_eq (et_and (a := !decide (Mx.nat l = [])) (b := false) (et_test (ev_neH (evh_v (ev_var rfl) (hd_ints (SqL.of hA))) (evh_L (el_lst ea_nil (by decide)) hdAll_nil) (by decide))) fun ha => ?_) (Bool.and_false _)
      cases l with
      | nil => exact absurd ha (by decide)
      | cons p l =>
        refine et_eq (et_test (ev_op (ev_op (ev_var rfl) ev_c (rv_ixL (SqL.of hA) (atI_nat (j := 0) rfl))) (ev_eq (ev_len (ev_var rfl) (SqL.of hR)) (by rw [List.length_map, Mx.row_len])) rv_I0)) ?_
        have := hp p List.mem_cons_self
        simp only [decide_eq_false_iff_not]
        omega
    · refine s_ret (ev_eq (ev_sum (ns := l.map Mx.mem) ?_) rfl) fun H4 e4 => q H4 (by walk_at "ex")
      refine el_eq (el_mapI (fun z => V.int (Mx.mem z.toNat)) (ev_var rfl) (SqL.of (e1 a _ hA)) (by rw [nat_len]; omega) (fun _ => rfl) fun z H5 e5 hn => ?_) ?_
      · obtain ⟨p, hp2, rfl⟩ := List.mem_map.mp hn
        exact ev_op (ev_var rfl) (ev_var rfl) (rv_ixL (SqL.of (e5 _ _ (e1 r _ hR))) (atI_nat (ints_at (Mx.row_at (hp p hp2)))))
      · unfold Mx.nat
        rw [List.map_map, List.map_map]
        rfl

/-! _law_stepped: of a step that can be done -/
def sp__law_stepped (T : Txt K mg) : Sp := fun vs H Q _ => ∃ a v s, ∃ ns : List Int, vs = [.ref a, v] ∧ H a = some (.lst (ns.map V.int)) ∧ TupAt H v s ∧ okStp ns s ∧ 0 ≤ s.at_ ∧ ns.length ≤ 3000 ∧ RetL ((rawBehind ns s).map V.int) H Q
theorem spl__law_stepped (T : Txt K mg) {a : Addr} {v : V} {s : Stp} {ns : List Int} {H : Hp} (hA : H a = some (.lst (ns.map V.int))) (h : TupAt H v s) (ok : okStp ns s) (h0 : 0 ≤ s.at_) (hz : ns.length ≤ 3000) : SpL (sp__law_stepped T) [.ref a, v] H ((rawBehind ns s).map V.int) := fun H1 e Q q E => ⟨a, v, s, ns, rfl, e a _ hA, h.mono e, ok, h0, hz, fun p H2 hp e2 h2 => q p H2 hp e2 h2⟩
theorem ok__law_stepped (T : Txt K mg) : FnOk P w K mg base CX0 2 T.f__law_stepped T.d__law_stepped ["_law_marks", "_law_step"] (sp__law_stepped T) := by
  refine T.F__law_stepped.ok sc__law_stepped (fun vs H Q E h => ?_) (fun cdv A outer s H vs Q E hr h => ?_)
  · obtain ⟨a, v, s, ns, rfl, _⟩ := h
    rfl
  · obtain ⟨a, v, s, ns, rfl, hA, hv, ok, h0, hz, q⟩ := h
    refine ⟨_, (pss_cons (ps_if (PW.pt (pw_or (pt_not (pt_val (pe_callB call_isi (by rfl) T.n_isinstance (by decide +kernel) (pa_cons (pv 1) (pa_cons (pe_bltn (v := .ty "tuple") (by rfl) T.n_tuple (by decide +kernel) rfl) pa_nil))))) (pw_or (pt_cmpR op_ne (pe_callB call_len_seq (by rfl) T.n_len (by decide +kernel) (pa_cons (pv 1) pa_nil)) pe_int (nomark _)) (pw_or (pt_not (pt_val (pe_callB call_isi (by rfl) T.n_isinstance (by decide +kernel) (pa_cons (pe_ix ix_tup (pv 1) pe_int (fun _ _ => rfl)) (pa_cons (pe_bltn (v := .ty "str") (by rfl) T.n_str (by decide +kernel) rfl) pa_nil))))) (pw_or1 (pt_not (pt_val (pe_call (ok__law_whole T) (hr.mono (by decide)) (by rfl) T.g__law_whole T.F__law_whole.kp T.b__law_whole .nil pass0 (pa_cons (pe_ix ix_tup (pv 1) pe_int (fun _ _ => rfl)) pa_nil))))))))) (pss_one (ps_ret pe_non)) pss_nil)
    (pss_cons (ps_set (i := 2) sc__law_stepped.nd rfl (Or.inl rfl) (pe_ix ix_tup (pv 1) pe_int (fun _ _ => rfl)))
    (pss_cons (ps_set (i := 3) sc__law_stepped.nd rfl (Or.inl rfl) (pe_callTy call_list_of (by rfl) T.n_list (by decide +kernel) (pa_cons (pv 0) pa_nil)))
    (pss_cons (ps_if (PW.pt (pw_and (pt_cmpR op_eq (pe_ix ix_tup (pv 1) pe_int (fun _ _ => rfl)) pe_str (nomark _)) (pw_and (pt_cmpR op_in_seq (pv 2) (pv 3) (by rfl)) (pw_and1 (pt_cmpR op_in_seq (pe_op op_add (pv 2) pe_int) (pv 3) (by rfl)))))) (pss_cons (ps_expr (pe_bm PySem.F.plainAttrs_list PySem.F.slot_list_remove PySem.F.type_list_remove mt_remove (pv 3) (pa_cons (pv 2) pa_nil)))
    (pss_cons (ps_expr (pe_bm PySem.F.plainAttrs_list PySem.F.slot_list_remove PySem.F.type_list_remove mt_remove (pv 3) (pa_cons (pe_op op_add (pv 2) pe_int) pa_nil)))
    (pss_one (ps_ret (pe_op op_cat (pv 3) (pe_lst (pa_cons (pe_op op_add (pv 2) pe_int) pa_nil))))))) pss_nil)
    (pss_cons (ps_if (PW.pt (pw_or (pt_cmpR op_ne (pe_ix ix_tup (pv 1) pe_int (fun _ _ => rfl)) pe_str (nomark _)) (pw_or1 (pt_cmpR op_lt (pe_bm PySem.F.plainAttrs_list PySem.F.slot_list_count PySem.F.type_list_count mt_lcount (pv 3) (pa_cons (pv 2) pa_nil)) pe_int (nomark _))))) (pss_one (ps_ret pe_non)) pss_nil)
    (pss_cons (ps_expr (pe_bm PySem.F.plainAttrs_list PySem.F.slot_list_remove PySem.F.type_list_remove mt_remove (pv 3) (pa_cons (pv 2) pa_nil)))
    (pss_cons (ps_expr (pe_bm PySem.F.plainAttrs_list PySem.F.slot_list_remove PySem.F.type_list_remove mt_remove (pv 3) (pa_cons (pv 2) pa_nil)))
    (pss_cons (ps_if (pt_cmpR op_eq (pv 2) pe_int (nomark _)) (pss_one (ps_ret (pe_op op_cat (pv 3) (pe_lst (pa_cons pe_int pa_nil))))) pss_nil)
    (pss_one (ps_ret (pe_op op_cat (pv 3) (pe_lst (pa_cons (pe_op op_add (pv 2) pe_int) (pa_cons (pe_callB (call_max2 rfl) (by rfl) T.n_max (by decide +kernel) (pa_cons pe_int (pa_cons (pe_op op_sub (pv 2) pe_int) pa_nil))) pa_nil)))))))))))))), ?_⟩
    have two := (two_erase ok).2
    obtain ⟨t, rfl, ht⟩ := id hv
    refine q_when (b := false) ?_ (fun hb _ _ => absurd hb (by decide)) (fun hb H0 e0 => ?_)
    · refine et_eq (et_or (a := false) (b := false) ?_ fun _ => et_or (a := false) (b := false) ?_ fun _ => et_or (a := false) (b := false) ?_ fun _ => ?_) rfl
      · exact et_eq (et_not (et_B (ev_isi (ev_var rfl) (TyOf.tup ht) (b := true) (by decide +kernel)))) rfl
      · exact et_eq (et_test (ev_op (ev_lenT (ev_var rfl) ht) ev_c (rv_ne rfl))) rfl
      · exact et_eq (et_not (et_B (ev_isi (ev_st0 (ev_var rfl) hv) (TyOf.str _) (b := true) (by decide +kernel)))) rfl
      · exact et_eq (et_not (et_B (ev_call (ea_cons (ev_st1 (ev_var rfl) hv) ea_nil) (spv__law_whole_int T)))) rfl
    refine q_asg (ev_st1 (ev_var rfl) (hv.mono e0)) fun H1 e1 => ?_
    refine q_asgL (el_list (ev_var rfl) (SqL.of (ex_to e1 (ex_to e0 hA)))) fun m H2 nm e2 h2 => ?_
    have e02 : Ex H H2 := by walk_at "ex"
    have nm0 : H m = none := fresh_back (by walk_at "ex") nm
    have gj : ∀ {H' : Hp}, Ex H H' → EvT (tTest (tOp rEq (tOp (rIxT K) (tVar 1) (tC (.int 0))) (tC (.str "join")))) [some (.ref a), some (.ref t), some (.int s.at_), some (.ref m)] H' s.join := fun e => et_join (ev_var rfl) (hv.mono e)
    have hin : ∀ {H' : Hp} {ks : List Int}, H' m = some (.lst (ks.map V.int)) → EvT (tTest (tOp (rIn K false) (tVar 2) (tVar 3))) [some (.ref a), some (.ref t), some (.int s.at_), some (.ref m)] H' (decide (s.at_ ∈ ks)) := fun h => et_test (ev_op (ev_var rfl) (ev_var rfl) (rv_inI (SqL.of h)))
    have hin1 : ∀ {H' : Hp} {ks : List Int}, H' m = some (.lst (ks.map V.int)) → EvT (tTest (tOp (rIn K false) (tOp (rI0 fun i j => .int (i + j)) (tVar 2) (tC (.int 1))) (tVar 3))) [some (.ref a), some (.ref t), some (.int s.at_), some (.ref m)] H' (decide (s.at_ + 1 ∈ ks)) := fun h => et_test (ev_op (ev_op (ev_var rfl) ev_c rv_I0) (ev_var rfl) (rv_inI (SqL.of h)))
    have l1 : (ns.erase s.at_).length ≤ ns.length := List.length_erase_le
    have mem1 := ok.1
    refine q_when (b := s.join) (et_eq (et_and (gj e02) fun _ => et_and (hin h2) fun _ => hin1 h2) ?_) (fun hb H3 e3 => ?_) (fun hb H3 e3 => ?_)
    · rcases ok.2 with ⟨g1, g2⟩ | ⟨g1, g2⟩
      · rw [g1, decide_eq_true mem1, decide_eq_true g2]
        rfl
      · rw [g1]
        rfl
    · rw [hb, if_pos rfl] at two
      refine q_remove (ex_to e3 h2) (ev_var rfl) (ev_var rfl) mem1 fun H4 e4 => ?_
      have eA : Ex H (upd H4 m (.lst ((ns.erase s.at_).map V.int))) := Ex.mut (by walk_at "ex") nm0
      have hM : (upd H4 m (.lst ((ns.erase s.at_).map V.int))) m = some (.lst ((ns.erase s.at_).map V.int)) := upd_same
      generalize upd H4 m (.lst ((ns.erase s.at_).map V.int)) = H5 at eA hM
      refine q_remove hM (ev_var rfl) (ev_op (ev_var rfl) ev_c rv_I0) two fun H6 e6 => ?_
      have eB : Ex H (upd H6 m (.lst (((ns.erase s.at_).erase (s.at_ + 1)).map V.int))) := Ex.mut (by walk_at "ex") nm0
      have hM2 : (upd H6 m (.lst (((ns.erase s.at_).erase (s.at_ + 1)).map V.int))) m = some (.lst (((ns.erase s.at_).erase (s.at_ + 1)).map V.int)) := upd_same
      generalize upd H6 m (.lst (((ns.erase s.at_).erase (s.at_ + 1)).map V.int)) = H7 at eB hM2
      have l2 : ((ns.erase s.at_).erase (s.at_ + 1)).length ≤ (ns.erase s.at_).length := List.length_erase_le
      refine s_retL (xs := (rawBehind ns s).map V.int) (el_eq (el_cat (ev_var rfl) hM2 (el_lst (vs := [.int (s.at_ + 2)]) (ea_cons (ev_op (ev_var rfl) ev_c rv_I0) ea_nil) (show 1 ≤ 100000 by decide)) (by rw [List.length_map]; show _ + 1 ≤ _; omega)) ?_) fun r H8 hr e8 h8 => q r H8 (fresh_back eB hr) (eB.trans e8) h8
      unfold rawBehind comingOf
      rw [hb, if_pos rfl, if_pos rfl, List.map_append]
      rfl
    have hcnt : 1 < ns.count s.at_ := by
      rcases ok.2 with ⟨g1, _⟩ | ⟨_, g2⟩
      · rw [hb] at g1; cases g1
      · exact g2
    rw [hb, if_neg (by decide)] at two
    have h3 := ex_to e3 h2
    refine q_when (b := false) ?_ (fun hb _ _ => absurd hb (by decide)) (fun hb9 H4 e4 => ?_)
    · refine et_eq (et_or (a := false) (b := false) ?_ fun _ => ?_) rfl
      · refine et_eq (et_test (ev_op (ev_st0 (ev_var rfl) (hv.mono (e02.trans e3))) ev_c (rv_ne rfl))) ?_
        rw [hb]
        decide +kernel
      · exact et_eq (et_test (ev_op (ev_count (ev_var rfl) (SqL.of h3) (ev_var rfl)) ev_c rv_I0)) (decide_eq_false (by omega))
    refine q_remove (ex_to e4 h3) (ev_var rfl) (ev_var rfl) mem1 fun H5 e5 => ?_
    have eA : Ex H (upd H5 m (.lst ((ns.erase s.at_).map V.int))) := Ex.mut (by walk_at "ex") nm0
    have hM : (upd H5 m (.lst ((ns.erase s.at_).map V.int))) m = some (.lst ((ns.erase s.at_).map V.int)) := upd_same
    generalize upd H5 m (.lst ((ns.erase s.at_).map V.int)) = H6 at eA hM
    refine q_remove hM (ev_var rfl) (ev_var rfl) two fun H7 e7 => ?_
    have eB : Ex H (upd H7 m (.lst (((ns.erase s.at_).erase s.at_).map V.int))) := Ex.mut (by walk_at "ex") nm0
    have hM2 : (upd H7 m (.lst (((ns.erase s.at_).erase s.at_).map V.int))) m = some (.lst (((ns.erase s.at_).erase s.at_).map V.int)) := upd_same
    generalize upd H7 m (.lst (((ns.erase s.at_).erase s.at_).map V.int)) = H8 at eB hM2
    have l2 : ((ns.erase s.at_).erase s.at_).length ≤ (ns.erase s.at_).length := List.length_erase_le
    have rb : rawBehind ns s = ((ns.erase s.at_).erase s.at_) ++ (if s.at_ = 0 then [1] else if s.at_ = 1 then [2, 0] else [s.at_ + 1, s.at_ - 2]) := by
      unfold rawBehind comingOf
      rw [hb]
      rfl
    refine q_when (b := decide (s.at_ = 0)) (et_eq (et_test (ev_op (ev_var rfl) ev_c (rv_eq rfl))) (decide_eq_decide.mpr ⟨fun h => V.int.inj h, fun h => by rw [h]⟩)) (fun hb0 H9 e9 => ?_) (fun hb0 H9 e9 => ?_)
    · refine s_retL (xs := (rawBehind ns s).map V.int) (el_eq (el_cat (ev_var rfl) (ex_to e9 hM2) (el_lst (ea_cons ev_c ea_nil) (show 1 ≤ 100000 by decide)) (by rw [List.length_map]; show _ + 1 ≤ _; omega)) ?_) fun r H10 hr e10 h10 => q r H10 (fresh_back (eB.trans e9) hr) ((eB.trans e9).trans e10) h10
      rw [rb, if_pos (of_decide_eq_true hb0), List.map_append]
      rfl
    · have hb0 := of_decide_eq_false hb0
      refine s_retL (xs := (rawBehind ns s).map V.int) (el_eq (el_cat (ev_var rfl) (ex_to e9 hM2) (el_lst (vs := [.int (s.at_ + 1), .int (if s.at_ - 2 > 0 then s.at_ - 2 else 0)]) (ea_cons (ev_op (ev_var rfl) ev_c rv_I0) (ea_cons (ev_max2 ev_c (ev_op (ev_var rfl) ev_c rv_I0)) ea_nil)) (show 2 ≤ 100000 by decide)) (by rw [List.length_map]; show _ + 2 ≤ _; omega)) ?_) fun r H10 hr e10 h10 => q r H10 (fresh_back (eB.trans e9) hr) ((eB.trans e9).trans e10) h10
      rw [rb, if_neg hb0, List.map_append]
      congr 1
      by_cases h1 : s.at_ = 1
      · rw [if_pos h1, h1]
        rfl
      · rw [if_neg h1]
        by_cases h2 : s.at_ = 2
        · rw [h2]
          rfl
        · rw [if_pos (show s.at_ - 2 > 0 by omega)]
          rfl

/-! _law_led -/
def sp__law_led (T : Txt K mg) : Sp := fun vs H Q _ => ∃ a W F us ss l, ∃ ns : List Int, vs = [.ref a, .ref W, .ref F] ∧ H a = some (.lst (ns.map V.int)) ∧ H W = some (.lst us) ∧ StAll H us ss ∧ H F = some (.lst ((Mx.nat l).map V.int)) ∧ (∀ q ∈ ns, 0 ≤ q) ∧ ns.length ≤ 2500 ∧ Led ns ss ∧ (Mx.nat l).Perm (ss.foldl rawBehind ns) ∧ Mx.Fm l ∧ RetV (.bl true) H Q
theorem ok__law_led (T : Txt K mg) : FnOk P w K mg base CX0 3 T.f__law_led T.d__law_led ["_law_marks", "_law_told", "_law_form"] (sp__law_led T) := by
  refine T.F__law_led.ok sc__law_led (fun vs H Q E h => ?_) (fun cdv A outer s H vs Q E hr h => ?_)
  · obtain ⟨a, W, F, us, ss, l, ns, rfl, _⟩ := h
    rfl
  · obtain ⟨a, W, F, us, ss, l, ns, rfl, hA, hW, gW, hF, hn, hz, hG, hp, lF, q⟩ := h
    refine ⟨_, (pss_cons (ps_if (PW.pt (pw_or (pt_not (pt_val (pe_callB call_isi (by rfl) T.n_isinstance (by decide +kernel) (pa_cons (pv 1) (pa_cons (pe_bltn (v := .ty "list") (by rfl) T.n_list (by decide +kernel) rfl) pa_nil))))) (pw_or1 (pt_not (pt_val (pe_call (ok__law_is_form T) (hr.mono (by decide)) (by rfl) T.g__law_is_form T.F__law_is_form.kp T.b__law_is_form .nil pass0 (pa_cons (pv 2) pa_nil))))))) (pss_one (ps_ret pe_bl)) pss_nil)
    (pss_cons (ps_for PassesOwn.never rfl (pi_list (pv 1)) (pg_name (i := 3) sc__law_led.nd rfl (Or.inl rfl)) (pss_cons (ps_set (i := 0) sc__law_led.nd rfl (Or.inl rfl) (pe_call (ok__law_stepped T) (hr.mono (by decide)) (by rfl) T.g__law_stepped T.F__law_stepped.kp T.b__law_stepped .nil pass0 (pa_cons (pv 0) (pa_cons (pv 3) pa_nil))))
    (pss_one (ps_if (pt_cmpR op_isN (pv 0) pe_non (nomark _)) (pss_one (ps_ret pe_bl)) pss_nil))))
    (pss_one (ps_ret (pe_cmpR (op_eqD hr.units) (pe_callBK (cr_sortedRev (b := true)) (by rfl) T.n_sorted (by decide +kernel) (pa_cons (pv 0) pa_nil) (pk_cons pe_bl pk_nil)) (pv 2) (nomark _)))))), ?_⟩
    have k0 : Keeps ns ns := ⟨hn, Nat.le_refl _, rfl⟩
    have kA := led_keeps hG k0
    have ll := hp.length_eq
    rw [nat_len] at ll
    refine q_when (b := false) ?_ (fun hb _ _ => absurd hb (by decide)) (fun hb H1 e1 => ?_)
    · refine et_eq (et_or (a := false) (b := false) ?_ fun _ => ?_) rfl
      · exact et_eq (et_not (et_B (ev_isi (ev_var rfl) (TyOf.lst hW) (b := true) (by decide +kernel)))) rfl
      · exact et_eq (et_not (et_B (ev_call (ea_cons (ev_var rfl) ea_nil) (spv__law_is_form T hF lF (by have := kA.1.2.1; omega))))) rfl
    refine q_forLn (xs := us) (ev_var rfl) (SqL.of (ex_to e1 hW)) (fun i σ' H' => ∃ M y, σ' = [some (.ref M), some (.ref W), some (.ref F), y] ∧ Ex H H' ∧ H' M = some (.lst (((ss.take i).foldl rawBehind ns).map V.int))) (fun H2 e2 => ⟨a, _, rfl, by walk_at "ex", ex_to e2 (ex_to e1 hA)⟩) (fun i σ' H' _ h => by obtain ⟨_, _, _, e, _⟩ := h; exact SqL.of (ex_to e hW)) ?_ ?_
    · rintro i x σ' H' hi ⟨M, y, rfl, eH, hM⟩
      obtain ⟨s, hs, hv⟩ := gW.get' hi
      have ok := led_at hG hs
      obtain ⟨⟨kn, kl, kv⟩, kw⟩ := led_keeps (led_take i hG) k0
      have hacc : (ss.take (i + 1)).foldl rawBehind ns = rawBehind ((ss.take i).foldl rawBehind ns) s := by
        rw [List.take_add_one, hs, Option.toList_some, List.foldl_append]
        rfl
      generalize (ss.take i).foldl rawBehind ns = m at hM ok kn kl hacc
      refine q_asgL (el_call (ea_cons (ev_var rfl) (ea_cons (ev_var rfl) ea_nil)) (spl__law_stepped T hM (hv.mono eH) ok (kn _ ok.1) (by omega))) fun M2 H2 nM2 e2 hM2 => ?_
      refine s_when (b := false) (et_eq (et_test (ev_op (ev_var rfl) ev_c rv_isN)) rfl) (fun hb _ _ => absurd hb (by decide)) (fun hb H3 e3 => ⟨M2, _, rfl, by walk_at "ex", ?_⟩)
      rw [hacc]
      exact ex_to e3 hM2
    · rintro σ' H' ⟨M, y, rfl, eH, hM⟩
      rw [gW.len, List.take_length] at hM
      refine s_ret (ev_last (ev_eqH (evh_ints (el_sortedRev (ev_var rfl) (SqL.of hM) (fun _ _ => ev_c))) (evh_v (ev_var rfl) (hd_ints (SqL.of (ex_to eH hF)))) (by decide)) (decide_eq_true ?_)) fun H4 e4 => q H4 (by walk_at "ex")
      refine desc_uniq ((desc_perm _).trans hp.symm) (desc_ge _) ?_
      unfold Mx.nat
      exact List.pairwise_map.mpr (lF.imp fun {a b} h => by omega)

/-! _law_opened: of a row that can be opened -/
theorem fold_len : ∀ (row ns : List Int), (row.foldl openRaw ns).length ≤ ns.length + 2 * row.length
  | [], ns => Nat.le_refl _
  | p :: row, ns => by
    have := fold_len row (openRaw ns p)
    have h1 : (openRaw ns p).length ≤ ns.length + 2 := by
      unfold openRaw
      rw [List.length_append]
      have : (ns.erase p).length ≤ ns.length := List.length_erase_le
      have : (openOf p).length = 2 := by unfold openOf; split <;> rfl
      omega
    show (row.foldl openRaw (openRaw ns p)).length ≤ _
    rw [List.length_cons]
    omega
def sp__law_opened (T : Txt K mg) : Sp := fun vs H Q _ => ∃ a R, ∃ ns row : List Int, vs = [.ref a, .ref R] ∧ H a = some (.lst (ns.map V.int)) ∧ H R = some (.lst (row.map V.int)) ∧ OpLed ns row ∧ ns.length ≤ 200 ∧ row.length ≤ 1000 ∧ ∀ M H2, Ex H H2 → H2 M = some (.lst ((row.foldl openRaw ns).map V.int)) → Q (.ref M) H2
theorem ok__law_opened (T : Txt K mg) : FnOk P w K mg base CX0 2 T.f__law_opened T.d__law_opened ["_law_marks", "_law_told"] (sp__law_opened T) := by
  refine T.F__law_opened.ok sc__law_opened (fun vs H Q E h => ?_) (fun cdv A outer s H vs Q E hr h => ?_)
  · obtain ⟨a, R, ns, row, rfl, _⟩ := h
    rfl
  · obtain ⟨a, R, ns, row, rfl, hA, hR, ol, hz, rz, q⟩ := h
    refine ⟨_, (pss_cons (ps_if (pt_not (pt_val (pe_callB call_isi (by rfl) T.n_isinstance (by decide +kernel) (pa_cons (pv 1) (pa_cons (pe_bltn (v := .ty "list") (by rfl) T.n_list (by decide +kernel) rfl) pa_nil))))) (pss_one (ps_ret pe_non)) pss_nil)
    (pss_cons (ps_for PassesOwn.never rfl (pi_list (pv 1)) (pg_name (i := 2) sc__law_opened.nd rfl (Or.inl rfl)) (pss_cons (ps_if (PW.pt (pw_or (pt_not (pt_val (pe_call (ok__law_whole T) (hr.mono (by decide)) (by rfl) T.g__law_whole T.F__law_whole.kp T.b__law_whole .nil pass0 (pa_cons (pv 2) pa_nil)))) (pw_or (pt_cmpR op_lt (pv 2) pe_int (nomark _)) (pw_or1 (pt_cmpR op_notIn_seq (pv 2) (pv 0) (by rfl)))))) (pss_one (ps_ret pe_non)) pss_nil)
    (pss_cons (ps_set (i := 0) sc__law_opened.nd rfl (Or.inl rfl) (pe_callTy call_list_of (by rfl) T.n_list (by decide +kernel) (pa_cons (pv 0) pa_nil)))
    (pss_cons (ps_expr (pe_bm PySem.F.plainAttrs_list PySem.F.slot_list_remove PySem.F.type_list_remove mt_remove (pv 0) (pa_cons (pv 2) pa_nil)))
    (pss_one (ps_set (i := 0) sc__law_opened.nd rfl (Or.inl rfl) (pe_op op_cat (pv 0) (pe_lst (pa_cons (pe_op op_sub (pv 2) pe_int) (pa_cons (pe_callB (call_max2 rfl) (by rfl) T.n_max (by decide +kernel) (pa_cons pe_int (pa_cons (pe_op op_sub (pv 2) pe_int) pa_nil))) pa_nil))))))))))
    (pss_one (ps_ret (pv 0))))), ?_⟩
    refine q_when (b := false) (et_eq (et_not (et_B (ev_isi (ev_var rfl) (TyOf.lst hR) (b := true) (by decide +kernel)))) rfl) (fun hb _ _ => absurd hb (by decide)) (fun hb H1 e1 => ?_)
    refine q_forLn (xs := row.map V.int) (ev_var rfl) (SqL.of (ex_to e1 hR)) (fun i σ' H' => ∃ M y, σ' = [some (.ref M), some (.ref R), y] ∧ Ex H H' ∧ H' M = some (.lst (((row.take i).foldl openRaw ns).map V.int))) (fun H2 e2 => ⟨a, _, rfl, by walk_at "ex", ex_to e2 (ex_to e1 hA)⟩) (fun i σ' H' _ h => by obtain ⟨_, _, _, e, _⟩ := h; exact SqL.of (ex_to e hR)) ?_ ?_
    · rintro i x σ' H' hi ⟨M, y, rfl, eH, hM⟩
      obtain ⟨p, hp, rfl⟩ := int_mem hi
      obtain ⟨p1, pm⟩ := opled_at ol hp
      have fl := fold_len (row.take i) ns
      have tl : (row.take i).length ≤ row.length := by rw [List.length_take]; omega
      have hacc : (row.take (i + 1)).foldl openRaw ns = openRaw ((row.take i).foldl openRaw ns) p := by
        rw [List.take_add_one, hp, Option.toList_some, List.foldl_append]
        rfl
      generalize (row.take i).foldl openRaw ns = m at hM pm fl hacc
      refine q_when (b := false) ?_ (fun hb _ _ => absurd hb (by decide)) (fun hb H2 e2 => ?_)
      · refine et_eq (et_or (a := false) (b := false) ?_ fun _ => et_or (a := false) (b := false) ?_ fun _ => ?_) rfl
        · exact et_eq (et_not (et_B (ev_call (ea_cons (ev_var rfl) ea_nil) (spv__law_whole_int T)))) rfl
        · exact et_eq (et_test (ev_op (ev_var rfl) ev_c rv_I0)) (decide_eq_false (by omega))
        · exact et_eq (et_test (ev_op (ev_var rfl) (ev_var rfl) (rv_notinI (SqL.of hM)))) (by rw [decide_eq_true pm]; rfl)
      refine q_asgL (el_list (ev_var rfl) (SqL.of (ex_to e2 hM))) fun N H3 nN e3 hN => ?_
      refine q_remove hN (ev_var rfl) (ev_var rfl) pm fun H4 e4 => ?_
      have eU : Ex H (upd H4 N (.lst ((m.erase p).map V.int))) := Ex.mut (by walk_at "ex") (fresh_back (by walk_at "ex") nN)
      have hU : (upd H4 N (.lst ((m.erase p).map V.int))) N = some (.lst ((m.erase p).map V.int)) := upd_same
      generalize upd H4 N (.lst ((m.erase p).map V.int)) = H5 at eU hU
      have el : (m.erase p).length ≤ m.length := List.length_erase_le
      refine s_asgL (xs := (openRaw m p).map V.int) (el_eq (el_cat (ev_var rfl) hU (el_lst (vs := [.int (p - 1), .int (if p - 2 > 0 then p - 2 else 0)]) (ea_cons (ev_op (ev_var rfl) ev_c rv_I0) (ea_cons (ev_max2 ev_c (ev_op (ev_var rfl) ev_c rv_I0)) ea_nil)) (show 2 ≤ 100000 by decide)) (by rw [List.length_map]; show _ + 2 ≤ _; omega)) ?_) fun N2 H6 nN2 e6 hN2 => ⟨N2, _, rfl, by walk_at "ex", by rw [hacc]; exact hN2⟩
      unfold openRaw openOf
      rw [List.map_append]
      congr 1
      by_cases h1 : p = 1
      · rw [if_pos h1, h1]
        rfl
      · rw [if_neg h1]
        by_cases h2 : p = 2
        · rw [h2]
          rfl
        · rw [if_pos (show p - 2 > 0 by omega)]
          rfl
    · rintro σ' H' ⟨M, y, rfl, eH, hM⟩
      rw [List.length_map, List.take_length] at hM
      exact s_ret (ev_var rfl) fun H2 e2 => q M H2 (eH.trans e2) (ex_to e2 hM)

/-! _law_without -/
def sp__law_without (T : Txt K mg) : Sp := fun vs H Q _ => ∃ a c m, ∃ ns left : List Int, vs = [.ref a, .ref c] ∧ H a = some (.lst (ns.map V.int)) ∧ H c = some (.lst ((Mx.nat m).map V.int)) ∧ ns.Perm (left ++ Mx.nat m) ∧ ∀ ks : List Int, ks.Perm left → RetL (ks.map V.int) H Q
theorem ok__law_without (T : Txt K mg) : FnOk P w K mg base CX0 1 T.f__law_without T.d__law_without ["_law_marks", "_law_form"] (sp__law_without T) := by
  refine T.F__law_without.ok sc__law_without (fun vs H Q E h => ?_) (fun cdv A outer s H vs Q E hr h => ?_)
  · obtain ⟨a, c, m, ns, left, rfl, _⟩ := h
    rfl
  · obtain ⟨a, c, m, ns, left, rfl, hA, hC, pm, q⟩ := h
    refine ⟨_, (pss_cons (ps_if (pt_cmpR op_isN (pv 0) pe_non (nomark _)) (pss_one (ps_ret pe_non)) pss_nil)
    (pss_cons (ps_set (i := 2) sc__law_without.nd rfl (Or.inl rfl) (pe_callTy call_list_of (by rfl) T.n_list (by decide +kernel) (pa_cons (pv 0) pa_nil)))
    (pss_cons (ps_for PassesOwn.never rfl (pi_list (pv 1)) (pg_name (i := 3) sc__law_without.nd rfl (Or.inl rfl)) (pss_cons (ps_if (pt_cmpR op_notIn_seq (pv 3) (pv 2) (by rfl)) (pss_one (ps_ret pe_non)) pss_nil)
    (pss_one (ps_expr (pe_bm PySem.F.plainAttrs_list PySem.F.slot_list_remove PySem.F.type_list_remove mt_remove (pv 2) (pa_cons (pv 3) pa_nil))))))
    (pss_one (ps_ret (pv 2)))))), ?_⟩
    refine q_when (b := false) (et_eq (et_test (ev_op (ev_var rfl) ev_c rv_isN)) rfl) (fun hb _ _ => absurd hb (by decide)) (fun hb H1 e1 => ?_)
    refine q_asgL (el_list (ev_var rfl) (SqL.of (ex_to e1 hA))) fun L H2 nL e2 hL => ?_
    have nL0 : H L = none := fresh_back e1 nL
    refine q_forLn (xs := (Mx.nat m).map V.int) (ev_var rfl) (SqL.of (ex_to e2 (ex_to e1 hC))) (fun i σ' H' => ∃ (ks : List Int) (y : Option V), σ' = [some (.ref a), some (.ref c), some (.ref L), y] ∧ Ex H H' ∧ H' L = some (.lst (ks.map V.int)) ∧ ks.Perm (left ++ Mx.nat (m.drop i))) (fun H3 e3 => ⟨ns, _, rfl, by walk_at "ex", ex_to e3 hL, pm⟩) (fun i σ' H' _ h => by obtain ⟨_, _, _, e, _⟩ := h; exact SqL.of (ex_to e hC)) ?_ ?_
    · rintro i x σ' H' hi ⟨ks, y, rfl, eH, hK, hp⟩
      obtain ⟨p, hp2, rfl⟩ := nat_mem hi
      rw [nat_drop hp2] at hp
      have e : Mx.nat (p :: m.drop (i + 1)) = (p : Int) :: Mx.nat (m.drop (i + 1)) := rfl
      rw [e] at hp
      have hin : (p : Int) ∈ ks := hp.mem_iff.mpr (List.mem_append_right _ List.mem_cons_self)
      refine q_when (b := false) (et_eq (et_test (ev_op (ev_var rfl) (ev_var rfl) (rv_notinI (SqL.of hK)))) (by rw [decide_eq_true hin]; rfl)) (fun hb _ _ => absurd hb (by decide)) (fun hb H3 e3 => ?_)
      refine s_remove (ex_to e3 hK) (ev_var rfl) (ev_var rfl) hin fun H4 e4 => ⟨ks.erase (p : Int), _, rfl, Ex.mut (by walk_at "ex") nL0, upd_same, ?_⟩
      have h1 := (List.perm_cons_erase hin).symm.trans hp
      have h2 : (left ++ (p : Int) :: Mx.nat (m.drop (i + 1))).Perm ((p : Int) :: (left ++ Mx.nat (m.drop (i + 1)))) := List.perm_middle
      exact (h1.trans h2).cons_inv
    · rintro σ' H' ⟨ks, y, rfl, eH, hK, hp⟩
      rw [List.length_map, nat_len, List.drop_length] at hp
      have hp : ks.Perm (left ++ []) := hp
      rw [List.append_nil] at hp
      exact s_ret (ev_var rfl) fun H2 e2 => q ks hp L H2 nL0 (eH.trans e2) (ex_to e2 hK)

/-! _law_refused -/
def sp__law_refused (T : Txt K mg) : Sp := fun vs H Q _ => ∃ (w : Nat) (x y : V) (bx bY little : Bool), vs = [.int w, x, y, .bl little] ∧ w < 2 ∧ FmT K H x bx ∧ FmT K H y bY ∧ ((little = false ∧ (bx && bY) = false) ∨ (little = true ∧ w = 0 ∧ (bx && bY) = true ∧ ∃ a b l m, x = .ref a ∧ y = .ref b ∧ H a = some (.lst ((Mx.nat l).map V.int)) ∧ H b = some (.lst ((Mx.nat m).map V.int)) ∧ Mx.Fm l ∧ Mx.Fm m ∧ (∀ p ∈ l, p < 1000) ∧ l.length ≤ 100 ∧ Mx.val l < Mx.val m)) ∧ RetV (.bl true) H Q
theorem ok__law_refused (T : Txt K mg) : FnOk P w K mg base CX0 6 T.f__law_refused T.d__law_refused ["_law_way", "_law_one", "_law_other", "_law_little"] (sp__law_refused T) := by
  refine T.F__law_refused.ok sc__law_refused (fun vs H Q E h => ?_) (fun cdv A outer s H vs Q E hr h => ?_)
  · obtain ⟨w, x, y, bx, bY, little, rfl, _⟩ := h
    rfl
  · obtain ⟨w, x, y, bx, bY, little, rfl, hw, hx, hy, hc, q⟩ := h
    refine ⟨_, (pss_cons (ps_set (i := 4) sc__law_refused.nd rfl (Or.inl rfl) (pe_lst pa_nil))
    (pss_cons (ps_try_as (i := 5) rfl rfl sc__law_refused.nd rfl rfl ⟨rfl, by decide, Or.inl T.g_SparseError⟩ takes0 (fun W pn xe tk po => (pss_one (ps_if (pt_cmpR op_eq (pv 0) pe_int (nomark _)) (pss_one (ps_expr (pe_callS (ok_taken T) (hr.mono (by decide)) (by rfl) T.g_taken T.F_taken.kp T.b_taken (fun σ => passAt tk σ) (pa_cons (pv 1) (pa_cons (pv 2) pa_nil))))) (pss_one (ps_expr (pe_callS (ok_added T) (hr.mono (by decide)) (by rfl) T.g_added T.F_added.kp T.b_added (fun σ => passAt tk σ) (pa_cons (pv 1) (pa_cons (pv 2) pa_nil))))))))
     (fun a oe cls d pn hz hf => (pss_cons (ps_set (i := 4) sc__law_refused.nd rfl (Or.inl rfl) (pe_lst (pa_cons (pe_callB (call_isX hz hf) (by rfl) T.n_isinstance (by decide +kernel) (pa_cons (pv 5) (pa_cons (pe_glob (v := .ref T.a_TooLittle) (by rfl) T.g_TooLittle rfl) pa_nil))) (pa_cons (pe_callB (call_isX hz hf) (by rfl) T.n_isinstance (by decide +kernel) (pa_cons (pv 5) (pa_cons (pe_glob (v := .ref T.a_NoForm) (by rfl) T.g_NoForm rfl) pa_nil))) (pa_cons (pe_callB (call_isX hz hf) (by rfl) T.n_isinstance (by decide +kernel) (pa_cons (pv 5) (pa_cons (pe_bltn (v := .ty "ValueError") (by rfl) T.n_ValueError (by decide +kernel) rfl) pa_nil))) pa_nil)))))
    (pss_one (ps_set (i := 4) sc__law_refused.nd rfl (Or.inl rfl) (pe_op op_cat (pv 4) (pe_lst (pa_cons (pe_callB (call_isX hz hf) (by rfl) T.n_isinstance (by decide +kernel) (pa_cons (pv 5) (pa_cons (pe_glob (v := .ref T.a_NoNumber) (by rfl) T.g_NoNumber rfl) pa_nil))) (pa_cons (pe_callB (call_isX hz hf) (by rfl) T.n_isinstance (by decide +kernel) (pa_cons (pv 5) (pa_cons (pe_glob (v := .ref T.a_NoText) (by rfl) T.g_NoText rfl) pa_nil))) (pa_cons (pe_callB (call_isX hz hf) (by rfl) T.n_isinstance (by decide +kernel) (pa_cons (pv 5) (pa_cons (pe_glob (v := .ref T.a_NoStep) (by rfl) T.g_NoStep rfl) pa_nil))) pa_nil))))))))))
    (pss_one (ps_ret (pe_cmpR (op_eqD hr.units) (pv 4) (pe_lst (pa_cons (pv 3) (pa_cons (pe_not (pv 3)) (pa_cons pe_bl (pa_cons pe_bl (pa_cons pe_bl (pa_cons pe_bl pa_nil))))))) (nomark _)))))), ?_⟩
    refine q_asgL (el_lst ea_nil (by decide)) fun l0 H1 hl0 e1 h1 => ?_
    refine s_if (b := decide (w = 0)) (et_eq (et_test (ev_op (ev_var rfl) ev_c (rv_eq rfl))) (decide_eq_decide.mpr ⟨fun h => by have := V.int.inj h; omega, fun h => by rw [h]; rfl⟩)) (fun hb H2 e2 => ?_) (fun hb H2 e2 => ?_)
    · refine ⟨_, rfl, _, rfl, x, y, bx, bY, rfl, hx.mono (e1.trans e2), hy.mono (e1.trans e2), fun hf H' e' => ?_, fun hf => ?_⟩
      · rcases hc with ⟨rfl, g⟩ | ⟨_, _, g, _⟩
        case inr => rw [hf] at g; cases g
        refine ⟨true, T.m_NoForm_SparseError, fun _ ad na => ?_, fun z => nomatch z⟩
        refine q_asgL (el_lst (ea_cons (ev_isX (ev_var rfl) ev_c T.e_NoForm rel_ref T.i_NoForm_TooLittle) (ea_cons (ev_isX (ev_var rfl) ev_c T.e_NoForm rel_ref T.i_NoForm_NoForm) (ea_cons (ev_isX (ev_var rfl) ev_c T.e_NoForm rel_ty T.i_NoForm_ValueError) ea_nil))) (by decide)) fun l3 H3 hl3 e3 h3 => ?_
        refine s_asgL (el_cat (ev_var rfl) h3 (el_lst (ea_cons (ev_isX (ev_var rfl) ev_c T.e_NoForm rel_ref T.i_NoForm_NoNumber) (ea_cons (ev_isX (ev_var rfl) ev_c T.e_NoForm rel_ref T.i_NoForm_NoText) (ea_cons (ev_isX (ev_var rfl) ev_c T.e_NoForm rel_ref T.i_NoForm_NoStep) ea_nil))) (by decide)) (by decide)) fun l4 H4 hl4 e4 h4 => ?_
        exact s_ret (ev_last (ev_eqH (evh_v (ev_var rfl) (hd_blsL (bs := [false, true, true, false, false, false]) h4)) (evh_L (el_lst (ea_cons (ev_var rfl) (ea_cons (ev_notV (ev_var rfl)) (ea_cons ev_c (ea_cons ev_c (ea_cons ev_c (ea_cons ev_c ea_nil)))))) (by decide)) (hdAll_bls [false, true, true, false, false, false])) (by decide)) (by decide)) fun H5 e5 => q H5 (by walk_at "ex")
      · rcases hc with ⟨_, g⟩ | ⟨rfl, _, _, a, b, l, m, rfl, rfl, hA, hB, lF, mF, lb, lz, hlt⟩
        case inl => rw [hf] at g; cases g
        refine ⟨a, b, l, m, rfl, rfl, ex_to (e1.trans e2) hA, ex_to (e1.trans e2) hB, lF, mF, lb, lz, fun _ H' e' => ?_, fun h => absurd hlt (by omega)⟩
        refine ⟨true, T.m_TooLittle_SparseError, fun _ ad na => ?_, fun z => nomatch z⟩
        refine q_asgL (el_lst (ea_cons (ev_isX (ev_var rfl) ev_c T.e_TooLittle rel_ref T.i_TooLittle_TooLittle) (ea_cons (ev_isX (ev_var rfl) ev_c T.e_TooLittle rel_ref T.i_TooLittle_NoForm) (ea_cons (ev_isX (ev_var rfl) ev_c T.e_TooLittle rel_ty T.i_TooLittle_ValueError) ea_nil))) (by decide)) fun l3 H3 hl3 e3 h3 => ?_
        refine s_asgL (el_cat (ev_var rfl) h3 (el_lst (ea_cons (ev_isX (ev_var rfl) ev_c T.e_TooLittle rel_ref T.i_TooLittle_NoNumber) (ea_cons (ev_isX (ev_var rfl) ev_c T.e_TooLittle rel_ref T.i_TooLittle_NoText) (ea_cons (ev_isX (ev_var rfl) ev_c T.e_TooLittle rel_ref T.i_TooLittle_NoStep) ea_nil))) (by decide)) (by decide)) fun l4 H4 hl4 e4 h4 => ?_
        exact s_ret (ev_last (ev_eqH (evh_v (ev_var rfl) (hd_blsL (bs := [true, false, true, false, false, false]) h4)) (evh_L (el_lst (ea_cons (ev_var rfl) (ea_cons (ev_notV (ev_var rfl)) (ea_cons ev_c (ea_cons ev_c (ea_cons ev_c (ea_cons ev_c ea_nil)))))) (by decide)) (hdAll_bls [true, false, true, false, false, false])) (by decide)) (by decide)) fun H5 e5 => q H5 (by walk_at "ex")
    · have hw1 := of_decide_eq_false hb
      refine ⟨_, rfl, _, rfl, x, y, bx, bY, rfl, hx.mono (e1.trans e2), hy.mono (e1.trans e2), fun hf H' e' => ?_, fun hf => ?_⟩
      · rcases hc with ⟨rfl, g⟩ | ⟨_, g, _, _⟩
        case inr => exact absurd g hw1
        refine ⟨true, T.m_NoForm_SparseError, fun _ ad na => ?_, fun z => nomatch z⟩
        refine q_asgL (el_lst (ea_cons (ev_isX (ev_var rfl) ev_c T.e_NoForm rel_ref T.i_NoForm_TooLittle) (ea_cons (ev_isX (ev_var rfl) ev_c T.e_NoForm rel_ref T.i_NoForm_NoForm) (ea_cons (ev_isX (ev_var rfl) ev_c T.e_NoForm rel_ty T.i_NoForm_ValueError) ea_nil))) (by decide)) fun l3 H3 hl3 e3 h3 => ?_
        refine s_asgL (el_cat (ev_var rfl) h3 (el_lst (ea_cons (ev_isX (ev_var rfl) ev_c T.e_NoForm rel_ref T.i_NoForm_NoNumber) (ea_cons (ev_isX (ev_var rfl) ev_c T.e_NoForm rel_ref T.i_NoForm_NoText) (ea_cons (ev_isX (ev_var rfl) ev_c T.e_NoForm rel_ref T.i_NoForm_NoStep) ea_nil))) (by decide)) (by decide)) fun l4 H4 hl4 e4 h4 => ?_
        exact s_ret (ev_last (ev_eqH (evh_v (ev_var rfl) (hd_blsL (bs := [false, true, true, false, false, false]) h4)) (evh_L (el_lst (ea_cons (ev_var rfl) (ea_cons (ev_notV (ev_var rfl)) (ea_cons ev_c (ea_cons ev_c (ea_cons ev_c (ea_cons ev_c ea_nil)))))) (by decide)) (hdAll_bls [false, true, true, false, false, false])) (by decide)) (by decide)) fun H5 e5 => q H5 (by walk_at "ex")
      · rcases hc with ⟨_, g⟩ | ⟨_, g, _, _⟩
        · rw [hf] at g; cases g
        · exact absurd g hw1

/-! _law_taken -/
def sp__law_taken (T : Txt K mg) : Sp := fun vs H Q _ => ∃ a c r l m, vs = [.ref a, .ref c, .ref r] ∧ H a = some (.lst ((Mx.nat l).map V.int)) ∧ H c = some (.lst ((Mx.nat m).map V.int)) ∧ H r = some (.lst ((Mx.row 1000).map V.int)) ∧ Mx.Fm l ∧ Mx.Fm m ∧ (∀ p ∈ l, p < 1000) ∧ (∀ p ∈ m, p < 1000) ∧ l.length ≤ 100 ∧ m.length ≤ 100 ∧ Mx.val m ≤ Mx.val l ∧ RetV (.bl true) H Q
theorem ok__law_taken (T : Txt K mg) : FnOk P w K mg base CX0 6 T.f__law_taken T.d__law_taken ["_law_great", "_law_small", "_law_row"] (sp__law_taken T) := by
  refine T.F__law_taken.ok sc__law_taken (fun vs H Q E h => ?_) (fun cdv A outer s H vs Q E hr h => ?_)
  · obtain ⟨a, c, r, l, m, rfl, _⟩ := h
    rfl
  · obtain ⟨a, c, r, l, m, rfl, hA, hC, hrw, lF, mF, lb, mb, lz, mz, hv, q⟩ := h
    refine ⟨_, (pss_cons (ps_set (i := 3) sc__law_taken.nd rfl (Or.inl rfl) (pe_lst (pa_cons (pe_callTy call_list_of (by rfl) T.n_list (by decide +kernel) (pa_cons (pv 0) pa_nil)) (pa_cons (pe_callTy call_list_of (by rfl) T.n_list (by decide +kernel) (pa_cons (pv 1) pa_nil)) pa_nil))))
    (pss_cons (ps_set (i := 4) sc__law_taken.nd rfl (Or.inl rfl) (pe_call (ok_taken T) (hr.mono (by decide)) (by rfl) T.g_taken T.F_taken.kp T.b_taken .nil passL (pa_cons (pe_ix ix_list (pv 3) pe_int (fun _ _ => rfl)) (pa_cons (pe_ix ix_list (pv 3) pe_int (fun _ _ => rfl)) pa_nil))))
    (pss_cons (ps_if (PW.pt (pw_or (pt_not (pt_val (pe_callB call_isi (by rfl) T.n_isinstance (by decide +kernel) (pa_cons (pv 4) (pa_cons (pe_bltn (v := .ty "tuple") (by rfl) T.n_tuple (by decide +kernel) rfl) pa_nil))))) (pw_or (pt_cmpR op_ne (pe_callB call_len_seq (by rfl) T.n_len (by decide +kernel) (pa_cons (pv 4) pa_nil)) pe_int (nomark _)) (pw_or1 (pt_cmpR (op_neD hr.units) (pv 3) (pe_lst (pa_cons (pv 0) (pa_cons (pv 1) pa_nil))) (nomark _)))))) (pss_one (ps_ret pe_bl)) pss_nil)
    (pss_cons (ps_set (i := 5) sc__law_taken.nd rfl (Or.inl rfl) (pe_call (ok__law_without T) (hr.mono (by decide)) (by rfl) T.g__law_without T.F__law_without.kp T.b__law_without .nil pass0 (pa_cons (pe_call (ok__law_opened T) (hr.mono (by decide)) (by rfl) T.g__law_opened T.F__law_opened.kp T.b__law_opened .nil pass0 (pa_cons (pv 0) (pa_cons (pe_ix ix_tup (pv 4) pe_int (fun _ _ => rfl)) pa_nil))) (pa_cons (pv 1) pa_nil))))
    (pss_cons (ps_if (PW.pt (pw_or (pt_cmpR op_isN (pv 5) pe_non (nomark _)) (pw_or1 (pt_not (pt_val (pe_call (ok__law_led T) (hr.mono (by decide)) (by rfl) T.g__law_led T.F__law_led.kp T.b__law_led .nil pass0 (pa_cons (pv 5) (pa_cons (pe_ix ix_tup (pv 4) pe_int (fun _ _ => rfl)) (pa_cons (pe_ix ix_tup (pv 4) pe_int (fun _ _ => rfl)) pa_nil))))))))) (pss_one (ps_ret pe_bl)) pss_nil)
    (pss_cons (ps_if (pt_cmpR op_ne (pe_call (ok__law_sum T) (hr.mono (by decide)) (by rfl) T.g__law_sum T.F__law_sum.kp T.b__law_sum .nil pass0 (pa_cons (pe_ix ix_tup (pv 4) pe_int (fun _ _ => rfl)) (pa_cons (pv 2) pa_nil))) (pe_op op_sub (pe_call (ok__law_sum T) (hr.mono (by decide)) (by rfl) T.g__law_sum T.F__law_sum.kp T.b__law_sum .nil pass0 (pa_cons (pv 0) (pa_cons (pv 2) pa_nil))) (pe_call (ok__law_sum T) (hr.mono (by decide)) (by rfl) T.g__law_sum T.F__law_sum.kp T.b__law_sum .nil pass0 (pa_cons (pv 1) (pa_cons (pv 2) pa_nil)))) (nomark _)) (pss_one (ps_ret pe_bl)) pss_nil)
    (pss_cons (ps_expr (pe_bm PySem.F.plainAttrs_list PySem.F.slot_list_append PySem.F.type_list_append mt_append (pe_ix ix_tup (pv 4) pe_int (fun _ _ => rfl)) (pa_cons pe_int pa_nil)))
    (pss_cons (ps_expr (pe_bm PySem.F.plainAttrs_list PySem.F.slot_list_append PySem.F.type_list_append mt_append (pe_ix ix_tup (pv 4) pe_int (fun _ _ => rfl)) (pa_cons pe_int pa_nil)))
    (pss_one (ps_ret (pe_cmpR (op_eqD hr.units) (pv 3) (pe_lst (pa_cons (pv 0) (pa_cons (pv 1) pa_nil))) (nomark _)))))))))))), ?_⟩
    refine q_pairL (el_list (ev_var rfl) (SqL.of hA)) (el_list (ev_var rfl) (SqL.of hC)) fun X Y P H1 nX nY nP nXY e1 hX hY hP => ?_
    have i0 : ∀ {σ : L2.St} {H' : Hp}, σ[3]? = some (some (.ref P)) → Ex H1 H' → Ev (tOp (rIxL K) (tVar 3) (tC (.int 0))) σ H' (.ref X) := fun hv e => ev_op (ev_var hv) ev_c (rv_ixL (SqL.of (ex_to e hP)) (atI_nat (j := 0) rfl))
    have i1 : ∀ {σ : L2.St} {H' : Hp}, σ[3]? = some (some (.ref P)) → Ex H1 H' → Ev (tOp (rIxL K) (tVar 3) (tC (.int 1))) σ H' (.ref Y) := fun hv e => ev_op (ev_var hv) ev_c (rv_ixL (SqL.of (ex_to e hP)) (atI_nat (j := 1) rfl))
    refine q_callA (vs := [.ref X, .ref Y]) (ea_cons (i0 rfl (Ex.refl _)) (ea_cons (i1 rfl (Ex.refl _)) ea_nil)) fun H2 e2 => ?_
    refine ⟨.ref X, .ref Y, true, true, rfl, fmT_nat (ex_to e2 hX) lF, fmT_nat (ex_to e2 hY) mF, fun z => (nomatch z), fun _ => ⟨X, Y, l, m, rfl, rfl, ex_to e2 hX, ex_to e2 hY, lF, mF, lb, lz, fun h => absurd h (by omega), fun _ => ?_⟩⟩
    intro t F R W row left vs ss l2 H3 nF nR nRF e3 ht hF hR hW gW ol pm nn lz2 rz hG hp l2F
    show tSeq _ _ _ ([some (.ref a), some (.ref c), some (.ref r), some (.ref P), some (.ref t), none] : L2.St) H3
    have e12 := e1.trans e2
    have eHH2 := e1.trans e2
    have eb : Ex H2 H3 := e3
    have hA2 := ex_to e12 hA
    have hC2 := ex_to e12 hC
    have hrw2 := ex_to e12 hrw
    have hX2 := ex_to e2 hX
    have hY2 := ex_to e2 hY
    have hP2 := ex_to e2 hP
    have handed : ∀ {σ : L2.St} {H' : Hp}, σ[0]? = some (some (.ref a)) → σ[1]? = some (some (.ref c)) → σ[3]? = some (some (.ref P)) → Ex H2 H' → EvH K (tVar 3) σ H' [Mx.nat l, Mx.nat m] ∧ EvH K (tLst (tCons (tVar 0) (tCons (tVar 1) tNil))) σ H' [Mx.nat l, Mx.nat m] := fun h0 h1 h3 e =>
      ⟨evh_v (ev_var h3) (hd_lst (SqL.of (ex_to e hP2)) (hdAll_cons (hd_ints (SqL.of (ex_to e hX2))) (hdAll_cons (hd_ints (SqL.of (ex_to e hY2))) hdAll_nil))), evh_L (el_lst (ea_cons (ev_var h0) (ea_cons (ev_var h1) ea_nil)) (show 2 ≤ 100000 by decide)) (hdAll_cons (hd_ints (SqL.of (ex_to e hA2))) (hdAll_cons (hd_ints (SqL.of (ex_to e hC2))) hdAll_nil))⟩
    have px : ∀ {σ : L2.St} {H' : Hp} (j : Nat) {v : V}, σ[4]? = some (some (.ref t)) → H' t = some (.tup [.ref F, .ref R, .ref W]) → ([.ref F, .ref R, .ref W] : List V)[j]? = some v → Ev (tOp (rIxT K) (tVar 4) (tC (.int (j : Int)))) σ H' v := fun {σ H'} j {v} hs h hj => ev_op (ev_var hs) ev_c (rv_ixT (SqT.of h) (atI_nat hj))
    refine q_when (b := false) ?_ (fun hb _ _ => absurd hb (by decide)) (fun hb H4 e4 => ?_)
    · refine et_eq (et_or (a := false) (b := false) ?_ fun _ => et_or (a := false) (b := false) ?_ fun _ => ?_) rfl
      · exact et_eq (et_not (et_B (ev_isi (ev_var rfl) (TyOf.tup ht) (b := true) (by decide +kernel)))) rfl
      · exact et_eq (et_test (ev_op (ev_lenT (ev_var rfl) ht) ev_c (rv_ne rfl))) rfl
      · exact et_eq (et_test (ev_neH (handed rfl rfl rfl eb).1 (handed rfl rfl rfl eb).2 (by decide))) (by simp)
    have ht4 := ex_to e4 ht
    refine q_call2 (ea_cons (ev_var rfl) (ea_cons (px 1 rfl ht4 rfl) ea_nil)) fun H5 e5 => ?_
    have e25 : Ex H2 H5 := eb.trans (e4.trans e5)
    refine ⟨a, R, Mx.nat l, row, rfl, ex_to e25 hA2, ex_to (e4.trans e5) hR, ol, by rw [nat_len]; omega, rz, fun M H6 e6 hM => ⟨_, rfl, M, c, m, _, left, rfl, hM, ex_to (e25.trans e6) hC2, pm, fun ks hk L H7 nL e7 hL => ?_⟩⟩
    show tSeq _ _ _ ([some (.ref a), some (.ref c), some (.ref r), some (.ref P), some (.ref t), some (.ref L)] : L2.St) H7
    have e37 : Ex H3 H7 := e4.trans (e5.trans (e6.trans e7))
    have e27 := eb.trans e37
    have kn : ∀ x ∈ ks, 0 ≤ x := fun x hx => (nn x (hk.mem_iff.mp hx)).1
    have ln : ∀ x ∈ left, 0 ≤ x := fun x hx => (nn x hx).1
    refine q_when (b := false) ?_ (fun hb _ _ => absurd hb (by decide)) (fun hb H8 e8 => ?_)
    · refine et_eq (et_or (a := false) (b := false) (et_eq (et_test (ev_op (ev_var rfl) ev_c rv_isN)) rfl) fun _ => ?_) rfl
      exact et_eq (et_not (et_B (ev_call (z := .bl true) (ea_cons (ev_var rfl) (ea_cons (px 2 rfl (ex_to e37 ht) rfl) (ea_cons (px 0 rfl (ex_to e37 ht) rfl) ea_nil))) fun H' e Q q E => ⟨L, W, F, vs, ss, l2, ks, rfl, ex_to e hL, ex_to (e37.trans e) hW, gW.mono (e37.trans e), ex_to (e37.trans e) hF, kn, by rw [hk.length_eq]; omega, led_perm hk.symm hG, hp.trans (fold_perm hk.symm), l2F, fun H2 e2 => q H2 e2⟩))) rfl
    have e38 := e37.trans e8
    have e28 := eb.trans e38
    have kl := led_keeps hG ⟨ln, Nat.le_refl _, rfl⟩
    have v2 : Mx.val l2 = Mx.val l - Mx.val m := by
      have s1 := sumOf_perm (f := memI) hp
      rw [memI_nat, kl.1.2.2] at s1
      have s2 := sumOf_perm (f := memI) pm
      rw [opled_sum ol, sumOf_app, memI_nat, memI_nat] at s2
      omega
    have l2b : ∀ p ∈ l2, p < 1000 := fun p hp2 => by
      have h1 := val_ge hp2
      have h2 := Mx.val_lt lF lb
      have h3 := Mx.val_nonneg m
      exact Mx.lt_of_mem (by omega)
    have l2z : l2.length ≤ 3000 := by
      have := hp.length_eq
      rw [nat_len] at this
      have := kl.1.2.1
      omega
    refine q_when (b := false) ?_ (fun hb _ _ => absurd hb (by decide)) (fun hb H9 e9 => ?_)
    · refine et_eq (et_test (ev_op (ev_call (ea_cons (px 0 rfl (ex_to e38 ht) rfl) (ea_cons (ev_var rfl) ea_nil)) (spv__law_sum T (ex_to e38 hF) (ex_to e28 hrw2) l2b l2z)) (ev_op (ev_call (ea_cons (ev_var rfl) (ea_cons (ev_var rfl) ea_nil)) (spv__law_sum T (ex_to e28 hA2) (ex_to e28 hrw2) lb (by omega))) (ev_call (ea_cons (ev_var rfl) (ea_cons (ev_var rfl) ea_nil)) (spv__law_sum T (ex_to e28 hC2) (ex_to e28 hrw2) mb (by omega))) rv_I0) (rv_ne rfl))) ?_
      rw [v2]
      simp
    have e39 := e38.trans e9
    refine q_app (ex_to e39 hF) (px 0 rfl (ex_to e39 ht) rfl) ev_c (by rw [List.length_map, nat_len]; omega) fun H10 e10 => ?_
    have tne : t ≠ F := fun e => by rw [e, hF] at ht; cases ht
    have ht11 := (upd_ne (H := H10) (o := .lst ((Mx.nat l2).map V.int ++ [.int 2000])) tne).trans (ex_to (e39.trans e10) ht)
    have hR11 := (upd_ne (H := H10) (o := .lst ((Mx.nat l2).map V.int ++ [.int 2000])) nRF).trans (ex_to (e39.trans e10) hR)
    have e211 : Ex H2 (upd H10 F (.lst ((Mx.nat l2).map V.int ++ [.int 2000]))) := Ex.mut ((eb.trans e39).trans e10) nF
    generalize upd H10 F (.lst ((Mx.nat l2).map V.int ++ [.int 2000])) = H11 at ht11 hR11 e211
    refine q_app hR11 (px 1 rfl ht11 rfl) ev_c (by rw [List.length_map]; omega) fun H12 e12 => ?_
    have e213 : Ex H2 (upd H12 R (.lst (row.map V.int ++ [.int 3]))) := Ex.mut (e211.trans e12) nR
    generalize upd H12 R (.lst (row.map V.int ++ [.int 3])) = H13 at e213
    exact s_ret (ev_last (ev_eqH (handed rfl rfl rfl e213).1 (handed rfl rfl rfl e213).2 (by decide)) (by simp)) fun H14 e14 => q H14 (eHH2.trans (e213.trans e14))

/-! the law -/
def sp_law (K : PySem.W.Frag) : Sp := fun vs H Q _ => ∃ a, ∃ ns : List Int, vs = [.ref a] ∧ SqL K H a (ns.map V.int) ∧ ns.length ≤ 63 ∧ ∀ H', Q (.bl true) H'
theorem ok_law (T : Txt K mg) {f : Addr} {fd : FuncData} (F : Fun K "law" "law" s_law f fd) : FnOk P w K mg base CX0 7 f fd ["_law_script"] (sp_law K) := by
  refine F.ok sc_law (fun vs H Q E h => ?_) (fun cdv A outer s H vs Q E hr h => ?_)
  · obtain ⟨a, ns, rfl, _⟩ := h
    rfl
  · obtain ⟨a, ns, rfl, hS, hlen, q⟩ := h
    refine ⟨_, (pss_cons (ps_asg (pe_call (ok__law_pair T) (hr.mono (by decide)) (by rfl) T.g__law_pair T.F__law_pair.kp T.b__law_pair .nil pass0 (pa_cons (pv 0) pa_nil)) (pg_lst rfl (pgs_cons (pg_name (i := 1) sc_law.nd rfl (Or.inl rfl)) (pgs_cons (pg_name (i := 2) sc_law.nd rfl (Or.inl rfl)) pgs_nil))))
    (pss_cons (ps_set (i := 3) sc_law.nd rfl (Or.inl rfl) (pe_call (ok__law_members T) (hr.mono (by decide)) (by rfl) T.g__law_members T.F__law_members.kp T.b__law_members .nil pass0 (pa_cons pe_int pa_nil)))
    (pss_cons (ps_set (i := 4) sc_law.nd rfl (Or.inl rfl) (pe_lst (pa_cons (pe_callTy call_list_of (by rfl) T.n_list (by decide +kernel) (pa_cons (pv 1) pa_nil)) (pa_cons (pe_callTy call_list_of (by rfl) T.n_list (by decide +kernel) (pa_cons (pv 2) pa_nil)) pa_nil))))
    (pss_cons (ps_set (i := 5) sc_law.nd rfl (Or.inl rfl) (pe_call (ok_added T) (hr.mono (by decide)) (by rfl) T.g_added T.F_added.kp T.b_added .nil passL (pa_cons (pe_ix ix_list (pv 4) pe_int (fun _ _ => rfl)) (pa_cons (pe_ix ix_list (pv 4) pe_int (fun _ _ => rfl)) pa_nil))))
    (pss_cons (ps_if (PW.pt (pw_or (pt_not (pt_val (pe_callB call_isi (by rfl) T.n_isinstance (by decide +kernel) (pa_cons (pv 5) (pa_cons (pe_bltn (v := .ty "tuple") (by rfl) T.n_tuple (by decide +kernel) rfl) pa_nil))))) (pw_or (pt_cmpR op_ne (pe_callB call_len_seq (by rfl) T.n_len (by decide +kernel) (pa_cons (pv 5) pa_nil)) pe_int (nomark _)) (pw_or1 (pt_cmpR (op_neD hr.units) (pv 4) (pe_lst (pa_cons (pv 1) (pa_cons (pv 2) pa_nil))) (nomark _)))))) (pss_one (ps_ret pe_bl)) pss_nil)
    (pss_cons (ps_if (pt_not (pt_val (pe_call (ok__law_led T) (hr.mono (by decide)) (by rfl) T.g__law_led T.F__law_led.kp T.b__law_led .nil pass0 (pa_cons (pe_op op_cat (pv 1) (pv 2)) (pa_cons (pe_ix ix_tup (pv 5) pe_int (fun _ _ => rfl)) (pa_cons (pe_ix ix_tup (pv 5) pe_int (fun _ _ => rfl)) pa_nil)))))) (pss_one (ps_ret pe_bl)) pss_nil)
    (pss_cons (ps_if (pt_cmpR op_ne (pe_call (ok__law_sum T) (hr.mono (by decide)) (by rfl) T.g__law_sum T.F__law_sum.kp T.b__law_sum .nil pass0 (pa_cons (pe_ix ix_tup (pv 5) pe_int (fun _ _ => rfl)) (pa_cons (pv 3) pa_nil))) (pe_op op_add (pe_call (ok__law_sum T) (hr.mono (by decide)) (by rfl) T.g__law_sum T.F__law_sum.kp T.b__law_sum .nil pass0 (pa_cons (pv 1) (pa_cons (pv 3) pa_nil))) (pe_call (ok__law_sum T) (hr.mono (by decide)) (by rfl) T.g__law_sum T.F__law_sum.kp T.b__law_sum .nil pass0 (pa_cons (pv 2) (pa_cons (pv 3) pa_nil)))) (nomark _)) (pss_one (ps_ret pe_bl)) pss_nil)
    (pss_cons (ps_expr (pe_bm PySem.F.plainAttrs_list PySem.F.slot_list_append PySem.F.type_list_append mt_append (pe_ix ix_tup (pv 5) pe_int (fun _ _ => rfl)) (pa_cons pe_int pa_nil)))
    (pss_cons (ps_if (pt_cmpR (op_neD hr.units) (pv 4) (pe_lst (pa_cons (pv 1) (pa_cons (pv 2) pa_nil))) (nomark _)) (pss_one (ps_ret pe_bl)) pss_nil)
    (pss_cons (ps_par (i := 6) (j := 7) (by rfl) sc_law.nd rfl rfl (by decide) rfl rfl (pa_cons (pv 1) (pa_cons (pv 2) pa_nil)) (by rfl))
    (Evl.pss_cut (ps_if (pt_cmpR op_lt (pe_call (ok__law_sum T) (hr.mono (by decide)) (by rfl) T.g__law_sum T.F__law_sum.kp T.b__law_sum .nil pass0 (pa_cons (pv 1) (pa_cons (pv 3) pa_nil))) (pe_call (ok__law_sum T) (hr.mono (by decide)) (by rfl) T.g__law_sum T.F__law_sum.kp T.b__law_sum .nil pass0 (pa_cons (pv 2) (pa_cons (pv 3) pa_nil))) (nomark _)) (pss_one (ps_par (i := 6) (j := 7) (by rfl) sc_law.nd rfl rfl (by decide) rfl rfl (pa_cons (pv 2) (pa_cons (pv 1) pa_nil)) (by rfl))) pss_nil)
    (pss_cons (ps_if (pt_not (pt_val (pe_call (ok__law_taken T) (hr.mono (by decide)) (by rfl) T.g__law_taken T.F__law_taken.kp T.b__law_taken .nil pass0 (pa_cons (pv 6) (pa_cons (pv 7) (pa_cons (pv 3) pa_nil)))))) (pss_one (ps_ret pe_bl)) pss_nil)
    (pss_cons (ps_if (PW.pt (pw_and (pt_cmpR (op_neD hr.units) (pv 6) (pv 7) (nomark _)) (pw_and1 (pt_not (pt_val (pe_call (ok__law_refused T) (hr.mono (by decide)) (by rfl) T.g__law_refused T.F__law_refused.kp T.b__law_refused .nil pass0 (pa_cons pe_int (pa_cons (pv 7) (pa_cons (pv 6) (pa_cons pe_bl pa_nil)))))))))) (pss_one (ps_ret pe_bl)) pss_nil)
    (pss_cons (ps_set (i := 8) sc_law.nd rfl (Or.inl rfl) (pe_op op_fdiv (pe_call (ok__law_cell_at T) (hr.mono (by decide)) (by rfl) T.g__law_cell_at T.F__law_cell_at.kp T.b__law_cell_at .nil pass0 (pa_cons (pv 0) (pa_cons pe_int pa_nil))) pe_int))
    (pss_cons (ps_set (i := 9) sc_law.nd rfl (Or.inl rfl) (pe_ix ix_list (pe_lst (pa_cons (pe_lst (pa_cons pe_int (pa_cons pe_int pa_nil))) (pa_cons (pe_lst (pa_cons pe_int (pa_cons pe_int pa_nil))) (pa_cons (pe_lst (pa_cons pe_int (pa_cons pe_int pa_nil))) (pa_cons pe_non (pa_cons (pe_tup (pa_cons pe_int (pa_cons pe_int pa_nil))) (pa_cons pe_str pa_nil))))))) (pe_op op_mod (pv 8) pe_int) (fun _ _ => rfl)))
    (pss_cons (ps_if (PW.pt (pw_or (pt_not (pt_val (pe_call (ok__law_refused T) (hr.mono (by decide)) (by rfl) T.g__law_refused T.F__law_refused.kp T.b__law_refused .nil pass0 (pa_cons pe_int (pa_cons (pe_lst pa_nil) (pa_cons (pv 9) (pa_cons pe_bl pa_nil))))))) (pw_or1 (pt_not (pt_val (pe_call (ok__law_refused T) (hr.mono (by decide)) (by rfl) T.g__law_refused T.F__law_refused.kp T.b__law_refused .nil pass0 (pa_cons pe_int (pa_cons (pv 9) (pa_cons (pv 1) (pa_cons pe_bl pa_nil)))))))))) (pss_one (ps_ret pe_bl)) pss_nil)
    (pss_one (ps_ret (pe_and (pe_call (ok__law_refused T) (hr.mono (by decide)) (by rfl) T.g__law_refused T.F__law_refused.kp T.b__law_refused .nil pass0 (pa_cons pe_int (pa_cons (pv 1) (pa_cons (pv 9) (pa_cons pe_bl pa_nil))))) (pe_one (pe_call (ok__law_refused T) (hr.mono (by decide)) (by rfl) T.g__law_refused T.F__law_refused.kp T.b__law_refused .nil pass0 (pa_cons pe_int (pa_cons (pv 9) (pa_cons (pv 2) (pa_cons pe_bl pa_nil))))))))))))))))))))))))), ?_⟩
    refine q_callG (ea_cons (ev_var rfl) ea_nil) fun H1 e1 => ⟨a, ns, rfl, ex_l e1 hS, hlen, fun l m lB mB p A B H2 e2 hp hA hB => ?_⟩
    refine ⟨p, _, rfl, SqL.of hp, rfl, _, _, rfl, _, _, rfl, rfl, ?_⟩
    obtain ⟨lF, lb, lz⟩ := lB
    obtain ⟨mF, mb, mz⟩ := mB
    refine q_asgL (el_call (ea_cons ev_c ea_nil) (spl__law_members T (n := 1000) (by decide))) fun r H3 nr e3 hrw => ?_
    have hA3 := ex_to e3 hA
    have hB3 := ex_to e3 hB
    have eH3 : Ex H H3 := (e1.trans e2).trans e3
    refine q_pairL (el_list (ev_var rfl) (SqL.of hA3)) (el_list (ev_var rfl) (SqL.of hB3)) fun X Y P H4 nX nY nP nXY e4 hX hY hP => ?_
    have i0 : ∀ {σ : L2.St} {H' : Hp}, σ[4]? = some (some (.ref P)) → Ex H4 H' → Ev (tOp (rIxL K) (tVar 4) (tC (.int 0))) σ H' (.ref X) := fun hv e => ev_op (ev_var hv) ev_c (rv_ixL (SqL.of (ex_to e hP)) (atI_nat (j := 0) rfl))
    have i1 : ∀ {σ : L2.St} {H' : Hp}, σ[4]? = some (some (.ref P)) → Ex H4 H' → Ev (tOp (rIxL K) (tVar 4) (tC (.int 1))) σ H' (.ref Y) := fun hv e => ev_op (ev_var hv) ev_c (rv_ixL (SqL.of (ex_to e hP)) (atI_nat (j := 1) rfl))
    refine q_callA (vs := [.ref X, .ref Y]) (ea_cons (i0 rfl (Ex.refl _)) (ea_cons (i1 rfl (Ex.refl _)) ea_nil)) fun H5 e5 => ?_
    have lb1 : ∀ p ∈ l, p < 1000 := fun p h => by have := lb p h; omega
    have mb1 : ∀ p ∈ m, p < 1000 := fun p h => by have := mb p h; omega
    refine ⟨.ref X, .ref Y, true, true, rfl, fmT_nat (ex_to e5 hX) lF, fmT_nat (ex_to e5 hY) mF, fun z => (nomatch z), fun _ => ⟨X, Y, l, m, rfl, rfl, ex_to e5 hX, ex_to e5 hY, lb1, mb1, by omega, by omega, ?_⟩⟩
    intro t F W vs ss l2 H6 nF nW nFW e6 ht hF hW gW hG hpm l2F
    show tSeq _ _ _ ([some (.ref a), some (.ref A), some (.ref B), some (.ref r), some (.ref P), some (.ref t), none, none, none, none] : L2.St) H6
    have e35 := e4.trans e5
    have hA5 := ex_to e35 hA3
    have hB5 := ex_to e35 hB3
    have hr5 := ex_to e35 hrw
    have hX5 := ex_to e5 hX
    have hY5 := ex_to e5 hY
    have hP5 := ex_to e5 hP
    have eH5 := eH3.trans e35
    have handed : ∀ {σ : L2.St} {H' : Hp}, σ[1]? = some (some (.ref A)) → σ[2]? = some (some (.ref B)) → σ[4]? = some (some (.ref P)) → Ex H5 H' → EvT (tTest (tOp (rNeD K) (tVar 4) (tLst (tCons (tVar 1) (tCons (tVar 2) tNil))))) σ H' false := fun h1 h2 h4 e =>
      et_eq (et_test (ev_neH (α := List (List Int)) (x := [Mx.nat l, Mx.nat m]) (y := [Mx.nat l, Mx.nat m]) (evh_v (ev_var h4) (hd_lst (SqL.of (ex_to e hP5)) (hdAll_cons (hd_ints (SqL.of (ex_to e hX5))) (hdAll_cons (hd_ints (SqL.of (ex_to e hY5))) hdAll_nil)))) (evh_L (el_lst (ea_cons (ev_var h1) (ea_cons (ev_var h2) ea_nil)) (show 2 ≤ 100000 by decide)) (hdAll_cons (hd_ints (SqL.of (ex_to e hA5))) (hdAll_cons (hd_ints (SqL.of (ex_to e hB5))) hdAll_nil))) (by decide))) (by simp)
    have px : ∀ {σ : L2.St} {H' : Hp} (j : Nat) {v : V}, σ[5]? = some (some (.ref t)) → H' t = some (.tup [.ref F, .ref W]) → ([.ref F, .ref W] : List V)[j]? = some v → Ev (tOp (rIxT K) (tVar 5) (tC (.int (j : Int)))) σ H' v := fun {σ H'} j {v} hs h hj => ev_op (ev_var hs) ev_c (rv_ixT (SqT.of h) (atI_nat hj))
    refine q_when (b := false) ?_ (fun hb _ _ => absurd hb (by decide)) (fun hb H7 e7 => ?_)
    · refine et_eq (et_or (a := false) (b := false) ?_ fun _ => et_or (a := false) (b := false) ?_ fun _ => handed rfl rfl rfl e6) rfl
      · exact et_eq (et_not (et_B (ev_isi (ev_var rfl) (TyOf.tup ht) (b := true) (by decide +kernel)))) rfl
      · exact et_eq (et_test (ev_op (ev_lenT (ev_var rfl) ht) ev_c (rv_ne rfl))) rfl
    have nn : ∀ x ∈ Mx.nat (l ++ m), 0 ≤ x := fun x hx => by obtain ⟨p, _, rfl⟩ := List.mem_map.mp hx; omega
    have kl := led_keeps hG ⟨nn, Nat.le_refl _, rfl⟩
    have v2 : Mx.val l2 = Mx.val l + Mx.val m := by
      have s1 := sumOf_perm (f := memI) hpm
      rw [memI_nat, kl.1.2.2, memI_nat, Mx.val_app] at s1
      exact s1
    have vl := Mx.val_lt lF lb
    have vm := Mx.val_lt mF mb
    have m990 : Mx.mem 992 = Mx.mem 990 + Mx.mem 991 := Mx.mem_two 990
    have m991 : Mx.mem 990 < Mx.mem 991 := Mx.mem_lt (by decide)
    have m1000 : Mx.mem 992 < Mx.mem 1000 := Mx.mem_lt (by decide)
    have l2b : ∀ p ∈ l2, p < 1000 := fun p hp2 => by
      have h1 := val_ge hp2
      exact Mx.lt_of_mem (by omega)
    have l2z : l2.length ≤ 200 := by
      have := hpm.length_eq
      rw [nat_len] at this
      have := kl.1.2.1
      rw [nat_len, List.length_append] at this
      omega
    have e57 := e6.trans e7
    refine q_when (b := false) ?_ (fun hb _ _ => absurd hb (by decide)) (fun hb H8 e8 => ?_)
    · refine et_eq (et_not (et_B (b := true) fun H' e Q q => ?_)) rfl
      refine el_catV (ev_var (i := 1) (v := .ref A) rfl) (ex_to e57 hA5) (ev_var (i := 2) (v := .ref B) rfl) (ex_to e57 hB5) (by rw [List.length_map, List.length_map, nat_len, nat_len]; omega) H' e _ fun L H9 nL e9 hL => ?_
      have et := e7.trans (e.trans e9)
      rw [← nat_cat] at hL
      refine px 1 rfl (ex_to et ht) rfl H9 (Ex.refl _) _ fun H10 e10 => px 0 rfl (ex_to (et.trans e10) ht) rfl H10 (Ex.refl _) _ fun H11 e11 => ?_
      have ef := et.trans (e10.trans e11)
      exact ⟨L, W, F, vs, ss, l2, Mx.nat (l ++ m), rfl, ex_to (e10.trans e11) hL, ex_to ef hW, gW.mono ef, ex_to ef hF, nn, by rw [nat_len, List.length_append]; omega, hG, hpm, l2F, fun H12 e12 => q H12 (e9.trans ((e10.trans e11).trans e12))⟩
    have e58 := e57.trans e8
    have e68 := e7.trans e8
    refine q_when (b := false) ?_ (fun hb _ _ => absurd hb (by decide)) (fun hb H9 e9 => ?_)
    · refine et_eq (et_test (ev_op (ev_call (ea_cons (px 0 rfl (ex_to e68 ht) rfl) (ea_cons (ev_var rfl) ea_nil)) (spv__law_sum T (ex_to e68 hF) (ex_to e58 hr5) l2b (by omega))) (ev_op (ev_call (ea_cons (ev_var rfl) (ea_cons (ev_var rfl) ea_nil)) (spv__law_sum T (ex_to e58 hA5) (ex_to e58 hr5) lb1 (by omega))) (ev_call (ea_cons (ev_var rfl) (ea_cons (ev_var rfl) ea_nil)) (spv__law_sum T (ex_to e58 hB5) (ex_to e58 hr5) mb1 (by omega))) rv_I0) (rv_ne rfl))) ?_
      rw [v2]
      simp
    have e69 := e68.trans e9
    refine q_app (ex_to e69 hF) (px 0 rfl (ex_to e69 ht) rfl) ev_c (by rw [List.length_map, nat_len]; omega) fun H10 e10 => ?_
    have eb : Ex H5 (upd H10 F (.lst ((Mx.nat l2).map V.int ++ [.int 2000]))) := Ex.mut ((e6.trans e69).trans e10) nF
    generalize upd H10 F (.lst ((Mx.nat l2).map V.int ++ [.int 2000])) = H11 at eb
    refine q_when (b := false) (handed rfl rfl rfl eb) (fun hb _ _ => absurd hb (by decide)) (fun hb H12 e12 => ?_)
    have eb12 := eb.trans e12
    have hA12 := ex_to eb12 hA5
    have hB12 := ex_to eb12 hB5
    have hr12 := ex_to eb12 hr5
    have eH12 := eH5.trans eb12
    clear hX hY hP hX5 hY5 hP5 hF ht hW gW hG handed px
    refine ⟨_, rfl, _, rfl, _, _, rfl, ?_⟩
    refine q_cut (M := fun σ' H' => ∃ (G S : Addr) (g s : List Nat), σ' = [some (.ref a), some (.ref A), some (.ref B), some (.ref r), some (.ref P), some (.ref t), some (.ref G), some (.ref S), none, none] ∧ Ex H12 H' ∧ H' G = some (.lst ((Mx.nat g).map V.int)) ∧ H' S = some (.lst ((Mx.nat s).map V.int)) ∧ FmB g ∧ FmB s ∧ Mx.val s ≤ Mx.val g) ?_ ?_
    · refine s_when (b := decide (Mx.val l < Mx.val m)) (et_test (ev_op (ev_call (ea_cons (ev_var rfl) (ea_cons (ev_var rfl) ea_nil)) (spv__law_sum T hA12 hr12 lb1 (by omega))) (ev_call (ea_cons (ev_var rfl) (ea_cons (ev_var rfl) ea_nil)) (spv__law_sum T hB12 hr12 mb1 (by omega))) rv_I0)) (fun hb H13 e13 => ?_) (fun hb H13 e13 => ⟨A, B, l, m, rfl, e13, ex_to e13 hA12, ex_to e13 hB12, ⟨lF, lb, lz⟩, ⟨mF, mb, mz⟩, by have := of_decide_eq_false hb; omega⟩)
      have hlt := of_decide_eq_true hb
      exact ⟨_, rfl, _, rfl, _, _, rfl, B, A, m, l, rfl, e13, ex_to e13 hB12, ex_to e13 hA12, ⟨mF, mb, mz⟩, ⟨lF, lb, lz⟩, by omega⟩
    rintro σ1 H13 ⟨G, S, g, s, rfl, e13, hGg, hSs, ⟨gF, gb, gz⟩, ⟨sF, sb, sz⟩, hle⟩
    refine q_when (b := false) ?_ (fun hb _ _ => absurd hb (by decide)) (fun hb H14 e14 => ?_)
    · exact et_eq (et_not (et_B (ev_call (z := .bl true) (ea_cons (ev_var rfl) (ea_cons (ev_var rfl) (ea_cons (ev_var rfl) ea_nil))) fun H' e Q q E => ⟨G, S, r, g, s, rfl, ex_to e hGg, ex_to e hSs, ex_to (e13.trans e) hr12, gF, sF, fun p h => by have := gb p h; omega, fun p h => by have := sb p h; omega, by omega, by omega, hle, fun H2 e2 => q H2 e2⟩))) rfl
    refine q_when (b := false) ?_ (fun hb _ _ => absurd hb (by decide)) (fun hb H15 e15 => ?_)
    · refine et_eq (et_and (a := !decide (Mx.nat g = Mx.nat s)) (b := false) (et_test (ev_neH (evh_v (ev_var rfl) (hd_ints (SqL.of (ex_to e14 hGg)))) (evh_v (ev_var rfl) (hd_ints (SqL.of (ex_to e14 hSs)))) (by decide))) fun hne => ?_) (Bool.and_false _)
      have hlt : Mx.val s < Mx.val g := by
        rcases Int.lt_or_eq_of_le hle with h | h
        · exact h
        · have := Mx.fm_uniq sF gF h
          rw [this] at hne
          simp at hne
      exact et_eq (et_not (et_B (ev_call (z := .bl true) (ea_cons ev_c (ea_cons (ev_var rfl) (ea_cons (ev_var rfl) (ea_cons ev_c ea_nil)))) fun H' e Q q E => ⟨0, .ref S, .ref G, true, true, true, rfl, by decide, fmT_nat (ex_to (e14.trans e) hSs) sF, fmT_nat (ex_to (e14.trans e) hGg) gF, .inr ⟨rfl, rfl, rfl, S, G, s, g, rfl, rfl, ex_to (e14.trans e) hSs, ex_to (e14.trans e) hGg, sF, gF, fun p h => by have := sb p h; omega, by omega, hlt⟩, fun H2 e2 => q H2 e2⟩))) rfl
    have e1215 := e13.trans (e14.trans e15)
    refine q_asg (v := .int (cell ns 0 / 4)) (ev_op (ev_call (ea_cons (ev_var rfl) (ea_cons ev_c ea_nil)) (spv__law_cell_at T (k := 0) (ex_l (eH12.trans e1215) hS))) ev_c (rv_I (cdiv (by decide) (by decide)))) fun H16 e16 => ?_
    obtain ⟨j, hj, hj2⟩ : ∃ j : Nat, cell ns 0 / 4 % 6 = (j : Int) ∧ j < 6 := ⟨(cell ns 0 / 4 % 6).toNat, by omega, by omega⟩
    have st : Stable (fun v H' => FmT K H' v false) := fun v H1 H2 e h => h.mono e
    have li : ∀ (x y : Int), fmV none [.int x, .int y] = false → ∀ p H', H16 p = none → Ex H16 H' → H' p = some (.lst [.int x, .int y]) → FmT K H' (.ref p) false := fun x y hf p H' _ _ h => .inl ⟨p, _, rfl, h, fun v hv => by
      rcases List.mem_cons.mp hv with e | e
      · rw [e]; exact kn_int
      · rw [List.mem_singleton.mp e]; exact kn_int, hf.symm⟩
    refine q_asgP (P := fun v H' => FmT K H' v false) (ep_pick (j := j) (Ps := [fun v H' => FmT K H' v false, fun v H' => FmT K H' v false, fun v H' => FmT K H' v false, fun v H' => FmT K H' v false, fun v H' => FmT K H' v false, fun v H' => FmT K H' v false])
      (ep_cons (ep_L (el_lst (ea_cons ev_c (ea_cons ev_c ea_nil)) (show 2 ≤ 100000 by decide)) (li 1 0 (by decide))) st (ep_cons (ep_L (el_lst (ea_cons ev_c (ea_cons ev_c ea_nil)) (show 2 ≤ 100000 by decide)) (li 4 4 (by decide))) st (ep_cons (ep_L (el_lst (ea_cons ev_c (ea_cons ev_c ea_nil)) (show 2 ≤ 100000 by decide)) (li 0 2 (by decide))) st (ep_cons (ep_v ev_c fun H' e => .inr ⟨"NoneType", .inr (.inr (.inl rfl)), by decide, .non, rfl⟩) st (ep_cons (ep_U (eu_tup (ea_cons ev_c (ea_cons ev_c ea_nil)) (show 2 ≤ 100000 by decide)) fun p H' _ e h => .inr ⟨"tuple", .inr (.inr (.inr (.inr (.inr (.inl rfl))))), by decide, .tup h, rfl⟩) st (ep_cons (ep_v ev_c fun H' e => .inr ⟨"str", .inr (.inr (.inr (.inl rfl))), by decide, .str _, rfl⟩) st ep_nil)))))) (show 6 ≤ 1000 by decide)
      (fun H1 e1 => ev_eq (ev_op (ev_var rfl) ev_c (rv_I (show (0 : Int) < 6 by decide))) (by rw [hj])) ?_ st) fun o H17 e17 ho => ?_
    · match j, hj2 with
      | 0, _ => rfl
      | 1, _ => rfl
      | 2, _ => rfl
      | 3, _ => rfl
      | 4, _ => rfl
      | 5, _ => rfl
    have e1217 := e1215.trans (e16.trans e17)
    show tSeq _ _ _ ([some (.ref a), some (.ref A), some (.ref B), some (.ref r), some (.ref P), some (.ref t), some (.ref G), some (.ref S), some (.int (cell ns 0 / 4)), some o] : L2.St) H17
    refine q_when (b := false) ?_ (fun hb _ _ => absurd hb (by decide)) (fun hb H18 e18 => ?_)
    · refine et_eq (et_or (a := false) (b := false) (et_eq (et_not (et_B (b := true) fun H' e Q q => ?_)) rfl) fun _ => ?_) rfl
      · refine ⟨(show 0 ≤ sizeLine by decide), fun c hc => ⟨_, rfl, ?_⟩⟩
        have en := Ex.new (o := .lst []) hc
        exact ⟨0, .ref c, o, true, false, false, rfl, by decide, fmT_nat (l := []) upd_same List.Pairwise.nil, ho.mono (e.trans en), .inl ⟨rfl, rfl⟩, fun H2 e2 => q H2 (en.trans e2)⟩
      · exact et_eq (et_not (et_B (ev_call (z := .bl true) (ea_cons ev_c (ea_cons (ev_var rfl) (ea_cons (ev_var rfl) (ea_cons ev_c ea_nil)))) fun H' e Q q E => ⟨0, o, .ref A, false, true, false, rfl, by decide, ho.mono e, fmT_nat (ex_to (e1217.trans e) hA12) lF, .inl ⟨rfl, rfl⟩, fun H2 e2 => q H2 e2⟩))) rfl
    refine s_ret (ev_last (ev_andV (b := true) (ev_call (z := .bl true) (ea_cons ev_c (ea_cons (ev_var rfl) (ea_cons (ev_var rfl) (ea_cons ev_c ea_nil)))) fun H' e Q q E => ⟨1, .ref A, o, true, false, false, rfl, by decide, fmT_nat (ex_to ((e1217.trans e18).trans e) hA12) lF, ho.mono (e18.trans e), .inl ⟨rfl, rfl⟩, fun H2 e2 => q H2 e2⟩) fun _ => ev_call (z := .bl true) (ea_cons ev_c (ea_cons (ev_var rfl) (ea_cons (ev_var rfl) (ea_cons ev_c ea_nil)))) fun H' e Q q E => ⟨1, o, .ref B, false, true, false, rfl, by decide, ho.mono (e18.trans e), fmT_nat (ex_to ((e1217.trans e18).trans e) hB12) mF, .inl ⟨rfl, rfl⟩, fun H2 e2 => q H2 e2⟩) rfl) fun H19 e19 => q H19

end
theorem all_mk {l : PySem.W.OpenLaw} {w : World} {K : PySem.W.Frag} {h : Heap} {mg : Str → Option Value} {fa : Addr} (X : K.In h) (G : h.Ns mainGlobals mg) (hfa : mg "law" = some (.ref fa)) {c_SparseError c_NoNumber c_NoForm c_NoText c_NoStep c_TooLittle f0 f1 f2 f3 f4 f5 f6 f7 f8 f9 f10 f11 f12 f13 f14 f15 f16 f17 f18 f19 f20 f21 f22 f23 f24 f25 f26 : Addr}
    {od0 an0 : Option Addr} {sl0 : Array (Option Value)} {oc0 kV0 dc0 pm0 cd0 ct0 : Value}
    {od1 an1 : Option Addr} {sl1 : Array (Option Value)} {oc1 kV1 dc1 pm1 cd1 ct1 : Value}
    {od2 an2 : Option Addr} {sl2 : Array (Option Value)} {oc2 kV2 dc2 pm2 cd2 ct2 : Value}
    {od3 an3 : Option Addr} {sl3 : Array (Option Value)} {oc3 kV3 dc3 pm3 cd3 ct3 : Value}
    {od4 an4 : Option Addr} {sl4 : Array (Option Value)} {oc4 kV4 dc4 pm4 cd4 ct4 : Value}
    {od5 an5 : Option Addr} {sl5 : Array (Option Value)} {oc5 kV5 dc5 pm5 cd5 ct5 : Value}
    {od6 an6 : Option Addr} {sl6 : Array (Option Value)} {oc6 kV6 dc6 pm6 cd6 ct6 : Value}
    {od7 an7 : Option Addr} {sl7 : Array (Option Value)} {oc7 kV7 dc7 pm7 cd7 ct7 : Value}
    {od8 an8 : Option Addr} {sl8 : Array (Option Value)} {oc8 kV8 dc8 pm8 cd8 ct8 : Value}
    {od9 an9 : Option Addr} {sl9 : Array (Option Value)} {oc9 kV9 dc9 pm9 cd9 ct9 : Value}
    {od10 an10 : Option Addr} {sl10 : Array (Option Value)} {oc10 kV10 dc10 pm10 cd10 ct10 : Value}
    {od11 an11 : Option Addr} {sl11 : Array (Option Value)} {oc11 kV11 dc11 pm11 cd11 ct11 : Value}
    {od12 an12 : Option Addr} {sl12 : Array (Option Value)} {oc12 kV12 dc12 pm12 cd12 ct12 : Value}
    {od13 an13 : Option Addr} {sl13 : Array (Option Value)} {oc13 kV13 dc13 pm13 cd13 ct13 : Value}
    {od14 an14 : Option Addr} {sl14 : Array (Option Value)} {oc14 kV14 dc14 pm14 cd14 ct14 : Value}
    {od15 an15 : Option Addr} {sl15 : Array (Option Value)} {oc15 kV15 dc15 pm15 cd15 ct15 : Value}
    {od16 an16 : Option Addr} {sl16 : Array (Option Value)} {oc16 kV16 dc16 pm16 cd16 ct16 : Value}
    {od17 an17 : Option Addr} {sl17 : Array (Option Value)} {oc17 kV17 dc17 pm17 cd17 ct17 : Value}
    {od18 an18 : Option Addr} {sl18 : Array (Option Value)} {oc18 kV18 dc18 pm18 cd18 ct18 : Value}
    {od19 an19 : Option Addr} {sl19 : Array (Option Value)} {oc19 kV19 dc19 pm19 cd19 ct19 : Value}
    {od20 an20 : Option Addr} {sl20 : Array (Option Value)} {oc20 kV20 dc20 pm20 cd20 ct20 : Value}
    {od21 an21 : Option Addr} {sl21 : Array (Option Value)} {oc21 kV21 dc21 pm21 cd21 ct21 : Value}
    {od22 an22 : Option Addr} {sl22 : Array (Option Value)} {oc22 kV22 dc22 pm22 cd22 ct22 : Value}
    {od23 an23 : Option Addr} {sl23 : Array (Option Value)} {oc23 kV23 dc23 pm23 cd23 ct23 : Value}
    {od24 an24 : Option Addr} {sl24 : Array (Option Value)} {oc24 kV24 dc24 pm24 cd24 ct24 : Value}
    {od25 an25 : Option Addr} {sl25 : Array (Option Value)} {oc25 kV25 dc25 pm25 cd25 ct25 : Value}
    {od26 an26 : Option Addr} {sl26 : Array (Option Value)} {oc26 kV26 dc26 pm26 cd26 ct26 : Value}
    (z_ValueError : PySem.W.nsIn K mainGlobals "ValueError" = some none)
    (z_bool : PySem.W.nsIn K mainGlobals "bool" = some none)
    (z_int : PySem.W.nsIn K mainGlobals "int" = some none)
    (z_isinstance : PySem.W.nsIn K mainGlobals "isinstance" = some none)
    (z_len : PySem.W.nsIn K mainGlobals "len" = some none)
    (z_list : PySem.W.nsIn K mainGlobals "list" = some none)
    (z_max : PySem.W.nsIn K mainGlobals "max" = some none)
    (z_min : PySem.W.nsIn K mainGlobals "min" = some none)
    (z_range : PySem.W.nsIn K mainGlobals "range" = some none)
    (z_reversed : PySem.W.nsIn K mainGlobals "reversed" = some none)
    (z_sorted : PySem.W.nsIn K mainGlobals "sorted" = some none)
    (z_str : PySem.W.nsIn K mainGlobals "str" = some none)
    (z_sum : PySem.W.nsIn K mainGlobals "sum" = some none)
    (z_tuple : PySem.W.nsIn K mainGlobals "tuple" = some none)
    (z_zip : PySem.W.nsIn K mainGlobals "zip" = some none)
    (g_SparseError : PySem.W.nsIn K mainGlobals "SparseError" = some (some (.ref c_SparseError)))
    (g_NoNumber : PySem.W.nsIn K mainGlobals "NoNumber" = some (some (.ref c_NoNumber)))
    (g_NoForm : PySem.W.nsIn K mainGlobals "NoForm" = some (some (.ref c_NoForm)))
    (g_NoText : PySem.W.nsIn K mainGlobals "NoText" = some (some (.ref c_NoText)))
    (g_NoStep : PySem.W.nsIn K mainGlobals "NoStep" = some (some (.ref c_NoStep)))
    (g_TooLittle : PySem.W.nsIn K mainGlobals "TooLittle" = some (some (.ref c_TooLittle)))
    (x_NoForm : PySem.W.excIn K c_NoForm [.type "ValueError", .type "Exception", .type "BaseException", .type "object"] "ValueError.__new__" = true)
    (k_NoForm : PySem.W.keepIn K (.ref c_NoForm) = true)
    (b_NoForm : PySem.W.subIn K (.ref c_NoForm) (.type "BaseException") = some true)
    (t_NoForm : PySem.W.typeIn K (.ref c_NoForm) = some (.type "type"))
    (ehg_NoForm : PySem.W.findIn K (.ref c_NoForm) "__getattribute__" = some (some (.builtin "BaseException.__getattribute__")))
    (ehk_NoForm : PySem.W.findIn K (.ref c_NoForm) "__getattr__" = some none)
    (ehd_NoForm : PySem.W.hasDictIn K c_NoForm = true)
    (eha_NoForm : PySem.W.findIn K (.ref c_NoForm) "__class__" = some (some (.builtin "object.__class__")))
    (ehn_NoForm : PySem.W.specialIn K (.builtin "object.__class__") "__get__" = some (some (.builtin "getset_descriptor.__get__")))
    (eht_NoForm : PySem.W.takesIn K (.builtin "object.__class__") = some true)
    (ehm_NoForm : PySem.W.mroIn K c_NoForm (.type "object") = some true)
    (s_NoForm_NoForm : PySem.W.subIn K (.ref c_NoForm) (.ref c_NoForm) = some true)
    (s_NoForm_NoNumber : PySem.W.subIn K (.ref c_NoForm) (.ref c_NoNumber) = some false)
    (s_NoForm_NoStep : PySem.W.subIn K (.ref c_NoForm) (.ref c_NoStep) = some false)
    (s_NoForm_NoText : PySem.W.subIn K (.ref c_NoForm) (.ref c_NoText) = some false)
    (s_NoForm_SparseError : PySem.W.subIn K (.ref c_NoForm) (.ref c_SparseError) = some true)
    (s_NoForm_TooLittle : PySem.W.subIn K (.ref c_NoForm) (.ref c_TooLittle) = some false)
    (ne_NoForm_NoNumber : c_NoForm ≠ c_NoNumber)
    (sv_NoForm : PySem.W.subIn K (.ref c_NoForm) (.type "ValueError") = some true)
    (ne_NoForm_NoText : c_NoForm ≠ c_NoText)
    (ne_NoForm_NoStep : c_NoForm ≠ c_NoStep)
    (ne_NoForm_TooLittle : c_NoForm ≠ c_TooLittle)
    (x_TooLittle : PySem.W.excIn K c_TooLittle [.type "ValueError", .type "Exception", .type "BaseException", .type "object"] "ValueError.__new__" = true)
    (k_TooLittle : PySem.W.keepIn K (.ref c_TooLittle) = true)
    (b_TooLittle : PySem.W.subIn K (.ref c_TooLittle) (.type "BaseException") = some true)
    (t_TooLittle : PySem.W.typeIn K (.ref c_TooLittle) = some (.type "type"))
    (ehg_TooLittle : PySem.W.findIn K (.ref c_TooLittle) "__getattribute__" = some (some (.builtin "BaseException.__getattribute__")))
    (ehk_TooLittle : PySem.W.findIn K (.ref c_TooLittle) "__getattr__" = some none)
    (ehd_TooLittle : PySem.W.hasDictIn K c_TooLittle = true)
    (eha_TooLittle : PySem.W.findIn K (.ref c_TooLittle) "__class__" = some (some (.builtin "object.__class__")))
    (ehn_TooLittle : PySem.W.specialIn K (.builtin "object.__class__") "__get__" = some (some (.builtin "getset_descriptor.__get__")))
    (eht_TooLittle : PySem.W.takesIn K (.builtin "object.__class__") = some true)
    (ehm_TooLittle : PySem.W.mroIn K c_TooLittle (.type "object") = some true)
    (s_TooLittle_NoForm : PySem.W.subIn K (.ref c_TooLittle) (.ref c_NoForm) = some false)
    (s_TooLittle_NoNumber : PySem.W.subIn K (.ref c_TooLittle) (.ref c_NoNumber) = some false)
    (s_TooLittle_NoStep : PySem.W.subIn K (.ref c_TooLittle) (.ref c_NoStep) = some false)
    (s_TooLittle_NoText : PySem.W.subIn K (.ref c_TooLittle) (.ref c_NoText) = some false)
    (s_TooLittle_SparseError : PySem.W.subIn K (.ref c_TooLittle) (.ref c_SparseError) = some true)
    (s_TooLittle_TooLittle : PySem.W.subIn K (.ref c_TooLittle) (.ref c_TooLittle) = some true)
    (ne_TooLittle_NoNumber : c_TooLittle ≠ c_NoNumber)
    (sv_TooLittle : PySem.W.subIn K (.ref c_TooLittle) (.type "ValueError") = some true)
    (ne_TooLittle_NoForm : c_TooLittle ≠ c_NoForm)
    (ne_TooLittle_NoText : c_TooLittle ≠ c_NoText)
    (ne_TooLittle_NoStep : c_TooLittle ≠ c_NoStep)
    (xd_NoForm : PySem.W.hasDictIn K c_NoForm = true)
    (xt_NoForm : PySem.W.typeIn K (.ref c_NoForm) = some (.type "type"))
    (xd_NoNumber : PySem.W.hasDictIn K c_NoNumber = true)
    (xt_NoNumber : PySem.W.typeIn K (.ref c_NoNumber) = some (.type "type"))
    (xd_NoStep : PySem.W.hasDictIn K c_NoStep = true)
    (xt_NoStep : PySem.W.typeIn K (.ref c_NoStep) = some (.type "type"))
    (xd_NoText : PySem.W.hasDictIn K c_NoText = true)
    (xt_NoText : PySem.W.typeIn K (.ref c_NoText) = some (.type "type"))
    (xd_SparseError : PySem.W.hasDictIn K c_SparseError = true)
    (xt_SparseError : PySem.W.typeIn K (.ref c_SparseError) = some (.type "type"))
    (xd_TooLittle : PySem.W.hasDictIn K c_TooLittle = true)
    (xt_TooLittle : PySem.W.typeIn K (.ref c_TooLittle) = some (.type "type"))
    (xb_SparseError : PySem.W.subIn K (.ref c_SparseError) (.type "BaseException") = some true)
    (a0 : PySem.W.nsIn K mainGlobals "is_whole" = some (some (.ref f0)))
    (l0 : K.lookup f0 = some ⟨oc0, od0, .func (PySem.W.fnOf "is_whole" "is_whole" (defArgs s_is_whole) (defBody s_is_whole) (defScope s_is_whole) .none kV0 dc0 pm0 an0 cd0 ct0), sl0⟩)
    (q0 : PySem.W.codeIn K cd0 "is_whole" = true)
    (k0 : PySem.W.keepIn K (.ref f0) = true)
    (a1 : PySem.W.nsIn K mainGlobals "is_form" = some (some (.ref f1)))
    (l1 : K.lookup f1 = some ⟨oc1, od1, .func (PySem.W.fnOf "is_form" "is_form" (defArgs s_is_form) (defBody s_is_form) (defScope s_is_form) .none kV1 dc1 pm1 an1 cd1 ct1), sl1⟩)
    (q1 : PySem.W.codeIn K cd1 "is_form" = true)
    (k1 : PySem.W.keepIn K (.ref f1) = true)
    (a2 : PySem.W.nsIn K mainGlobals "need_form" = some (some (.ref f2)))
    (l2 : K.lookup f2 = some ⟨oc2, od2, .func (PySem.W.fnOf "need_form" "need_form" (defArgs s_need_form) (defBody s_need_form) (defScope s_need_form) .none kV2 dc2 pm2 an2 cd2 ct2), sl2⟩)
    (q2 : PySem.W.codeIn K cd2 "need_form" = true)
    (k2 : PySem.W.keepIn K (.ref f2) = true)
    (a3 : PySem.W.nsIn K mainGlobals "compared" = some (some (.ref f3)))
    (l3 : K.lookup f3 = some ⟨oc3, od3, .func (PySem.W.fnOf "compared" "compared" (defArgs s_compared) (defBody s_compared) (defScope s_compared) .none kV3 dc3 pm3 an3 cd3 ct3), sl3⟩)
    (q3 : PySem.W.codeIn K cd3 "compared" = true)
    (k3 : PySem.W.keepIn K (.ref f3) = true)
    (a4 : PySem.W.nsIn K mainGlobals "going" = some (some (.ref f4)))
    (l4 : K.lookup f4 = some ⟨oc4, od4, .func (PySem.W.fnOf "going" "going" (defArgs s_going) (defBody s_going) (defScope s_going) .none kV4 dc4 pm4 an4 cd4 ct4), sl4⟩)
    (q4 : PySem.W.codeIn K cd4 "going" = true)
    (k4 : PySem.W.keepIn K (.ref f4) = true)
    (a5 : PySem.W.nsIn K mainGlobals "coming" = some (some (.ref f5)))
    (l5 : K.lookup f5 = some ⟨oc5, od5, .func (PySem.W.fnOf "coming" "coming" (defArgs s_coming) (defBody s_coming) (defScope s_coming) .none kV5 dc5 pm5 an5 cd5 ct5), sl5⟩)
    (q5 : PySem.W.codeIn K cd5 "coming" = true)
    (k5 : PySem.W.keepIn K (.ref f5) = true)
    (a6 : PySem.W.nsIn K mainGlobals "behind" = some (some (.ref f6)))
    (l6 : K.lookup f6 = some ⟨oc6, od6, .func (PySem.W.fnOf "behind" "behind" (defArgs s_behind) (defBody s_behind) (defScope s_behind) .none kV6 dc6 pm6 an6 cd6 ct6), sl6⟩)
    (q6 : PySem.W.codeIn K cd6 "behind" = true)
    (k6 : PySem.W.keepIn K (.ref f6) = true)
    (a7 : PySem.W.nsIn K mainGlobals "highest_step" = some (some (.ref f7)))
    (l7 : K.lookup f7 = some ⟨oc7, od7, .func (PySem.W.fnOf "highest_step" "highest_step" (defArgs s_highest_step) (defBody s_highest_step) (defScope s_highest_step) .none kV7 dc7 pm7 an7 cd7 ct7), sl7⟩)
    (q7 : PySem.W.codeIn K cd7 "highest_step" = true)
    (k7 : PySem.W.keepIn K (.ref f7) = true)
    (a8 : PySem.W.nsIn K mainGlobals "settled_from_above" = some (some (.ref f8)))
    (l8 : K.lookup f8 = some ⟨oc8, od8, .func (PySem.W.fnOf "settled_from_above" "settled_from_above" (defArgs s_settled_from_above) (defBody s_settled_from_above) (defScope s_settled_from_above) .none kV8 dc8 pm8 an8 cd8 ct8), sl8⟩)
    (q8 : PySem.W.codeIn K cd8 "settled_from_above" = true)
    (k8 : PySem.W.keepIn K (.ref f8) = true)
    (a9 : PySem.W.nsIn K mainGlobals "added" = some (some (.ref f9)))
    (l9 : K.lookup f9 = some ⟨oc9, od9, .func (PySem.W.fnOf "added" "added" (defArgs s_added) (defBody s_added) (defScope s_added) .none kV9 dc9 pm9 an9 cd9 ct9), sl9⟩)
    (q9 : PySem.W.codeIn K cd9 "added" = true)
    (k9 : PySem.W.keepIn K (.ref f9) = true)
    (a10 : PySem.W.nsIn K mainGlobals "opened" = some (some (.ref f10)))
    (l10 : K.lookup f10 = some ⟨oc10, od10, .func (PySem.W.fnOf "opened" "opened" (defArgs s_opened) (defBody s_opened) (defScope s_opened) .none kV10 dc10 pm10 an10 cd10 ct10), sl10⟩)
    (q10 : PySem.W.codeIn K cd10 "opened" = true)
    (k10 : PySem.W.keepIn K (.ref f10) = true)
    (a11 : PySem.W.nsIn K mainGlobals "lent" = some (some (.ref f11)))
    (l11 : K.lookup f11 = some ⟨oc11, od11, .func (PySem.W.fnOf "lent" "lent" (defArgs s_lent) (defBody s_lent) (defScope s_lent) .none kV11 dc11 pm11 an11 cd11 ct11), sl11⟩)
    (q11 : PySem.W.codeIn K cd11 "lent" = true)
    (k11 : PySem.W.keepIn K (.ref f11) = true)
    (a12 : PySem.W.nsIn K mainGlobals "taken" = some (some (.ref f12)))
    (l12 : K.lookup f12 = some ⟨oc12, od12, .func (PySem.W.fnOf "taken" "taken" (defArgs s_taken) (defBody s_taken) (defScope s_taken) .none kV12 dc12 pm12 an12 cd12 ct12), sl12⟩)
    (q12 : PySem.W.codeIn K cd12 "taken" = true)
    (k12 : PySem.W.keepIn K (.ref f12) = true)
    (a13 : PySem.W.nsIn K mainGlobals "_law_cell_at" = some (some (.ref f13)))
    (l13 : K.lookup f13 = some ⟨oc13, od13, .func (PySem.W.fnOf "_law_cell_at" "_law_cell_at" (defArgs s__law_cell_at) (defBody s__law_cell_at) (defScope s__law_cell_at) .none kV13 dc13 pm13 an13 cd13 ct13), sl13⟩)
    (q13 : PySem.W.codeIn K cd13 "_law_cell_at" = true)
    (k13 : PySem.W.keepIn K (.ref f13) = true)
    (a14 : PySem.W.nsIn K mainGlobals "_law_whole" = some (some (.ref f14)))
    (l14 : K.lookup f14 = some ⟨oc14, od14, .func (PySem.W.fnOf "_law_whole" "_law_whole" (defArgs s__law_whole) (defBody s__law_whole) (defScope s__law_whole) .none kV14 dc14 pm14 an14 cd14 ct14), sl14⟩)
    (q14 : PySem.W.codeIn K cd14 "_law_whole" = true)
    (k14 : PySem.W.keepIn K (.ref f14) = true)
    (a15 : PySem.W.nsIn K mainGlobals "_law_members" = some (some (.ref f15)))
    (l15 : K.lookup f15 = some ⟨oc15, od15, .func (PySem.W.fnOf "_law_members" "_law_members" (defArgs s__law_members) (defBody s__law_members) (defScope s__law_members) .none kV15 dc15 pm15 an15 cd15 ct15), sl15⟩)
    (q15 : PySem.W.codeIn K cd15 "_law_members" = true)
    (k15 : PySem.W.keepIn K (.ref f15) = true)
    (a16 : PySem.W.nsIn K mainGlobals "_law_falling" = some (some (.ref f16)))
    (l16 : K.lookup f16 = some ⟨oc16, od16, .func (PySem.W.fnOf "_law_falling" "_law_falling" (defArgs s__law_falling) (defBody s__law_falling) (defScope s__law_falling) .none kV16 dc16 pm16 an16 cd16 ct16), sl16⟩)
    (q16 : PySem.W.codeIn K cd16 "_law_falling" = true)
    (k16 : PySem.W.keepIn K (.ref f16) = true)
    (a17 : PySem.W.nsIn K mainGlobals "_law_pair" = some (some (.ref f17)))
    (l17 : K.lookup f17 = some ⟨oc17, od17, .func (PySem.W.fnOf "_law_pair" "_law_pair" (defArgs s__law_pair) (defBody s__law_pair) (defScope s__law_pair) .none kV17 dc17 pm17 an17 cd17 ct17), sl17⟩)
    (q17 : PySem.W.codeIn K cd17 "_law_pair" = true)
    (k17 : PySem.W.keepIn K (.ref f17) = true)
    (a18 : PySem.W.nsIn K mainGlobals "_law_is_form" = some (some (.ref f18)))
    (l18 : K.lookup f18 = some ⟨oc18, od18, .func (PySem.W.fnOf "_law_is_form" "_law_is_form" (defArgs s__law_is_form) (defBody s__law_is_form) (defScope s__law_is_form) .none kV18 dc18 pm18 an18 cd18 ct18), sl18⟩)
    (q18 : PySem.W.codeIn K cd18 "_law_is_form" = true)
    (k18 : PySem.W.keepIn K (.ref f18) = true)
    (a19 : PySem.W.nsIn K mainGlobals "_law_sum" = some (some (.ref f19)))
    (l19 : K.lookup f19 = some ⟨oc19, od19, .func (PySem.W.fnOf "_law_sum" "_law_sum" (defArgs s__law_sum) (defBody s__law_sum) (defScope s__law_sum) .none kV19 dc19 pm19 an19 cd19 ct19), sl19⟩)
    (q19 : PySem.W.codeIn K cd19 "_law_sum" = true)
    (k19 : PySem.W.keepIn K (.ref f19) = true)
    (a20 : PySem.W.nsIn K mainGlobals "_law_stepped" = some (some (.ref f20)))
    (l20 : K.lookup f20 = some ⟨oc20, od20, .func (PySem.W.fnOf "_law_stepped" "_law_stepped" (defArgs s__law_stepped) (defBody s__law_stepped) (defScope s__law_stepped) .none kV20 dc20 pm20 an20 cd20 ct20), sl20⟩)
    (q20 : PySem.W.codeIn K cd20 "_law_stepped" = true)
    (k20 : PySem.W.keepIn K (.ref f20) = true)
    (a21 : PySem.W.nsIn K mainGlobals "_law_led" = some (some (.ref f21)))
    (l21 : K.lookup f21 = some ⟨oc21, od21, .func (PySem.W.fnOf "_law_led" "_law_led" (defArgs s__law_led) (defBody s__law_led) (defScope s__law_led) .none kV21 dc21 pm21 an21 cd21 ct21), sl21⟩)
    (q21 : PySem.W.codeIn K cd21 "_law_led" = true)
    (k21 : PySem.W.keepIn K (.ref f21) = true)
    (a22 : PySem.W.nsIn K mainGlobals "_law_opened" = some (some (.ref f22)))
    (l22 : K.lookup f22 = some ⟨oc22, od22, .func (PySem.W.fnOf "_law_opened" "_law_opened" (defArgs s__law_opened) (defBody s__law_opened) (defScope s__law_opened) .none kV22 dc22 pm22 an22 cd22 ct22), sl22⟩)
    (q22 : PySem.W.codeIn K cd22 "_law_opened" = true)
    (k22 : PySem.W.keepIn K (.ref f22) = true)
    (a23 : PySem.W.nsIn K mainGlobals "_law_without" = some (some (.ref f23)))
    (l23 : K.lookup f23 = some ⟨oc23, od23, .func (PySem.W.fnOf "_law_without" "_law_without" (defArgs s__law_without) (defBody s__law_without) (defScope s__law_without) .none kV23 dc23 pm23 an23 cd23 ct23), sl23⟩)
    (q23 : PySem.W.codeIn K cd23 "_law_without" = true)
    (k23 : PySem.W.keepIn K (.ref f23) = true)
    (a24 : PySem.W.nsIn K mainGlobals "_law_refused" = some (some (.ref f24)))
    (l24 : K.lookup f24 = some ⟨oc24, od24, .func (PySem.W.fnOf "_law_refused" "_law_refused" (defArgs s__law_refused) (defBody s__law_refused) (defScope s__law_refused) .none kV24 dc24 pm24 an24 cd24 ct24), sl24⟩)
    (q24 : PySem.W.codeIn K cd24 "_law_refused" = true)
    (k24 : PySem.W.keepIn K (.ref f24) = true)
    (a25 : PySem.W.nsIn K mainGlobals "_law_taken" = some (some (.ref f25)))
    (l25 : K.lookup f25 = some ⟨oc25, od25, .func (PySem.W.fnOf "_law_taken" "_law_taken" (defArgs s__law_taken) (defBody s__law_taken) (defScope s__law_taken) .none kV25 dc25 pm25 an25 cd25 ct25), sl25⟩)
    (q25 : PySem.W.codeIn K cd25 "_law_taken" = true)
    (k25 : PySem.W.keepIn K (.ref f25) = true)
    (a26 : PySem.W.nsIn K mainGlobals "law" = some (some (.ref f26)))
    (l26 : K.lookup f26 = some ⟨oc26, od26, .func (PySem.W.fnOf "law" "law" (defArgs s_law) (defBody s_law) (defScope s_law) .none kV26 dc26 pm26 an26 cd26 ct26), sl26⟩)
    (q26 : PySem.W.codeIn K cd26 "law" = true)
    (k26 : PySem.W.keepIn K (.ref f26) = true)
    : ∃ fd : FuncData, (∀ (s : Shared) (v : Value), BindsTo s fd ⟨[v], []⟩ [("_law_script", v)]) ∧ ∀ base : Heap, K.In base → base.Ns mainGlobals mg → FnOk l.prog w K mg base CX0 7 fa fd ["_law_script"] (sp_law K) := by
  have e := hfa.symm.trans (PySem.W.mg_of X G a26)
  cases e
  let T : Txt K mg :=
    { n_ValueError := PySem.W.mg_none_of X G z_ValueError,
      n_bool := PySem.W.mg_none_of X G z_bool,
      n_int := PySem.W.mg_none_of X G z_int,
      n_isinstance := PySem.W.mg_none_of X G z_isinstance,
      n_len := PySem.W.mg_none_of X G z_len,
      n_list := PySem.W.mg_none_of X G z_list,
      n_max := PySem.W.mg_none_of X G z_max,
      n_min := PySem.W.mg_none_of X G z_min,
      n_range := PySem.W.mg_none_of X G z_range,
      n_reversed := PySem.W.mg_none_of X G z_reversed,
      n_sorted := PySem.W.mg_none_of X G z_sorted,
      n_str := PySem.W.mg_none_of X G z_str,
      n_sum := PySem.W.mg_none_of X G z_sum,
      n_tuple := PySem.W.mg_none_of X G z_tuple,
      n_zip := PySem.W.mg_none_of X G z_zip,
      a_SparseError := c_SparseError,
      g_SparseError := PySem.W.mg_of X G g_SparseError,
      a_NoNumber := c_NoNumber,
      g_NoNumber := PySem.W.mg_of X G g_NoNumber,
      a_NoForm := c_NoForm,
      g_NoForm := PySem.W.mg_of X G g_NoForm,
      a_NoText := c_NoText,
      g_NoText := PySem.W.mg_of X G g_NoText,
      a_NoStep := c_NoStep,
      g_NoStep := PySem.W.mg_of X G g_NoStep,
      a_TooLittle := c_TooLittle,
      g_TooLittle := PySem.W.mg_of X G g_TooLittle,
      x_NoForm := x_NoForm,
      k_NoForm := k_NoForm,
      b_NoForm := b_NoForm,
      t_NoForm := t_NoForm,
      e_NoForm := ⟨ehg_NoForm, ehk_NoForm, b_NoForm, ehd_NoForm, eha_NoForm, ehn_NoForm, eht_NoForm, ehm_NoForm⟩,
      m_NoForm_SparseError := PySem.W.exm_ref xb_SparseError xd_SparseError xt_SparseError s_NoForm_SparseError,
      i_NoForm_NoNumber := kit_own xd_NoNumber xt_NoNumber s_NoForm_NoNumber (Or.inr ne_NoForm_NoNumber),
      i_NoForm_ValueError := kit_val sv_NoForm,
      i_NoForm_NoForm := kit_own xd_NoForm xt_NoForm s_NoForm_NoForm (Or.inl rfl),
      i_NoForm_NoText := kit_own xd_NoText xt_NoText s_NoForm_NoText (Or.inr ne_NoForm_NoText),
      i_NoForm_NoStep := kit_own xd_NoStep xt_NoStep s_NoForm_NoStep (Or.inr ne_NoForm_NoStep),
      i_NoForm_TooLittle := kit_own xd_TooLittle xt_TooLittle s_NoForm_TooLittle (Or.inr ne_NoForm_TooLittle),
      x_TooLittle := x_TooLittle,
      k_TooLittle := k_TooLittle,
      b_TooLittle := b_TooLittle,
      t_TooLittle := t_TooLittle,
      e_TooLittle := ⟨ehg_TooLittle, ehk_TooLittle, b_TooLittle, ehd_TooLittle, eha_TooLittle, ehn_TooLittle, eht_TooLittle, ehm_TooLittle⟩,
      m_TooLittle_SparseError := PySem.W.exm_ref xb_SparseError xd_SparseError xt_SparseError s_TooLittle_SparseError,
      i_TooLittle_NoNumber := kit_own xd_NoNumber xt_NoNumber s_TooLittle_NoNumber (Or.inr ne_TooLittle_NoNumber),
      i_TooLittle_ValueError := kit_val sv_TooLittle,
      i_TooLittle_NoForm := kit_own xd_NoForm xt_NoForm s_TooLittle_NoForm (Or.inr ne_TooLittle_NoForm),
      i_TooLittle_NoText := kit_own xd_NoText xt_NoText s_TooLittle_NoText (Or.inr ne_TooLittle_NoText),
      i_TooLittle_NoStep := kit_own xd_NoStep xt_NoStep s_TooLittle_NoStep (Or.inr ne_TooLittle_NoStep),
      i_TooLittle_TooLittle := kit_own xd_TooLittle xt_TooLittle s_TooLittle_TooLittle (Or.inl rfl),
      f_is_whole := f0,
      d_is_whole := _,
      F_is_whole := fun_mk (st := s_is_whole) l0 q0 k0,
      g_is_whole := PySem.W.mg_of X G a0,
      b_is_whole := (fun_mk (st := s_is_whole) l0 q0 k0).binds (ps := ["thing"]) fun _ _ _ _ _ _ us hl => match us, hl with | [_], _ => rfl,
      f_is_form := f1,
      d_is_form := _,
      F_is_form := fun_mk (st := s_is_form) l1 q1 k1,
      g_is_form := PySem.W.mg_of X G a1,
      b_is_form := (fun_mk (st := s_is_form) l1 q1 k1).binds (ps := ["thing"]) fun _ _ _ _ _ _ us hl => match us, hl with | [_], _ => rfl,
      f_need_form := f2,
      d_need_form := _,
      F_need_form := fun_mk (st := s_need_form) l2 q2 k2,
      g_need_form := PySem.W.mg_of X G a2,
      b_need_form := (fun_mk (st := s_need_form) l2 q2 k2).binds (ps := ["thing"]) fun _ _ _ _ _ _ us hl => match us, hl with | [_], _ => rfl,
      f_compared := f3,
      d_compared := _,
      F_compared := fun_mk (st := s_compared) l3 q3 k3,
      g_compared := PySem.W.mg_of X G a3,
      b_compared := (fun_mk (st := s_compared) l3 q3 k3).binds (ps := ["one", "other"]) fun _ _ _ _ _ _ us hl => match us, hl with | [_, _], _ => rfl,
      f_going := f4,
      d_going := _,
      F_going := fun_mk (st := s_going) l4 q4 k4,
      g_going := PySem.W.mg_of X G a4,
      b_going := (fun_mk (st := s_going) l4 q4 k4).binds (ps := ["step"]) fun _ _ _ _ _ _ us hl => match us, hl with | [_], _ => rfl,
      f_coming := f5,
      d_coming := _,
      F_coming := fun_mk (st := s_coming) l5 q5 k5,
      g_coming := PySem.W.mg_of X G a5,
      b_coming := (fun_mk (st := s_coming) l5 q5 k5).binds (ps := ["step"]) fun _ _ _ _ _ _ us hl => match us, hl with | [_], _ => rfl,
      f_behind := f6,
      d_behind := _,
      F_behind := fun_mk (st := s_behind) l6 q6 k6,
      g_behind := PySem.W.mg_of X G a6,
      b_behind := (fun_mk (st := s_behind) l6 q6 k6).binds (ps := ["heap", "step"]) fun _ _ _ _ _ _ us hl => match us, hl with | [_, _], _ => rfl,
      f_highest_step := f7,
      d_highest_step := _,
      F_highest_step := fun_mk (st := s_highest_step) l7 q7 k7,
      g_highest_step := PySem.W.mg_of X G a7,
      b_highest_step := (fun_mk (st := s_highest_step) l7 q7 k7).binds (ps := ["marks"]) fun _ _ _ _ _ _ us hl => match us, hl with | [_], _ => rfl,
      f_settled_from_above := f8,
      d_settled_from_above := _,
      F_settled_from_above := fun_mk (st := s_settled_from_above) l8 q8 k8,
      g_settled_from_above := PySem.W.mg_of X G a8,
      b_settled_from_above := (fun_mk (st := s_settled_from_above) l8 q8 k8).binds (ps := ["heap"]) fun _ _ _ _ _ _ us hl => match us, hl with | [_], _ => rfl,
      f_added := f9,
      d_added := _,
      F_added := fun_mk (st := s_added) l9 q9 k9,
      g_added := PySem.W.mg_of X G a9,
      b_added := (fun_mk (st := s_added) l9 q9 k9).binds (ps := ["one", "other"]) fun _ _ _ _ _ _ us hl => match us, hl with | [_, _], _ => rfl,
      f_opened := f10,
      d_opened := _,
      F_opened := fun_mk (st := s_opened) l10 q10 k10,
      g_opened := PySem.W.mg_of X G a10,
      b_opened := (fun_mk (st := s_opened) l10 q10 k10).binds (ps := ["place"]) fun _ _ _ _ _ _ us hl => match us, hl with | [_], _ => rfl,
      f_lent := f11,
      d_lent := _,
      F_lent := fun_mk (st := s_lent) l11 q11 k11,
      g_lent := PySem.W.mg_of X G a11,
      b_lent := (fun_mk (st := s_lent) l11 q11 k11).binds (ps := ["one", "other"]) fun _ _ _ _ _ _ us hl => match us, hl with | [_, _], _ => rfl,
      f_taken := f12,
      d_taken := _,
      F_taken := fun_mk (st := s_taken) l12 q12 k12,
      g_taken := PySem.W.mg_of X G a12,
      b_taken := (fun_mk (st := s_taken) l12 q12 k12).binds (ps := ["one", "other"]) fun _ _ _ _ _ _ us hl => match us, hl with | [_, _], _ => rfl,
      f__law_cell_at := f13,
      d__law_cell_at := _,
      F__law_cell_at := fun_mk (st := s__law_cell_at) l13 q13 k13,
      g__law_cell_at := PySem.W.mg_of X G a13,
      b__law_cell_at := (fun_mk (st := s__law_cell_at) l13 q13 k13).binds (ps := ["_law_script", "_law_k"]) fun _ _ _ _ _ _ us hl => match us, hl with | [_, _], _ => rfl,
      f__law_whole := f14,
      d__law_whole := _,
      F__law_whole := fun_mk (st := s__law_whole) l14 q14 k14,
      g__law_whole := PySem.W.mg_of X G a14,
      b__law_whole := (fun_mk (st := s__law_whole) l14 q14 k14).binds (ps := ["_law_found"]) fun _ _ _ _ _ _ us hl => match us, hl with | [_], _ => rfl,
      f__law_members := f15,
      d__law_members := _,
      F__law_members := fun_mk (st := s__law_members) l15 q15 k15,
      g__law_members := PySem.W.mg_of X G a15,
      b__law_members := (fun_mk (st := s__law_members) l15 q15 k15).binds (ps := ["_law_many"]) fun _ _ _ _ _ _ us hl => match us, hl with | [_], _ => rfl,
      f__law_falling := f16,
      d__law_falling := _,
      F__law_falling := fun_mk (st := s__law_falling) l16 q16 k16,
      g__law_falling := PySem.W.mg_of X G a16,
      b__law_falling := (fun_mk (st := s__law_falling) l16 q16 k16).binds (ps := ["_law_cells", "_law_at"]) fun _ _ _ _ _ _ us hl => match us, hl with | [_, _], _ => rfl,
      f__law_pair := f17,
      d__law_pair := _,
      F__law_pair := fun_mk (st := s__law_pair) l17 q17 k17,
      g__law_pair := PySem.W.mg_of X G a17,
      b__law_pair := (fun_mk (st := s__law_pair) l17 q17 k17).binds (ps := ["_law_script"]) fun _ _ _ _ _ _ us hl => match us, hl with | [_], _ => rfl,
      f__law_is_form := f18,
      d__law_is_form := _,
      F__law_is_form := fun_mk (st := s__law_is_form) l18 q18 k18,
      g__law_is_form := PySem.W.mg_of X G a18,
      b__law_is_form := (fun_mk (st := s__law_is_form) l18 q18 k18).binds (ps := ["_law_found"]) fun _ _ _ _ _ _ us hl => match us, hl with | [_], _ => rfl,
      f__law_sum := f19,
      d__law_sum := _,
      F__law_sum := fun_mk (st := s__law_sum) l19 q19 k19,
      g__law_sum := PySem.W.mg_of X G a19,
      b__law_sum := (fun_mk (st := s__law_sum) l19 q19 k19).binds (ps := ["_law_form", "_law_row"]) fun _ _ _ _ _ _ us hl => match us, hl with | [_, _], _ => rfl,
      f__law_stepped := f20,
      d__law_stepped := _,
      F__law_stepped := fun_mk (st := s__law_stepped) l20 q20 k20,
      g__law_stepped := PySem.W.mg_of X G a20,
      b__law_stepped := (fun_mk (st := s__law_stepped) l20 q20 k20).binds (ps := ["_law_marks", "_law_step"]) fun _ _ _ _ _ _ us hl => match us, hl with | [_, _], _ => rfl,
      f__law_led := f21,
      d__law_led := _,
      F__law_led := fun_mk (st := s__law_led) l21 q21 k21,
      g__law_led := PySem.W.mg_of X G a21,
      b__law_led := (fun_mk (st := s__law_led) l21 q21 k21).binds (ps := ["_law_marks", "_law_told", "_law_form"]) fun _ _ _ _ _ _ us hl => match us, hl with | [_, _, _], _ => rfl,
      f__law_opened := f22,
      d__law_opened := _,
      F__law_opened := fun_mk (st := s__law_opened) l22 q22 k22,
      g__law_opened := PySem.W.mg_of X G a22,
      b__law_opened := (fun_mk (st := s__law_opened) l22 q22 k22).binds (ps := ["_law_marks", "_law_told"]) fun _ _ _ _ _ _ us hl => match us, hl with | [_, _], _ => rfl,
      f__law_without := f23,
      d__law_without := _,
      F__law_without := fun_mk (st := s__law_without) l23 q23 k23,
      g__law_without := PySem.W.mg_of X G a23,
      b__law_without := (fun_mk (st := s__law_without) l23 q23 k23).binds (ps := ["_law_marks", "_law_form"]) fun _ _ _ _ _ _ us hl => match us, hl with | [_, _], _ => rfl,
      f__law_refused := f24,
      d__law_refused := _,
      F__law_refused := fun_mk (st := s__law_refused) l24 q24 k24,
      g__law_refused := PySem.W.mg_of X G a24,
      b__law_refused := (fun_mk (st := s__law_refused) l24 q24 k24).binds (ps := ["_law_way", "_law_one", "_law_other", "_law_little"]) fun _ _ _ _ _ _ us hl => match us, hl with | [_, _, _, _], _ => rfl,
      f__law_taken := f25,
      d__law_taken := _,
      F__law_taken := fun_mk (st := s__law_taken) l25 q25 k25,
      g__law_taken := PySem.W.mg_of X G a25,
      b__law_taken := (fun_mk (st := s__law_taken) l25 q25 k25).binds (ps := ["_law_great", "_law_small", "_law_row"]) fun _ _ _ _ _ _ us hl => match us, hl with | [_, _, _], _ => rfl }
  exact ⟨_, fun s v => .of_eq rfl, fun base _ _ => ok_law T (fun_mk (st := s_law) l26 q26 k26)⟩

end Kk
open PySem PySem.W PyProof.Rows
set_option maxHeartbeats 0 in
theorem PySem.Challenge.cw_sparsesum_k08_whole_added_and_taken_holds : PySem.Challenge.rw_sparsesum_k08_whole_added_and_taken.Holds := by
  w_on; o_law; k_head; (case hw => w_witness2)
  k_fill
  refine L2.walk_of (l := PySem.Challenge.rw_sparsesum_k08_whole_added_and_taken) (n := 63) (k := 7) (x := "_law_script") (CX := fun _ => L2.CX0) (sp := fun w => Kk.sp_law _) rfl (by decide) rfl ⟨rfl, by decide, by decide⟩ (fun w h Y => PySem.W.kIn_of Y) ?F (fun _ _ a ns hl _ hS => ⟨a, ns, rfl, hS, hl, fun _ => rfl⟩) (fun _ _ _ _ _ h => h)
  case F =>
    intro w mg fa h KX G hmg
    refine' Kk.all_mk KX G hmg ?z_ValueError ?z_bool ?z_int ?z_isinstance ?z_len ?z_list ?z_max ?z_min ?z_range ?z_reversed ?z_sorted ?z_str ?z_sum ?z_tuple ?z_zip ?g_SparseError ?g_NoNumber ?g_NoForm ?g_NoText ?g_NoStep ?g_TooLittle ?x_NoForm ?k_NoForm ?b_NoForm ?t_NoForm ?ehg_NoForm ?ehk_NoForm ?ehd_NoForm ?eha_NoForm ?ehn_NoForm ?eht_NoForm ?ehm_NoForm ?s_NoForm_NoForm ?s_NoForm_NoNumber ?s_NoForm_NoStep ?s_NoForm_NoText ?s_NoForm_SparseError ?s_NoForm_TooLittle ?ne_NoForm_NoNumber ?sv_NoForm ?ne_NoForm_NoText ?ne_NoForm_NoStep ?ne_NoForm_TooLittle ?x_TooLittle ?k_TooLittle ?b_TooLittle ?t_TooLittle ?ehg_TooLittle ?ehk_TooLittle ?ehd_TooLittle ?eha_TooLittle ?ehn_TooLittle ?eht_TooLittle ?ehm_TooLittle ?s_TooLittle_NoForm ?s_TooLittle_NoNumber ?s_TooLittle_NoStep ?s_TooLittle_NoText ?s_TooLittle_SparseError ?s_TooLittle_TooLittle ?ne_TooLittle_NoNumber ?sv_TooLittle ?ne_TooLittle_NoForm ?ne_TooLittle_NoText ?ne_TooLittle_NoStep ?xd_NoForm ?xt_NoForm ?xd_NoNumber ?xt_NoNumber ?xd_NoStep ?xt_NoStep ?xd_NoText ?xt_NoText ?xd_SparseError ?xt_SparseError ?xd_TooLittle ?xt_TooLittle ?xb_SparseError ?a0 ?l0 ?q0 ?k0 ?a1 ?l1 ?q1 ?k1 ?a2 ?l2 ?q2 ?k2 ?a3 ?l3 ?q3 ?k3 ?a4 ?l4 ?q4 ?k4 ?a5 ?l5 ?q5 ?k5 ?a6 ?l6 ?q6 ?k6 ?a7 ?l7 ?q7 ?k7 ?a8 ?l8 ?q8 ?k8 ?a9 ?l9 ?q9 ?k9 ?a10 ?l10 ?q10 ?k10 ?a11 ?l11 ?q11 ?k11 ?a12 ?l12 ?q12 ?k12 ?a13 ?l13 ?q13 ?k13 ?a14 ?l14 ?q14 ?k14 ?a15 ?l15 ?q15 ?k15 ?a16 ?l16 ?q16 ?k16 ?a17 ?l17 ?q17 ?k17 ?a18 ?l18 ?q18 ?k18 ?a19 ?l19 ?q19 ?k19 ?a20 ?l20 ?q20 ?k20 ?a21 ?l21 ?q21 ?k21 ?a22 ?l22 ?q22 ?k22 ?a23 ?l23 ?q23 ?k23 ?a24 ?l24 ?q24 ?k24 ?a25 ?l25 ?q25 ?k25 ?a26 ?l26 ?q26 ?k26
    (case z_ValueError => k_is)
    (case z_bool => k_is)
    (case z_int => k_is)
    (case z_isinstance => k_is)
    (case z_len => k_is)
    (case z_list => k_is)
    (case z_max => k_is)
    (case z_min => k_is)
    (case z_range => k_is)
    (case z_reversed => k_is)
    (case z_sorted => k_is)
    (case z_str => k_is)
    (case z_sum => k_is)
    (case z_tuple => k_is)
    (case z_zip => k_is)
    (case g_SparseError => k_is)
    (case g_NoNumber => k_is)
    (case g_NoForm => k_is)
    (case g_NoText => k_is)
    (case g_NoStep => k_is)
    (case g_TooLittle => k_is)
    (case x_NoForm => k_exc)
    (case k_NoForm => k_is)
    (case b_NoForm => k_is)
    (case t_NoForm => k_is)
    (case ehg_NoForm => k_is)
    (case ehk_NoForm => k_is)
    (case ehd_NoForm => k_is)
    (case eha_NoForm => k_is)
    (case ehn_NoForm => k_is)
    (case eht_NoForm => k_is)
    (case ehm_NoForm => k_is)
    (case s_NoForm_NoForm => k_is)
    (case s_NoForm_NoNumber => k_is)
    (case s_NoForm_NoStep => k_is)
    (case s_NoForm_NoText => k_is)
    (case s_NoForm_SparseError => k_is)
    (case s_NoForm_TooLittle => k_is)
    (case ne_NoForm_NoNumber => decide)
    (case sv_NoForm => k_is)
    (case ne_NoForm_NoText => decide)
    (case ne_NoForm_NoStep => decide)
    (case ne_NoForm_TooLittle => decide)
    (case x_TooLittle => k_exc)
    (case k_TooLittle => k_is)
    (case b_TooLittle => k_is)
    (case t_TooLittle => k_is)
    (case ehg_TooLittle => k_is)
    (case ehk_TooLittle => k_is)
    (case ehd_TooLittle => k_is)
    (case eha_TooLittle => k_is)
    (case ehn_TooLittle => k_is)
    (case eht_TooLittle => k_is)
    (case ehm_TooLittle => k_is)
    (case s_TooLittle_NoForm => k_is)
    (case s_TooLittle_NoNumber => k_is)
    (case s_TooLittle_NoStep => k_is)
    (case s_TooLittle_NoText => k_is)
    (case s_TooLittle_SparseError => k_is)
    (case s_TooLittle_TooLittle => k_is)
    (case ne_TooLittle_NoNumber => decide)
    (case sv_TooLittle => k_is)
    (case ne_TooLittle_NoForm => decide)
    (case ne_TooLittle_NoText => decide)
    (case ne_TooLittle_NoStep => decide)
    (case xd_NoForm => k_is)
    (case xt_NoForm => k_is)
    (case xd_NoNumber => k_is)
    (case xt_NoNumber => k_is)
    (case xd_NoStep => k_is)
    (case xt_NoStep => k_is)
    (case xd_NoText => k_is)
    (case xt_NoText => k_is)
    (case xd_SparseError => k_is)
    (case xt_SparseError => k_is)
    (case xd_TooLittle => k_is)
    (case xt_TooLittle => k_is)
    (case xb_SparseError => k_is)
    (case a0 => k_is)
    (case l0 => k_is)
    (case q0 => k_is)
    (case k0 => k_is)
    (case a1 => k_is)
    (case l1 => k_is)
    (case q1 => k_is)
    (case k1 => k_is)
    (case a2 => k_is)
    (case l2 => k_is)
    (case q2 => k_is)
    (case k2 => k_is)
    (case a3 => k_is)
    (case l3 => k_is)
    (case q3 => k_is)
    (case k3 => k_is)
    (case a4 => k_is)
    (case l4 => k_is)
    (case q4 => k_is)
    (case k4 => k_is)
    (case a5 => k_is)
    (case l5 => k_is)
    (case q5 => k_is)
    (case k5 => k_is)
    (case a6 => k_is)
    (case l6 => k_is)
    (case q6 => k_is)
    (case k6 => k_is)
    (case a7 => k_is)
    (case l7 => k_is)
    (case q7 => k_is)
    (case k7 => k_is)
    (case a8 => k_is)
    (case l8 => k_is)
    (case q8 => k_is)
    (case k8 => k_is)
    (case a9 => k_is)
    (case l9 => k_is)
    (case q9 => k_is)
    (case k9 => k_is)
    (case a10 => k_is)
    (case l10 => k_is)
    (case q10 => k_is)
    (case k10 => k_is)
    (case a11 => k_is)
    (case l11 => k_is)
    (case q11 => k_is)
    (case k11 => k_is)
    (case a12 => k_is)
    (case l12 => k_is)
    (case q12 => k_is)
    (case k12 => k_is)
    (case a13 => k_is)
    (case l13 => k_is)
    (case q13 => k_is)
    (case k13 => k_is)
    (case a14 => k_is)
    (case l14 => k_is)
    (case q14 => k_is)
    (case k14 => k_is)
    (case a15 => k_is)
    (case l15 => k_is)
    (case q15 => k_is)
    (case k15 => k_is)
    (case a16 => k_is)
    (case l16 => k_is)
    (case q16 => k_is)
    (case k16 => k_is)
    (case a17 => k_is)
    (case l17 => k_is)
    (case q17 => k_is)
    (case k17 => k_is)
    (case a18 => k_is)
    (case l18 => k_is)
    (case q18 => k_is)
    (case k18 => k_is)
    (case a19 => k_is)
    (case l19 => k_is)
    (case q19 => k_is)
    (case k19 => k_is)
    (case a20 => k_is)
    (case l20 => k_is)
    (case q20 => k_is)
    (case k20 => k_is)
    (case a21 => k_is)
    (case l21 => k_is)
    (case q21 => k_is)
    (case k21 => k_is)
    (case a22 => k_is)
    (case l22 => k_is)
    (case q22 => k_is)
    (case k22 => k_is)
    (case a23 => k_is)
    (case l23 => k_is)
    (case q23 => k_is)
    (case k23 => k_is)
    (case a24 => k_is)
    (case l24 => k_is)
    (case q24 => k_is)
    (case k24 => k_is)
    (case a25 => k_is)
    (case l25 => k_is)
    (case q25 => k_is)
    (case k25 => k_is)
    (case a26 => k_is)
    (case l26 => k_is)
    (case q26 => k_is)
    (case k26 => k_is)
