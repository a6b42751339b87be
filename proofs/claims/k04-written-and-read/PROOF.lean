import PyProof.Rows.All
import Wide.All
import OpenK.AllK
import Wide.FinOn
import HandS.ForMost
import HandS.ForExc
import HandS.IsInst
import HandS.ExcIs
import HandS.Evl
import HandS.SortKw
import HandS.SortInts
import HandS.SetFor
import HandS.Strs
import HandS.Deep
import HandS.StrMore
import HandS.Wide
import HandS.Rev
import HandS.Defaults
import KE.Datum
import HandS.RevTup
import KE.KRevIter
import KE.KDictList
import KE.DatumOrd
import HandS.Walk
import HandS.Iter
import HandS.More
import KE.GoesMore
import PyProof.EnumMake
import PyProof.Draws
import PySem.Challenge.RW_sparsesum_k04_written_and_read
set_option Elab.async false
set_option linter.all false
set_option maxRecDepth 100000
set_option maxHeartbeats 4000000

set_option linter.all false
/-! Plain mathematics: no program in sight. -/
namespace Mx
def mem0 : Nat → Int
  | 0 => 1
  | 1 => 2
  | n + 2 => mem0 n + mem0 (n + 1)
/-- the member at a place -/
@[irreducible] def mem (n : Nat) : Int := mem0 n
theorem mem_zero : mem 0 = 1 := by unfold mem; rfl
theorem mem_one : mem 1 = 2 := by unfold mem; rfl
theorem mem_01 : mem (0 + 1) = 2 := mem_one
theorem mem_two (n : Nat) : mem (n + 2) = mem n + mem (n + 1) := by unfold mem; rfl
theorem mem_pos : ∀ n, 0 < mem n ∧ 0 < mem (n + 1)
  | 0 => ⟨by rw [mem_zero]; decide, by rw [mem_one]; decide⟩
  | n + 1 => ⟨(mem_pos n).2, by
    rw [mem_two]
    have := mem_pos n
    omega⟩
theorem mem_pos1 (n : Nat) : 0 < mem n := (mem_pos n).1
theorem mem_lt1 : ∀ n, mem n < mem (n + 1)
  | 0 => by rw [mem_zero, mem_one]; decide
  | n + 1 => by
    rw [mem_two]
    have := mem_pos n
    omega
theorem mem_mono {a b : Nat} (h : a ≤ b) : mem a ≤ mem b := by
  induction h with
  | refl => exact Int.le_refl _
  | step h ih => exact Int.le_trans ih (Int.le_of_lt (mem_lt1 _))
theorem mem_lt {a b : Nat} (h : a < b) : mem a < mem b := Int.lt_of_lt_of_le (mem_lt1 a) (mem_mono h)
theorem lt_of_mem {a b : Nat} (h : mem a < mem b) : a < b := by
  apply Nat.lt_of_not_le
  intro q
  have := mem_mono q
  omega
theorem mem_pow : ∀ k, (2 : Int) ^ k ≤ mem (2 * k)
  | 0 => by rw [Nat.mul_zero, mem_zero]; decide
  | k + 1 => by
    have ih := mem_pow k
    have e : mem (2 * (k + 1)) = mem (2 * k) + mem (2 * k + 1) := mem_two (2 * k)
    have l := mem_lt1 (2 * k)
    rw [e, Int.pow_succ]
    omega
def row (n : Nat) : List Int := (List.range n).map mem
theorem row_len (n : Nat) : (row n).length = n := by unfold row; rw [List.length_map, List.length_range]
theorem row_succ (n : Nat) : row (n + 1) = row n ++ [mem n] := by unfold row; rw [List.range_succ, List.map_append]; rfl
theorem row_at {n i : Nat} (h : i < n) : (row n)[i]? = some (mem i) := by
  unfold row
  rw [List.getElem?_map, List.getElem?_range h]
  rfl
/-- the greatest, or d where there is none -/
def maxD (d : Int) : List Int → Int
  | [] => d
  | y :: ys => ys.foldl (fun a b => if a < b then b else a) y

/-! ### forms: places that fall by two or more -/
def nat (ps : List Nat) : List Int := ps.map fun p : Nat => (p : Int)
def Fm (l : List Nat) : Prop := l.Pairwise fun a b => b + 2 ≤ a
def val (l : List Nat) : Int := (l.map mem).sum
theorem val_nil : val [] = 0 := rfl
theorem val_cons (a : Nat) (r : List Nat) : val (a :: r) = mem a + val r := by
  unfold val
  rw [List.map_cons, List.sum_cons]
theorem val_app (l r : List Nat) : val (l ++ r) = val l + val r := by
  unfold val
  rw [List.map_append, List.sum_append]
theorem val_nonneg : ∀ l, 0 ≤ val l
  | [] => Int.le_refl 0
  | a :: r => by
    rw [val_cons]
    have := val_nonneg r
    have := mem_pos1 a
    omega
theorem fm_tail {a : Nat} {r : List Nat} (h : Fm (a :: r)) : Fm r := (List.pairwise_cons.mp h).2
theorem fm_lt {a : Nat} {r : List Nat} (h : Fm (a :: r)) : ∀ b ∈ r, b + 2 ≤ a := (List.pairwise_cons.mp h).1
/-- below: a form whose places are below n has a number below the member at n -/
theorem val_lt : ∀ {l : List Nat} {n : Nat}, Fm l → (∀ p ∈ l, p < n) → val l < mem n
  | [], n, _, _ => mem_pos1 n
  | a :: r, n, h, hn => by
    have ha : a < n := hn a List.mem_cons_self
    rw [val_cons]
    match a, ha, h with
    | 0, ha, h =>
      have : r = [] := by
        cases r with
        | nil => rfl
        | cons b r => exact absurd (fm_lt h b List.mem_cons_self) (by omega)
      rw [this, val_nil]
      exact Int.lt_of_lt_of_le (by rw [Int.add_zero]; exact mem_lt1 0) (mem_mono ha)
    | a + 1, ha, h =>
      have ih := val_lt (n := a) (fm_tail h) (fun p hp => by have := fm_lt h p hp; omega)
      have e : mem (a + 2) = mem a + mem (a + 1) := mem_two a
      have := mem_mono (show a + 2 ≤ n from ha)
      omega
theorem val_head_lt {a : Nat} {r : List Nat} (h : Fm (a :: r)) : val (a :: r) < mem (a + 1) := val_lt h fun p hp => by
  rcases List.mem_cons.mp hp with e | e
  · omega
  · have := fm_lt h p e
    omega
theorem val_head_le (a : Nat) (r : List Nat) : mem a ≤ val (a :: r) := by
  rw [val_cons]
  have := val_nonneg r
  omega
/-- the first unlike place tells -/
def cmp : List Nat → List Nat → Int
  | [], [] => 0
  | [], _ :: _ => -1
  | _ :: _, [] => 1
  | a :: r, b :: s => if a < b then -1 else if b < a then 1 else cmp r s
theorem cmp_cons (a b : Nat) (r s : List Nat) : cmp (a :: r) (b :: s) = if a < b then -1 else if b < a then 1 else cmp r s := by rw [cmp]
theorem cmp_lt : ∀ {l m : List Nat}, Fm l → Fm m → (cmp l m = -1 ∧ val l < val m) ∨ (cmp l m = 0 ∧ l = m) ∨ (cmp l m = 1 ∧ val m < val l)
  | [], [], _, _ => .inr (.inl ⟨rfl, rfl⟩)
  | [], b :: s, _, h => .inl ⟨rfl, by
    have := val_head_le b s
    have := mem_pos1 b
    rw [val_nil]
    omega⟩
  | a :: r, [], h, _ => .inr (.inr ⟨rfl, by
    have := val_head_le a r
    have := mem_pos1 a
    rw [val_nil]
    omega⟩)
  | a :: r, b :: s, h1, h2 => by
    unfold cmp
    by_cases h : a < b
    · rw [if_pos h]
      refine .inl ⟨rfl, ?_⟩
      have := val_head_lt h1
      have := val_head_le b s
      have := mem_mono (show a + 1 ≤ b from h)
      omega
    · rw [if_neg h]
      by_cases g : b < a
      · rw [if_pos g]
        refine .inr (.inr ⟨rfl, ?_⟩)
        have := val_head_lt h2
        have := val_head_le a r
        have := mem_mono (show b + 1 ≤ a from g)
        omega
      · rw [if_neg g]
        have e : a = b := by omega
        subst e
        rw [val_cons, val_cons]
        rcases cmp_lt (fm_tail h1) (fm_tail h2) with ⟨p, q⟩ | ⟨p, q⟩ | ⟨p, q⟩
        · exact .inl ⟨p, by omega⟩
        · exact .inr (.inl ⟨p, by rw [q]⟩)
        · exact .inr (.inr ⟨p, by omega⟩)
/-- just one form for each number -/
theorem fm_uniq {l m : List Nat} (h1 : Fm l) (h2 : Fm m) (e : val l = val m) : l = m := by
  rcases cmp_lt h1 h2 with ⟨_, q⟩ | ⟨_, q⟩ | ⟨_, q⟩
  · omega
  · exact q
  · omega

/-! ### the greatest of a list of places -/
theorem maxD_nat : ∀ (l : List Nat) (d : Int), maxD d (nat l) = d ∧ l = [] ∨ ∃ p ∈ l, maxD d (nat l) = (p : Int) ∧ ∀ q ∈ l, q ≤ p
  | [], d => .inl ⟨rfl, rfl⟩
  | y :: ys, d => by
    refine .inr ?_
    have gen : ∀ (ys : List Nat) (y : Nat), ∃ p ∈ y :: ys, (nat ys).foldl (fun a b => if a < b then b else a) (y : Int) = (p : Int) ∧ ∀ q ∈ y :: ys, q ≤ p := by
      intro ys
      induction ys with
      | nil => intro y; exact ⟨y, List.mem_singleton.mpr rfl, rfl, fun q hq => by rw [List.mem_singleton.mp hq]; exact Nat.le_refl _⟩
      | cons z zs ih =>
        intro y
        show ∃ p ∈ y :: z :: zs, (nat zs).foldl (fun a b => if a < b then b else a) (if (y : Int) < (z : Int) then (z : Int) else (y : Int)) = (p : Int) ∧ _
        by_cases h : y < z
        · rw [if_pos (by omega)]
          obtain ⟨p, hp, e, hq⟩ := ih z
          exact ⟨p, List.mem_cons_of_mem _ hp, e, fun q hq2 => by
            rcases List.mem_cons.mp hq2 with e2 | e2
            · have := hq z List.mem_cons_self
              omega
            · exact hq q e2⟩
        · rw [if_neg (by omega)]
          obtain ⟨p, hp, e, hq⟩ := ih y
          refine ⟨p, ?_, e, fun q hq2 => ?_⟩
          · rcases List.mem_cons.mp hp with e2 | e2
            · rw [e2]; exact List.mem_cons_self
            · exact List.mem_cons_of_mem _ (List.mem_cons_of_mem _ e2)
          · rcases List.mem_cons.mp hq2 with e2 | e2
            · rw [e2]; exact hq y List.mem_cons_self
            · rcases List.mem_cons.mp e2 with e3 | e3
              · have := hq y List.mem_cons_self
                omega
              · exact hq q (List.mem_cons_of_mem _ e3)
    exact gen ys y
theorem maxD_lt {l : List Nat} {d : Int} {b : Nat} (h : ∀ p ∈ l, p < b) (hd : d < b) : maxD d (nat l) < b := by
  rcases maxD_nat l d with ⟨e, _⟩ | ⟨p, hp, e, _⟩
  · rw [e]; exact hd
  · rw [e]
    have := h p hp
    omega
theorem maxD_ge {l : List Nat} {d : Int} {p : Nat} (h : p ∈ l) : (p : Int) ≤ maxD d (nat l) := by
  rcases maxD_nat l d with ⟨e, e2⟩ | ⟨q, hq, e, hm⟩
  · rw [e2] at h; cases h
  · rw [e]
    have := hm p h
    omega

/-! ### the greedy form -/
def greedy : Nat → Int → List Nat
  | 0, _ => []
  | i + 1, n => if mem i ≤ n then i :: greedy i (n - mem i) else greedy i n
theorem greedy_mem : ∀ {k : Nat} {n : Int}, 0 ≤ n → ∀ p ∈ greedy k n, mem p ≤ n ∧ p < k
  | 0, _, _, p, h => by cases h
  | i + 1, n, hn, p, h => by
    unfold greedy at h
    split at h
    · rename_i c
      rcases List.mem_cons.mp h with e | e
      · subst e
        exact ⟨c, Nat.lt_succ_self _⟩
      · have := greedy_mem (k := i) (n := n - mem i) (by omega) p e
        have := mem_pos1 i
        exact ⟨by omega, by omega⟩
    · have := greedy_mem (k := i) hn p h
      exact ⟨this.1, by omega⟩
theorem greedy_ok : ∀ {k : Nat} {n : Int}, 0 ≤ n → n < mem k → Fm (greedy k n) ∧ val (greedy k n) = n
  | 0, n, h0, h1 => ⟨List.Pairwise.nil, by
    have := mem_zero
    show (0 : Int) = n
    omega⟩
  | i + 1, n, h0, h1 => by
    unfold greedy
    split
    · rename_i c
      have small : n - mem i < mem i := by
        have : mem (i + 1) ≤ 2 * mem i := by
          cases i with
          | zero =>
            have := mem_zero
            have : mem (0 + 1) = 2 := mem_one
            omega
          | succ j =>
            have e : mem (j + 1 + 1) = mem j + mem (j + 1) := mem_two j
            have := mem_lt1 j
            omega
        omega
      obtain ⟨f, v⟩ := greedy_ok (k := i) (n := n - mem i) (by omega) small
      refine ⟨List.pairwise_cons.mpr ⟨fun p hp => ?_, f⟩, by rw [val_cons, v]; omega⟩
      have q := (greedy_mem (k := i) (n := n - mem i) (by omega) p hp).1
      have r := (greedy_mem (k := i) (n := n - mem i) (by omega) p hp).2
      cases i with
      | zero => omega
      | succ j =>
        have e : mem (j + 1 + 1) = mem j + mem (j + 1) := mem_two j
        have : p < j := lt_of_mem (by omega)
        omega
    · rename_i c
      exact greedy_ok h0 (by omega)
theorem greedy_any {j k : Nat} {n : Int} (h0 : 0 ≤ n) (hj : n < mem j) (hk : n < mem k) : greedy j n = greedy k n :=
  fm_uniq (greedy_ok h0 hj).1 (greedy_ok h0 hk).1 ((greedy_ok h0 hj).2.trans (greedy_ok h0 hk).2.symm)
theorem greedy_of {k : Nat} {l : List Nat} (h : Fm l) (hk : val l < mem k) : greedy k (val l) = l :=
  fm_uniq (greedy_ok (val_nonneg l) hk).1 h (greedy_ok (val_nonneg l) hk).2
theorem greedy_len : ∀ k n, (greedy k n).length ≤ k
  | 0, _ => Nat.le_refl 0
  | i + 1, n => by
    unfold greedy
    split
    · have := greedy_len i (n - mem i)
      rw [List.length_cons]
      omega
    · have := greedy_len i n
      omega
/-- the form of a number (below the member at 2000) -/
@[irreducible] def form (n : Int) : List Nat := greedy 2000 n
theorem form_eq {k : Nat} {n : Int} (h0 : 0 ≤ n) (hk : n < mem k) (h : n < mem 2000) : greedy k n = form n := by
  unfold form
  exact greedy_any h0 hk h

/-! ### moved: places greater by one, and the share -/
def G (x y : Int) : Prop := x * y + y * y < x * x
def L (x y : Int) : Prop := x * x < x * y + y * y
theorem step1 {N M : Int} (h1 : 1 ≤ N) (h2 : N ≤ M) (h3 : M < 2 * N) (l : L M N) (g : G (M + 1) N) : M ≤ N + M - 1 ∧ N + M - 1 < 2 * M ∧ L (N + M - 1) M ∧ G (N + M - 1 + 1) M := by
  unfold L G at *
  have e : N * M = M * N := Int.mul_comm N M
  simp only [Int.add_mul, Int.mul_add, Int.sub_mul, Int.mul_sub, Int.one_mul, Int.mul_one, e] at *
  refine ⟨?_, ?_, ?_, ?_⟩ <;> omega
theorem step2 {N M : Int} (h1 : 1 ≤ N) (h2 : N ≤ M) (h3 : M < 2 * N) (l : L M N) (g : G (M + 1) N) : N + M ≤ N + 2 * M ∧ N + 2 * M < 2 * (N + M) ∧ L (N + 2 * M) (N + M) ∧ G (N + 2 * M + 1) (N + M) := by
  unfold L G at *
  have e : N * M = M * N := Int.mul_comm N M
  have e2 : M * (2 * M) = 2 * (M * M) := Int.mul_left_comm _ _ _
  have e3 : N * (2 * M) = 2 * (M * N) := by rw [Int.mul_left_comm, e]
  simp only [Int.add_mul, Int.mul_add, Int.sub_mul, Int.mul_sub, Int.one_mul, Int.mul_one, e, e2, e3, Int.mul_assoc] at *
  refine ⟨?_, ?_, ?_, ?_⟩ <;> omega
theorem prod5 {u v y z : Int} (hu : 0 ≤ u) (hv : 0 ≤ v) (hy : 0 ≤ y) (hz : 0 ≤ z) (h1 : 5 * (y * y) < u * u) (h2 : 5 * (z * z) < v * v) : 5 * (y * z) < u * v := by
  apply Int.lt_of_not_ge
  intro c
  have c0 : 0 ≤ u * v := Int.mul_nonneg hu hv
  have n1 := Int.mul_nonneg hy hy
  have n2 := Int.mul_nonneg hz hz
  have n3 := Int.mul_nonneg hy hz
  have a := Int.mul_le_mul c c (by omega) (by omega)
  have b := Int.mul_le_mul (show 5 * (y * y) + 1 ≤ u * u from h1) (show 5 * (z * z) + 1 ≤ v * v from h2) (by omega) (by omega)
  have e1 : u * v * (u * v) = u * u * (v * v) := by ac_rfl
  have e2 : 5 * (y * z) * (5 * (y * z)) = 25 * ((y * y) * (z * z)) := by grind
  have e3 : (5 * (y * y) + 1) * (5 * (z * z) + 1) = 25 * ((y * y) * (z * z)) + 5 * (y * y) + 5 * (z * z) + 1 := by grind
  rw [e1, e2] at a
  rw [e3] at b
  omega
theorem addG {x y w z : Int} (hx : 0 ≤ x) (hy : 0 ≤ y) (hw : 0 ≤ w) (hz : 0 ≤ z) (h1 : G x y) (h2 : G w z) : G (x + w) (y + z) := by
  unfold G at *
  have p1 : y ≤ x := by
    apply Int.le_of_not_gt
    intro c
    have := Int.mul_le_mul_of_nonneg_left (show x ≤ y by omega) hx
    have := Int.mul_nonneg hy hy
    omega
  have p2 : z ≤ w := by
    apply Int.le_of_not_gt
    intro c
    have := Int.mul_le_mul_of_nonneg_left (show w ≤ z by omega) hw
    have := Int.mul_nonneg hz hz
    omega
  have k := prod5 (u := 2 * x - y) (v := 2 * w - z) (y := y) (z := z) (by omega) (by omega) hy hz (by grind) (by grind)
  grind
theorem addL {x y w z : Int} (hx : y ≤ x) (hy : 0 < y) (hw : z ≤ w) (hz : 0 < z) (h1 : L x y) (h2 : L w z) : L (x + w) (y + z) := by
  unfold L at *
  have k := prod5 (y := 2 * x - y) (z := 2 * w - z) (u := 5 * y) (v := 5 * z) (by omega) (by omega) (by omega) (by omega) (by grind) (by grind)
  grind
theorem monoG {x w y : Int} (hx : 0 ≤ x) (hy : 0 ≤ y) (h : G x y) (hw : x ≤ w) : G w y := by
  by_cases e : x = w
  · rw [← e]; exact h
  · have q := addG (w := w - x) (z := 0) hx hy (by omega) (Int.le_refl 0) h (by
      unfold G
      have := Int.mul_pos (show 0 < w - x by omega) (show 0 < w - x by omega)
      omega)
    rw [show x + (w - x) = w by omega, Int.add_zero] at q
    exact q
theorem notGL {x y : Int} (h : G x y) (l : L x y) : False := by
  unfold G at h
  unfold L at l
  omega
def up (l : List Nat) : List Nat := l.map (· + 1)
def down (l : List Nat) : List Nat := (l.filter fun p => decide (0 < p)).map (· - 1)
theorem up_cons (a : Nat) (l : List Nat) : up (a :: l) = (a + 1) :: up l := rfl
theorem up_app (l m : List Nat) : up (l ++ m) = up l ++ up m := List.map_append
theorem up_mem {l : List Nat} {p : Nat} : p ∈ up l ↔ ∃ q ∈ l, q + 1 = p := List.mem_map
theorem up_fm {l : List Nat} (h : Fm l) : Fm (up l) := List.pairwise_map.mpr (h.imp fun {a b} x => by omega)
theorem up_len (l : List Nat) : (up l).length = l.length := List.length_map ..
theorem down_up (l : List Nat) : down (up l) = l := by
  induction l with
  | nil => rfl
  | cons a l ih =>
    rw [up_cons]
    unfold down at ih ⊢
    rw [List.filter_cons, if_pos (by simp), List.map_cons, ih, Nat.add_sub_cancel]
theorem down_app (l m : List Nat) : down (l ++ m) = down l ++ down m := by unfold down; rw [List.filter_append, List.map_append]
theorem down_zero : down [0] = [] := rfl
theorem val_upup : ∀ l, val (up (up l)) = val l + val (up l)
  | [] => rfl
  | a :: l => by
    rw [up_cons, up_cons, val_cons, val_cons, val_cons, val_upup l]
    have : mem (a + 1 + 1) = mem a + mem (a + 1) := mem_two a
    omega
theorem split0 : ∀ {l : List Nat}, Fm l → (∃ m, Fm m ∧ l = up m) ∨ ∃ m, Fm m ∧ l = up (up m) ++ [0]
  | [], _ => .inl ⟨[], List.Pairwise.nil, rfl⟩
  | a :: r, h => by
    have f := fm_lt h
    rcases split0 (fm_tail h) with ⟨m, hm, rfl⟩ | ⟨m, hm, rfl⟩
    · cases a with
      | zero =>
        have : m = [] := by
          cases m with
          | nil => rfl
          | cons b m => exact absurd (f (b + 1) List.mem_cons_self) (by omega)
        subst this
        exact .inr ⟨[], List.Pairwise.nil, rfl⟩
      | succ a => exact .inl ⟨a :: m, List.pairwise_cons.mpr ⟨fun b hb => by
          have := f (b + 1) (up_mem.mpr ⟨b, hb, rfl⟩)
          omega, hm⟩, rfl⟩
    · have a2 : 0 + 2 ≤ a := f 0 (by simp)
      refine .inr ⟨(a - 2) :: m, List.pairwise_cons.mpr ⟨fun b hb => ?_, hm⟩, ?_⟩
      · have := f (b + 1 + 1) (List.mem_append_left _ (up_mem.mpr ⟨b + 1, up_mem.mpr ⟨b, hb, rfl⟩, rfl⟩))
        omega
      · rw [up_cons, up_cons, show a - 2 + 1 + 1 = a by omega]
        rfl
def Sh (l : List Nat) : Prop := val l + 1 ≤ val (up l) + 1 ∧ val (up l) + 1 < 2 * (val l + 1) ∧ L (val (up l) + 1) (val l + 1) ∧ G (val (up l) + 1 + 1) (val l + 1)
theorem shares : ∀ (k : Nat) {l : List Nat}, Fm l → (∀ p ∈ l, p < k) → Sh l
  | 0, l, _, hk => by
    have : l = [] := by
      cases l with
      | nil => rfl
      | cons b m => exact absurd (hk b List.mem_cons_self) (by omega)
    subst this
    exact ⟨by decide, by decide, by show (1 : Int) < 2; decide, by show (3 : Int) < 4; decide⟩
  | k + 1, l, h, hk => by
    rcases split0 h with ⟨m, hm, rfl⟩ | ⟨m, hm, rfl⟩
    · obtain ⟨a, b, c, d⟩ := shares k hm fun p hp => by
        have := hk (p + 1) (up_mem.mpr ⟨p, hp, rfl⟩)
        omega
      have q := step1 (by have := val_nonneg m; omega) a b c d
      unfold Sh
      rw [val_upup, show val m + val (up m) + 1 = val m + 1 + (val (up m) + 1) - 1 by omega]
      exact q
    · obtain ⟨a, b, c, d⟩ := shares k hm fun p hp => by
        have := hk (p + 1 + 1) (List.mem_append_left _ (up_mem.mpr ⟨p + 1, up_mem.mpr ⟨p, hp, rfl⟩, rfl⟩))
        omega
      have q := step2 (by have := val_nonneg m; omega) a b c d
      have e1 : val (up (up m) ++ [0]) + 1 = val m + 1 + (val (up m) + 1) := by
        rw [val_app, val_upup, val_cons, val_nil, mem_zero]
        omega
      have e2 : val (up (up (up m) ++ [0])) + 1 = val m + 1 + 2 * (val (up m) + 1) := by
        rw [up_app, val_app, val_upup, val_upup, up_cons, val_cons, mem_01]
        show _ + (2 + 0) + 1 = _
        omega
      unfold Sh
      rw [e1, e2]
      exact q
def maxP (l : List Nat) : Nat := l.foldr (fun a b => a + 1 + b) 0
theorem maxP_lt : ∀ l, ∀ p ∈ l, p < maxP l
  | a :: l, p, hp => by
    show p < a + 1 + maxP l
    rcases List.mem_cons.mp hp with e | e
    · omega
    · have := maxP_lt l p e
      omega
theorem share {l : List Nat} (h : Fm l) : Sh l := shares (maxP l) h (maxP_lt l)
/-- the sum of two numbers moves up to the sum of both moved up, or one more or one less -/
theorem rest1 {l m b : List Nat} (hl : Fm l) (hm : Fm m) (hb : Fm b) (e : val b = val l + val m) : -1 ≤ val (up b) - val (up l) - val (up m) ∧ val (up b) - val (up l) - val (up m) ≤ 1 := by
  obtain ⟨a1, b1, l1, g1⟩ := share hl
  obtain ⟨a2, b2, l2, g2⟩ := share hm
  obtain ⟨a3, b3, l3, g3⟩ := share hb
  have n1 := val_nonneg l
  have n2 := val_nonneg m
  have n3 := val_nonneg b
  constructor
  · apply Int.le_of_not_gt
    intro c
    have q := addG (by omega) (by omega) (by omega) (by omega) g3 (show G 2 1 by show (3 : Int) < 4; decide)
    have r := addL (by omega) (by omega) (by omega) (by omega) l1 l2
    have q2 := monoG (w := val (up l) + 1 + (val (up m) + 1)) (by omega) (by omega) q (by omega)
    rw [show val b + 1 + 1 = val l + 1 + (val m + 1) by omega] at q2
    exact notGL q2 r
  · apply Int.le_of_not_gt
    intro c
    have q := addL (by omega) (by omega) (by omega) (by omega) l3 (show L 1 1 by show (1 : Int) < 2; decide)
    have r := addG (by omega) (by omega) (by omega) (by omega) g1 g2
    have r2 := monoG (w := val (up b) + 1 + 1) (by omega) (by omega) r (by omega)
    rw [show val l + 1 + (val m + 1) = val b + 1 + 1 by omega] at r2
    exact notGL r2 q
theorem up_fm' {l : List Nat} (h : Fm (up l)) : Fm l := by
  have := List.pairwise_map.mp h
  exact this.imp fun {a b} x => by omega
theorem down_fm {l : List Nat} (h : Fm l) : Fm (down l) := by
  rcases split0 h with ⟨m, hm, rfl⟩ | ⟨m, hm, rfl⟩
  · rw [down_up]; exact hm
  · rw [down_app, down_up, down_zero, List.append_nil]; exact up_fm hm
theorem downs {l b : List Nat} (hl : Fm l) (hb : Fm b) (e : val b = val (down l) + 1) : val (up (down l)) ≤ val l ∧ val l < val (up b) := by
  obtain ⟨a3, b3, l3, g3⟩ := share hb
  have n3 := val_nonneg b
  rcases split0 hl with ⟨m, hm, rfl⟩ | ⟨m, hm, rfl⟩
  · rw [down_up] at e ⊢
    obtain ⟨a1, b1, l1, g1⟩ := share hm
    have n1 := val_nonneg m
    refine ⟨Int.le_refl _, ?_⟩
    apply Int.lt_of_not_ge
    intro c
    have q := monoG (w := val (up m) + 1 + 1) (by omega) (by omega) g3 (by omega)
    rw [e] at q
    generalize val (up m) + 1 = M at *
    generalize val m + 1 = N at *
    unfold G L at *
    grind
  · rw [down_app, down_up, down_zero, List.append_nil] at e ⊢
    obtain ⟨a1, b1, l1, g1⟩ := share hm
    have n1 := val_nonneg m
    rw [val_app, val_cons, val_nil, mem_zero]
    refine ⟨by omega, ?_⟩
    apply Int.lt_of_not_ge
    intro c
    rw [val_upup] at c
    have q := monoG (w := val m + 1 + (val (up m) + 1) + 1) (by omega) (by omega) g3 (by omega)
    rw [e] at q
    generalize val (up m) + 1 = M at *
    generalize val m + 1 = N at *
    unfold G L at *
    grind
theorem mem_two_pow : ∀ n, mem n < 2 ^ (n + 1)
  | 0 => by rw [mem_zero]; decide
  | 1 => by rw [mem_one]; decide
  | n + 2 => by
    have a := mem_two_pow n
    have b := mem_two_pow (n + 1)
    have := mem_pos1 n
    rw [mem_two]
    rw [Int.pow_succ] at b
    rw [Int.pow_succ, Int.pow_succ]
    omega
theorem up_lt {l : List Nat} {n : Nat} (h : ∀ p ∈ l, p < n) : ∀ p ∈ up l, p < n + 1 := fun p hp => by
  obtain ⟨q, hq, rfl⟩ := up_mem.mp hp
  have := h q hq
  omega
theorem down_lt {l : List Nat} {n : Nat} (h : ∀ p ∈ l, p < n) : ∀ p ∈ down l, p < n := fun p hp => by
  obtain ⟨q, hq, rfl⟩ := List.mem_map.mp hp
  have := h q (List.mem_filter.mp hq).1
  omega
theorem down_len (l : List Nat) : (down l).length ≤ l.length := by
  unfold down
  rw [List.length_map]
  exact List.length_filter_le _ _
end Mx

set_option Elab.async false
set_option linter.all false
set_option maxRecDepth 100000
/-! Rules and lemmas of our own over the layer: they speak of no program. -/
namespace L2
open PySem
theorem Room.units65 {k : Nat} {A : Around} (r : Room k A) : A.units + 65 < cLine := by have := r.un; omega
end L2
namespace Z
open PySem PySem.Spec PyProof.Rows L2 Evl

/-! ### isinstance of the error that a suite holds -/
def rIsX (K : PySem.W.Frag) (cls : Value) (d : Option Addr) (a : Addr) : List V → Hp → VK → Prop := fun xs H Q =>
  ∃ (D : Addr) (c : V) (cv : Value) (b : Bool), cls = .ref D ∧ d = none ∧ ExcC K D ∧ xs = [.ref a, c] ∧ (∀ u, RelV c u → u = cv) ∧ PySem.W.kitOne K (.ref D) cv = some b ∧ Q (.bl b) H
theorem call_isX {X : Cx} {a : Addr} {oe : Obj} {cls : Value} {d : Option Addr} {pn : List (Addr × Obj)} (hz : Zc cls d oe) (hf : ∃ vs, oe.data = .fields vs) :
    CallR (X.suite a ((a, oe) :: pn)) (.builtin "isinstance") (rIsX X.K cls d a) := by
  intro pins s σ H xs us Q I r h
  obtain ⟨D, c, cv, b, rfl, rfl, hC, rfl, hcv, hk, q⟩ := h
  exact call_isE hC hz hf pins s σ H _ us Q I r ⟨c, cv, b, rfl, hcv, hk, q⟩
theorem ev_isX {K : PySem.W.Frag} {σ : L2.St} {H : Hp} {ta tb : TE} {D a : Addr} {c : V} {cv : Value} {b : Bool} (ha : Ev ta σ H (.ref a)) (hb : Ev tb σ H c) (hC : ExcC K D) (hcv : ∀ u, RelV c u → u = cv)
    (hk : PySem.W.kitOne K (.ref D) cv = some b) : Ev (tCB (rIsX K (.ref D) none a) (tCons ta (tCons tb tNil))) σ H (.bl b) := fun H1 e Q q =>
  ha H1 e _ fun H2 e2 => hb H2 (e.trans e2) _ fun H3 e3 => ⟨D, c, cv, b, rfl, rfl, hC, rfl, hcv, hk, q H3 (e2.trans e3)⟩
theorem rel_ref {C : Addr} : ∀ u, RelV (.ref C) u → u = .ref C := fun _ h => h
theorem rel_ty {n : String} : ∀ u, RelV (.ty n) u → u = .type n := fun _ h => h

theorem kit_own {K : PySem.W.Frag} {C D : Addr} {b : Bool} (hd : PySem.W.hasDictIn K D = true) (ht : PySem.W.typeIn K (.ref D) = some (.type "type")) (hs : PySem.W.subIn K (.ref C) (.ref D) = some b) (hne : b = true ∨ C ≠ D) :
    PySem.W.kitOne K (.ref C) (.ref D) = some b := by
  unfold PySem.W.kitOne
  by_cases e : C = D
  · subst e
    rcases hne with h | h
    · subst h
      rw [if_pos (by simp)]
    · exact absurd rfl h
  · rw [if_neg (by simpa using e)]
    obtain ⟨cd, hc, _⟩ := PySem.W.any_some hd
    unfold PySem.W.kitCls
    dsimp only
    rw [if_pos (by rw [hc, ht]; rfl)]
    exact hs
theorem kit_val {K : PySem.W.Frag} {C : Addr} (hs : PySem.W.subIn K (.ref C) (.type "ValueError") = some true) : PySem.W.kitOne K (.ref C) (.type "ValueError") = some true := by
  unfold PySem.W.kitOne
  rw [if_neg (by simp)]
  unfold PySem.W.kitCls
  dsimp only
  rw [if_pos (by decide +kernel)]
  exact hs

/-! ### types of values: what isinstance asks -/
def Ty (K : PySem.W.Frag) (H : Hp) (x : V) (n : String) : Prop := TyOf K H x (.type n)
theorem Ty.mono {K : PySem.W.Frag} {H H' : Hp} {x : V} {n : String} (e : Ex H H') (h : Ty K H x n) : Ty K H' x n := by
  unfold Ty at h ⊢
  generalize e' : Value.type n = t at h
  cases h with
  | ins => cases e'
  | non => exact .non
  | bl x => exact .bl x
  | int i => exact .int i
  | str x => exact .str x
  | flt x => exact .flt x
  | lst h => exact .lst (e _ _ h)
  | frz h => exact .frz (e _ _ h)
  | tup h => exact .tup (e _ _ h)
  | dK h => exact .dK (e _ _ h)
  | dT h => exact .dT (e _ _ h)
theorem ev_isi {K : PySem.W.Frag} {σ : L2.St} {H : Hp} {ta : TE} {x : V} {n m : String} {b : Bool} (ha : Ev ta σ H x) (ty : Ty K H x n) (hk : kitB n m = some b) :
    Ev (tCB (rIsi K) (tCons ta (tCons (tC (.ty m)) tNil))) σ H (.bl b) := fun H1 e Q q =>
  ha H1 e _ fun H2 e2 => ⟨x, .ty m, .type n, .type m, b, rfl, .ty m, .base (ty.mono (e.trans e2)), kit_ty hk, q H2 e2⟩
/-- one of the seven kinds of things that are handed about here -/
def Seven (n : String) : Prop := n = "int" ∨ n = "bool" ∨ n = "NoneType" ∨ n = "str" ∨ n = "list" ∨ n = "tuple" ∨ n = "dict"
def isIntV : V → Bool
  | .int _ => true
  | _ => false
def wholeV : V → Bool
  | .int i => decide (0 ≤ i)
  | _ => false
theorem ty_int {K : PySem.W.Frag} {H : Hp} {x : V} (h : Ty K H x "int") : ∃ i, x = .int i := by
  unfold Ty at h
  generalize e : Value.type "int" = t at h
  cases h with
  | int i => exact ⟨i, rfl⟩
  | ins => cases e
  | _ => exact absurd (Value.type.inj e) (by decide)
theorem ty_ref {K : PySem.W.Frag} {H : Hp} {x : V} {n : String} (h : Ty K H x n) (hn : n ≠ "int") : isIntV x = false ∧ wholeV x = false := by
  unfold Ty at h
  generalize e : Value.type n = t at h
  cases h with
  | int i => exact absurd (Value.type.inj e) hn
  | ins => cases e
  | _ => exact ⟨rfl, rfl⟩
/-- a value of a known kind -/
def Kn (K : PySem.W.Frag) (H : Hp) (x : V) : Prop := ∃ n, Seven n ∧ Ty K H x n
theorem Kn.mono {K : PySem.W.Frag} {H H' : Hp} {x : V} (e : Ex H H') (h : Kn K H x) : Kn K H' x := by
  obtain ⟨n, s, t⟩ := h
  exact ⟨n, s, t.mono e⟩
theorem kn_int {K : PySem.W.Frag} {H : Hp} {i : Int} : Kn K H (.int i) := ⟨"int", .inl rfl, .int i⟩
theorem kn_bl {K : PySem.W.Frag} {H : Hp} {b : Bool} : Kn K H (.bl b) := ⟨"bool", .inr (.inl rfl), .bl b⟩
theorem kn_non {K : PySem.W.Frag} {H : Hp} : Kn K H .non := ⟨"NoneType", .inr (.inr (.inl rfl)), .non⟩
theorem kn_str {K : PySem.W.Frag} {H : Hp} {s : Str} : Kn K H (.str s) := ⟨"str", .inr (.inr (.inr (.inl rfl))), .str s⟩
theorem kn_lst {K : PySem.W.Frag} {H : Hp} {a : Addr} {xs : List V} (h : H a = some (.lst xs)) : Kn K H (.ref a) := ⟨"list", .inr (.inr (.inr (.inr (.inl rfl)))), .lst h⟩
theorem kn_tup {K : PySem.W.Frag} {H : Hp} {a : Addr} {xs : List V} (h : H a = some (.tup xs)) : Kn K H (.ref a) := ⟨"tuple", .inr (.inr (.inr (.inr (.inr (.inl rfl))))), .tup h⟩
theorem kn_dK {K : PySem.W.Frag} {H : Hp} {a : Addr} {xs : List (Key × V)} (h : H a = some (.dK xs)) : Kn K H (.ref a) := ⟨"dict", .inr (.inr (.inr (.inr (.inr (.inr rfl))))), .dK h⟩

/-! ### typed data on the abstract heap -/
open PySem.W (Datum)
class Dt (α : Type) [DecidableEq α] extends Datum α where
  lay : ∀ a : α, (toD a).canLay0 = true
instance : Dt Int where
  lay _ := rfl
instance : Dt Bool where
  lay _ := rfl
theorem layAll {α : Type} [DecidableEq α] [Dt α] : ∀ xs : List α, PyData.canLayAll0 (xs.map Datum.toD) = true
  | [] => rfl
  | x :: xs => by
    rw [List.map_cons, PyData.canLayAll0, Dt.lay x, layAll xs]
    rfl
instance {α : Type} [DecidableEq α] [Dt α] : Dt (List α) where
  lay xs := by
    show (PyData.list (xs.map Datum.toD)).canLay0 = true
    rw [PyData.canLay0]
    exact layAll xs
instance {α β : Type} [DecidableEq α] [Dt α] [DecidableEq β] [Dt β] : Dt (α × β) where
  lay p := by
    show (PyData.tuple [Datum.toD p.1, Datum.toD p.2]).canLay0 = true
    rw [PyData.canLay0, PyData.canLayAll0, PyData.canLayAll0, PyData.canLayAll0, Dt.lay p.1, Dt.lay p.2]
    rfl
theorem shaped_of {α : Type} [DecidableEq α] [Dt α] (hd : Datum.depth α ≤ 64) (a : α) : SeqAt.shaped (Datum.toD a) = true := by
  unfold SeqAt.shaped
  rw [Dt.lay a, decide_eq_true (Nat.le_trans (Datum.depth_le a) hd)]
  rfl
mutual
theorem Dp.ex {K : PySem.W.Frag} {H H' : Hp} (e : Ex H H') : ∀ {v : V} {d : PyData}, Dp K H v d → Dp K H' v d
  | _, _, .non => .non
  | _, _, .bl b => .bl b
  | _, _, .int i => .int i
  | _, _, .str x => .str x
  | _, _, .lst h a => .lst (ex_l e h) (DpAll.ex e a)
  | _, _, .tup h a => .tup (ex_t e h) (DpAll.ex e a)
theorem DpAll.ex {K : PySem.W.Frag} {H H' : Hp} (e : Ex H H') : ∀ {vs : List V} {ds : List PyData}, DpAll K H vs ds → DpAll K H' vs ds
  | _, _, .nil => .nil
  | _, _, .cons a b => .cons (Dp.ex e a) (DpAll.ex e b)
end
/-- v holds x -/
def Hd {α : Type} [DecidableEq α] [Dt α] (K : PySem.W.Frag) (H : Hp) (v : V) (x : α) : Prop := Dp K H v (Datum.toD x)
def HdAll {α : Type} [DecidableEq α] [Dt α] (K : PySem.W.Frag) (H : Hp) (vs : List V) (xs : List α) : Prop := DpAll K H vs (xs.map Datum.toD)
section
variable {α β : Type} [DecidableEq α] [Dt α] [DecidableEq β] [Dt β] {K : PySem.W.Frag} {H H' : Hp} {σ : L2.St} {ta tb : TE} {v u : V}
theorem Hd.ex {x : α} (e : Ex H H') (h : Hd K H v x) : Hd K H' v x := Dp.ex e h
theorem HdAll.ex {vs : List V} {xs : List α} (e : Ex H H') (h : HdAll K H vs xs) : HdAll K H' vs xs := DpAll.ex e h
theorem hd_int {i : Int} : Hd K H (.int i) i := Dp.int i
theorem hd_bl {b : Bool} : Hd K H (.bl b) b := Dp.bl b
theorem hd_lst {a : Addr} {vs : List V} {xs : List α} (h : SqL K H a vs) (hx : HdAll K H vs xs) : Hd K H (.ref a) xs := Dp.lst h hx
theorem hd_pair {a : Addr} {x y : V} {p : α × β} (h : SqT K H a [x, y]) (h1 : Hd K H x p.1) (h2 : Hd K H y p.2) : Hd K H (.ref a) p := Dp.tup h (.cons h1 (.cons h2 .nil))
theorem hdAll_nil : HdAll K H [] ([] : List α) := DpAll.nil
theorem hdAll_cons {x : α} {vs : List V} {xs : List α} (h : Hd K H v x) (hs : HdAll K H vs xs) : HdAll K H (v :: vs) (x :: xs) := DpAll.cons h hs
theorem hdAll_app {vs us : List V} {xs ys : List α} (h : HdAll K H vs xs) (hs : HdAll K H us ys) : HdAll K H (vs ++ us) (xs ++ ys) := by
  induction xs generalizing vs with
  | nil => cases h; exact hs
  | cons x xs ih => cases h with
    | cons a b => exact hdAll_cons a (ih b)
theorem hdAll_ints : ∀ ns : List Int, HdAll K H (ns.map V.int) ns
  | [] => .nil
  | n :: ns => .cons (.int n) (hdAll_ints ns)
theorem hdAll_bls : ∀ bs : List Bool, HdAll K H (bs.map V.bl) bs
  | [] => .nil
  | b :: bs => .cons (.bl b) (hdAll_bls bs)
theorem hdAll_of_ints : ∀ {vs : List V} {ns : List Int}, HdAll K H vs ns → vs = ns.map V.int
  | _, [], h => by cases h; rfl
  | _, n :: ns, h => by
    cases h with
    | cons a b =>
      cases a
      rw [hdAll_of_ints b]
      rfl
theorem hd_ints {a : Addr} {ns : List Int} (h : SqL K H a (ns.map V.int)) : Hd K H (.ref a) ns := hd_lst h (hdAll_ints ns)
theorem hd_lst_inv {xs : List α} (h : Hd K H v xs) : ∃ a vs, v = .ref a ∧ SqL K H a vs ∧ HdAll K H vs xs := by
  unfold Hd at h
  generalize e : (Datum.toD xs) = d at h
  cases h with
  | lst h1 h2 =>
    have e2 := PyData.list.inj e
    subst e2
    exact ⟨_, _, rfl, h1, h2⟩
  | _ => cases e
theorem hd_ints_inv {ns : List Int} (h : Hd K H v ns) : ∃ a, v = .ref a ∧ SqL K H a (ns.map V.int) := by
  obtain ⟨a, vs, rfl, h1, h2⟩ := hd_lst_inv h
  rw [hdAll_of_ints h2] at h1
  exact ⟨a, rfl, h1⟩
theorem hd_pair_inv {p : α × β} (h : Hd K H v p) : ∃ a x y, v = .ref a ∧ SqT K H a [x, y] ∧ Hd K H x p.1 ∧ Hd K H y p.2 := by
  unfold Hd at h
  generalize e : (Datum.toD p) = d at h
  cases h with
  | tup h1 h2 =>
    have e2 := PyData.tuple.inj e
    subst e2
    cases h2 with
    | cons g1 g2 => cases g2 with
      | cons g3 g4 => cases g4; exact ⟨_, _, _, rfl, h1, g1, g3⟩
  | _ => cases e
theorem hdAll_len {vs : List V} {xs : List α} (h : HdAll K H vs xs) : vs.length = xs.length := by
  induction xs generalizing vs with
  | nil => cases h; rfl
  | cons x xs ih => cases h with
    | cons a b => rw [List.length_cons, List.length_cons, ih b]
theorem hdAll_at {vs : List V} {xs : List α} (h : HdAll K H vs xs) {i : Nat} {x : α} (e : xs[i]? = some x) : ∃ v, vs[i]? = some v ∧ Hd K H v x := by
  induction xs generalizing vs i with
  | nil => simp at e
  | cons y ys ih => cases h with
    | cons a b =>
      cases i with
      | zero =>
        simp at e
        subst e
        exact ⟨_, rfl, a⟩
      | succ i => exact ih b (by simpa using e)
/-- an expression that gives something that holds x -/
def EvH (K : PySem.W.Frag) (te : TE) (σ : L2.St) (H : Hp) (x : α) : Prop := ∀ H1, Ex H H1 → ∀ Q : VK, (∀ v H2, Ex H1 H2 → Hd K H2 v x → Q v H2) → te σ H1 Q
theorem evh_v {x : α} {te : TE} (h : Ev te σ H v) (hv : Hd K H v x) : EvH K te σ H x := fun H1 e Q q => h H1 e Q fun H2 e2 => q v H2 e2 (hv.ex (e.trans e2))
theorem evh_L {vs : List V} {xs : List α} {te : TE} (h : EvL te σ H vs) (hv : HdAll K H vs xs) : EvH K te σ H xs := fun H1 e Q q => h H1 e Q fun p H2 _ e2 hp => q _ H2 e2 (hd_lst (.of hp) (hv.ex (e.trans e2)))
theorem evh_ints {ns : List Int} {te : TE} (h : EvL te σ H (ns.map V.int)) : EvH K te σ H ns := evh_L h (hdAll_ints ns)
theorem evh_eq {x y : α} {te : TE} (h : EvH K te σ H x) (e : x = y) : EvH K te σ H y := e ▸ h
theorem EvH.mono {x : α} {te : TE} (e : Ex H H') (h : EvH K te σ H x) : EvH K te σ H' x := fun H1 a Q q => h H1 (e.trans a) Q q
theorem ev_eqH {x y : α} (ha : EvH K ta σ H x) (hb : EvH K tb σ H y) (hd : Datum.depth α ≤ 64) : Ev (tOp (rEqD K) ta tb) σ H (.bl (decide (x = y))) := fun H1 e Q q =>
  ha H1 e _ fun v H2 e2 hv => hb H2 (e.trans e2) _ fun u H3 e3 hu => ⟨_, _, hv.ex e3, hu, shaped_of hd x, shaped_of hd y, by rw [Datum.eqv]; exact q H3 (e2.trans e3)⟩
theorem ev_neH {x y : α} (ha : EvH K ta σ H x) (hb : EvH K tb σ H y) (hd : Datum.depth α ≤ 64) : Ev (tOp (rNeD K) ta tb) σ H (.bl (!decide (x = y))) := fun H1 e Q q =>
  ha H1 e _ fun v H2 e2 hv => hb H2 (e.trans e2) _ fun u H3 e3 hu => ⟨_, _, hv.ex e3, hu, shaped_of hd x, shaped_of hd y, by rw [Datum.eqv]; exact q H3 (e2.trans e3)⟩
end
/-- a promise's way back with something that holds x -/
def RetH {α : Type} [DecidableEq α] [Dt α] (K : PySem.W.Frag) (x : α) (H : Hp) (Q : VK) : Prop := ∀ v H2, Ex H H2 → Hd K H2 v x → Q v H2

/-! ### lists put together -/
section
variable {H : Hp} {σ : L2.St} {ta tb : TE}
theorem el_cat {l : Addr} {xs ys : List V} (ha : Ev ta σ H (.ref l)) (hl : H l = some (.lst xs)) (hb : EvL tb σ H ys) (hz : xs.length + ys.length ≤ 100000) : EvL (tOp rCat ta tb) σ H (xs ++ ys) := fun H1 e Q q =>
  ha H1 e _ fun H2 e2 => hb H2 (e.trans e2) _ fun p H3 _ e3 h3 => ⟨l, p, xs, ys, rfl, rfl, e3 _ _ (e2 _ _ (e _ _ hl)), h3, sz_of hz, fun r hr => q r _ (fresh_back (e2.trans e3) hr) ((e2.trans e3).trans (Ex.new hr)) upd_same⟩
theorem el_catV {l m : Addr} {xs ys : List V} (ha : Ev ta σ H (.ref l)) (hl : H l = some (.lst xs)) (hb : Ev tb σ H (.ref m)) (hm : H m = some (.lst ys)) (hz : xs.length + ys.length ≤ 100000) : EvL (tOp rCat ta tb) σ H (xs ++ ys) := fun H1 e Q q =>
  ha H1 e _ fun H2 e2 => hb H2 (e.trans e2) _ fun H3 e3 => ⟨l, m, xs, ys, rfl, rfl, e3 _ _ (e2 _ _ (e _ _ hl)), e3 _ _ (e2 _ _ (e _ _ hm)), sz_of hz, fun r hr => q r _ (fresh_back (e2.trans e3) hr) ((e2.trans e3).trans (Ex.new hr)) upd_same⟩
theorem el_catLL {xs ys : List V} (ha : EvL ta σ H xs) (hb : EvL tb σ H ys) (hz : xs.length + ys.length ≤ 100000) : EvL (tOp rCat ta tb) σ H (xs ++ ys) := fun H1 e Q q =>
  ha H1 e _ fun l H2 _ e2 hl => hb H2 (e.trans e2) _ fun p H3 _ e3 h3 => ⟨l, p, xs, ys, rfl, rfl, e3 _ _ hl, h3, sz_of hz, fun r hr => q r _ (fresh_back (e2.trans e3) hr) ((e2.trans e3).trans (Ex.new hr)) upd_same⟩
end

/-! ### small steps -/
theorem hd_blsL {K : PySem.W.Frag} {H : Hp} {a : Addr} {bs : List Bool} (h : H a = some (.lst (bs.map V.bl))) : Hd K H (.ref a) bs := hd_lst (.of h) (hdAll_bls bs)
theorem ev_last {te : TE} {σ : L2.St} {H : Hp} {b : Bool} (h : Ev te σ H (.bl b)) (e : b = true) : Ev te σ H (.bl true) := e ▸ h
theorem ints_at {ns : List Int} {i : Nat} {z : Int} (h : ns[i]? = some z) : (ns.map V.int)[i]? = some (.int z) := by
  rw [List.getElem?_map, h]
  rfl
theorem ex_to {H H' : Hp} {a : Addr} {o : HO} (e : Ex H H') (h : H a = some o) : H' a = some o := e a o h
theorem cpow {i j : Int} (h1 : 0 ≤ j) (h2 : j ≤ 1000000) (h3 : i.natAbs < 2 ^ 64) : CPow i j := ⟨h1, h2, h3⟩
theorem cdiv {i j : Int} (h1 : 0 < j) (h2 : j < 1073741824) : CDiv i j := ⟨h1, h2⟩
theorem upd_ex {H H' : Hp} {p : Addr} {o : HO} (e : Ex H H') (h : H p = none) : Ex H (upd H' p o) := Ex.mut e h
/-- a value has the answer that is wished -/
theorem ev_eq {te : TE} {σ : L2.St} {H : Hp} {v w : V} (h : Ev te σ H v) (e : v = w) : Ev te σ H w := e ▸ h
theorem et_eq {tt : TT} {σ : L2.St} {H : Hp} {b c : Bool} (h : EvT tt σ H b) (e : b = c) : EvT tt σ H c := e ▸ h
end Z

set_option Elab.async false
set_option linter.all false
set_option maxRecDepth 100000
set_option maxHeartbeats 4000000
/-! Rules that the layer lacks: list(reversed(a list)), max(a list, default=d), set(a list of ints), enumerate(a text). -/
namespace ZR
open PySem PySem.Spec PySem.Calls PyProof.Rows
section
variable {prog : Program} {w : World} {A : Around} {E : Value → Shared → Prop} {s : Shared}
/-- the iterator of reversed(a list) poured into an empty list at S -/
theorem pour_rev {R : Result → Shared → Prop} {it l S : Addr} {xs : Array Value} {c : Nat} (hh : A.handled = none) (hi : s.heap.IsRevIter it l ((xs.size : Int) - 1)) (hx : s.heap.IsList l xs) (n1 : l ≠ it) (n2 : S ≠ it) (n3 : S ≠ l) (hz : xs.size ≤ sizeLine)
    (hS : s.heap.get? S = some { cls := .type "list", data := .seq #[] c })
    (k : ∀ h' tk acc c', (∀ b o, b ≠ S → b ≠ it → s.heap.get? b = some o → h'.get? b = some o) → h'.get? S = some { cls := .type "list", dict := none, data := .seq acc c', slots := #[] } →
      ItemsOf (fun i v => xs[xs.size - 1 - i]? = some v) acc xs.size → R (.ok (.ret .none)) { s with heap := h', toks := tk }) :
    wpAny (model prog w) A.in1 (Builtin.List.listExtendWith (.ref S) (.ref it) .none)
      (fun fin s' => match fin with | .done f => R (.ok f) s' | .again c' => c'.quiet = true ∧ codeAny (model prog w) A c' R s') (fun e s' => R (.error e) s') s := by
  have wk := (Walks.listRev (prog := prog) (w := w) (A := A.in1) hh it l n1 xs).toS
  have out : S ∉ [it, l] := fun z => by
    rcases List.mem_cons.mp z with z | z
    · exact n2 z
    · exact n3 (List.mem_singleton.mp z)
  have ty : s.TypeIs (.ref it) "list_reverseiterator" := Heap.IsRevIter.typeIs hi
  have other : Builtin.List.listSameRef (.ref S) (.ref it) = false := by simp [Builtin.List.listSameRef, n2]
  unfold Builtin.List.listExtendWith
  refine wpAny_bind (wpAny_typeOf ty ?_)
  rw [if_neg (by rw [other]; decide)]
  refine wpAny_bind (wpAny_pyIter_revIter hi ?_)
  refine wpAny_bind (wpAny_holding ?_)
  unfold Builtin.List.listLengthHint
  refine wpAny_bind (wpAny_specialOf ty RT.nolen_lri ?_)
  show wpAny _ A.in1 (specialOf (Value.ref it) (Str.ofString "__length_hint__") >>= fun _ => _) _ _ _
  refine wpAny_bind (wpAny_specialOf ty RT.hint_lri ?_)
  generalize hname : ("list_reverseiterator.__length_hint__" : String) = nm
  wp_delta
  rw [show splitId nm = some ("list_reverseiterator", "__length_hint__") from by subst hname; decide +kernel]
  subst hname
  refine wpAny_bind (wpAny_isInstance (b := true) ty (by rw [isSubtype_type]; kernel_rfl) (wpAny_pure ?_))
  rw [if_neg (by decide)]
  have at0 : ((xs.size : Nat) : Int) - 1 - ((0 : Nat) : Int) = (xs.size : Int) - 1 := by omega
  refine wpAny_pure ⟨plainId_quiet PySem.F.plain_extend_loop _, codeAny_extend_loopS wk hz S out _ xs.size 0 _ _ _ rfl (Nat.zero_le _) ⟨Nat.zero_le _, by rw [at0]; exact hi, hx⟩ hS (ItemsOf.nil _) fun s2 acc c' mv hS2 got => ?_⟩
  rw [Moved.eq_with mv]
  refine k s2.heap s2.toks acc c' (fun b o h1 h2 e => mv.heap b o (fun z => ?_) e) hS2 got
  rcases List.mem_cons.mp z with z | z
  · exact h1 z
  · exact h2 (List.mem_singleton.mp z)
theorem list_of_rev {it l : Addr} {xs : Array Value} {Q : Value → Shared → Prop} (hh : A.handled = none) (hi : s.heap.IsRevIter it l ((xs.size : Int) - 1)) (hx : s.heap.IsList l xs) (n1 : l ≠ it) (hz : xs.size ≤ sizeLine)
    (k : ∀ h' tk acc c', (∀ b o, b ≠ it → s.heap.get? b = some o → h'.get? b = some o) → h'.get? s.heap.objs.size = some { cls := .type "list", dict := none, data := .seq acc c', slots := #[] } →
      ItemsOf (fun i v => xs[xs.size - 1 - i]? = some v) acc xs.size → Q (.ref s.heap.objs.size) { s with heap := h', toks := tk }) :
    wpAny (model prog w) A (call (.type "list") [.ref it]) Q E s := by
  refine callType_codes (Q₁ := fun v s1 => v = .ref s.heap.objs.size ∧ s1 = { s with heap := s.heap.push { cls := .type "list", data := .seq #[] } }) PySem.F.called_list (PySem.F.typeCall_list_1 _) PySem.F.entry_list_init (code_list_new _ ⟨rfl, rfl⟩) ?_
  rintro v s1 ⟨rfl, rfl⟩
  have made : (s.heap.push { cls := .type "list", data := .seq #[] }).get? s.heap.objs.size = some { cls := .type "list", data := .seq #[] } := Heap.get?_push_size _ rfl
  obtain ⟨oi, ei, _⟩ := id hi
  obtain ⟨ol, el, _⟩ := id hx
  have li := Heap.lt_size ei
  have ll := Heap.lt_size el
  refine ⟨⟨_, made, rfl⟩, PySem.F.args_list_init_2 _ _, ?_⟩
  show wpAny _ _ (do let old ← Builtin.List.listItems (.ref s.heap.objs.size); Builtin.List.listUpdate (.ref s.heap.objs.size) (fun _ => #[]); letGo old.toList.reverse; Builtin.List.listExtendWith (.ref s.heap.objs.size) (.ref it) .none) _ _ _
  refine wpAny_bind ?_
  unfold Builtin.List.listItems
  refine wpAny_bind (wpAny_seqItems made rfl (wpAny_pure ?_))
  refine wpAny_bind (m := updateSeq s.heap.objs.size (fun _ => #[])) (wpAny_updateSeq made rfl ?_)
  have made2 := Heap.get?_update_self (Obj.mapSeq (fun _ => (#[] : Array Value))) made rfl
  have rest : ∀ b o, b < s.heap.objs.size → s.heap.get? b = some o → ((s.heap.push { cls := .type "list", data := .seq #[] }).update s.heap.objs.size (Obj.mapSeq (fun _ => (#[] : Array Value)))).get? b = some o :=
    fun b o hb e => (Heap.get?_update_other _ _ (Nat.ne_of_gt hb)).trans (Heap.get?_push_of_some _ e)
  refine wpAny_bind (wpAny_letGo ?_)
  refine pour_rev (A := A.in1) hh (hi.at fun o e => rest it o li e) (hx.at fun o e => rest l o ll e) n1 (Nat.ne_of_gt li) (Nat.ne_of_gt ll) hz made2 fun h' tk acc c' kept hS got => ?_
  exact ⟨rfl, k h' tk acc c' (fun b o hb e => kept b o (Nat.ne_of_lt (Heap.lt_size e)) hb (rest b o (Heap.lt_size e) e)) hS got⟩
end
end ZR

namespace L2
open PySem PySem.Spec PyProof.Rows Evl
/-- list(reversed(a list)) -/
def tLstRev (K : PySem.W.Frag) (te : TE) : TE := fun σ H Q => te σ H fun v H1 => ∃ (a : Addr) (xs : List V), v = .ref a ∧ SqL K H1 a xs ∧ ∀ q, H1 q = none → Q (.ref q) (upd H1 q (.lst xs.reverse))
theorem pe_lstRev {X : Cx} {e : Expr} {te : TE} {p p2 pos pos2 : Pos} (hc : X.calm = true) (g1 : Gl X "list") (m1 : X.mg "list" = none) (g2 : Gl X "reversed") (m2 : X.mg "reversed" = none) (he : PE X e te)
    (s1 : starEach [e] X.env = (false, eval e X.env) :: starEach [] X.env := by rfl)
    (s2 : starEach [.Call (.Name "reversed" p2) [e] [] pos2] X.env = (false, eval (.Call (.Name "reversed" p2) [e] [] pos2) X.env) :: starEach [] X.env := by rfl) :
    PE X (.Call (.Name "list" p) [.Call (.Name "reversed" p2) [e] [] pos2] [] pos) (tLstRev X.K te) := by
  refine ⟨fun pins s σ H Q I h => ?_⟩
  refine Call_ (ld_blt I g1 m1 PyProof.Rows.boot_list (PyProof.Rows.callWith_type1 (args_cons (Call_ (ld_blt I g2 m2 PyProof.Rows.boot_reversed (PyProof.Rows.callWith_type1 (args_cons (thn (he.run pins s σ H _ I h) fun u t ⟨v, H1, J, r, got⟩ => args_nil ?_) s1) s1 rfl))) s2) s2 rfl))
  obtain ⟨a, xs, ev, hq, q⟩ := got
  subst ev
  obtain rfl : u = Value.ref a := r
  obtain ⟨its, rv, pl, hz⟩ := J.list hq
  have il := pl.isList
  obtain ⟨ol, el, _⟩ := id il
  refine call_reversed_list il (args_nil ?_)
  generalize hr : revObj a ((its.toArray.size : Int) - 1) = ro
  have nf : ro.isFreed = false := by rw [← hr]; rfl
  have J2 : Inv X pins σ H1 { t with heap := t.heap.push ro } := J.kept (t' := t.toks) fun b o z => Heap.get?_push_of_some _ z
  obtain ⟨f0, f1, f2, f3, f4, f5⟩ := J.fpOk (H' := H1) (b := t.heap.objs.size) (Nat.le_refl _) (J.hok.fresh (Nat.le_refl _))
  have apart : a ≠ t.heap.objs.size := Nat.ne_of_lt (Heap.lt_size el)
  have fits : its.toArray.size ≤ sizeLine := by rw [List.size_toArray, ← rv.length]; exact hz
  refine ZR.list_of_rev (s := { t with heap := t.heap.push ro }) (J.ok.hd hc) ⟨ro, Heap.get?_push_size _ nf, by rw [← hr]; rfl, by rw [← hr]; rfl⟩ (il.push _) apart fits fun h' tk acc c hk hS hi => ?_
  have J3 : Inv X pins σ H1 { t with heap := h', toks := tk } := J2.turned (t' := tk) (fun b o hb z => hk b o hb z) f0 f1 f3 f4 f5
  have fresh : H1 (t.heap.push ro).objs.size = none := J2.hok.fresh (Nat.le_refl _)
  have new : ObjOk X.prog X.w (upd H1 (t.heap.push ro).objs.size (.lst xs.reverse)) h' (t.heap.push ro).objs.size (.lst xs.reverse) :=
    ⟨by rw [List.length_reverse]; exact hz, acc.toList, c, RT.vals_rev rv hi, by rw [Array.toArray_toList]; exact hS⟩
  have fp : ∀ b ∈ [t.heap.objs.size], FpOk X pins H1 b := fun b hb => by
    rw [List.mem_singleton.mp hb]
    exact J.fpOk (Nat.le_refl _) (J.hok.fresh (Nat.le_refl _))
  exact ⟨.ref (t.heap.push ro).objs.size, _, J2.turnedNew (t' := tk) (ch := [t.heap.objs.size]) (fun b o hb z => hk b o (fun q => hb (List.mem_singleton.mpr q)) z) fp (Nat.le_refl _) new, rfl, q _ fresh⟩
end L2

/-! ### max(a list of ints, default=d) -/
namespace L2
open PySem PySem.Spec PyProof.Rows Evl
def rMaxDef (K : PySem.W.Frag) : List V → List V → Hp → VK → Prop := fun vs zs H Q => ∃ (a : Addr) (ns : List Int) (d : Int), vs = [V.ref a] ∧ zs = [V.int d] ∧ SqL K H a (ns.map V.int) ∧ Q (.int (Mx.maxD d ns)) H
theorem maxOf_int (y : Int) (ys : List Int) : PySem.W.maxOf y ys = Mx.maxD 0 (y :: ys) := by
  show ys.foldl (fun a b => if PySem.W.DatumOrd.lt a b = true then b else a) y = ys.foldl (fun a b => if a < b then b else a) y
  congr 1
  funext a b
  show (if decide (a < b) = true then b else a) = if a < b then b else a
  by_cases h : a < b
  · rw [if_pos h, if_pos (decide_eq_true h)]
  · rw [if_neg h, if_neg (by simpa using h)]
theorem cr_maxDef {X : Cx} (hc : X.calm = true) (hu : X.A.units + 1 < cLine) : CallRK X (.builtin "max") [Str.ofString "default"] (rMaxDef X.K) := by
  intro pins s σ H vs zs us ws Q I r rz h
  obtain ⟨a, ns, d, rfl, rfl, hs, q⟩ := h
  obtain rfl := Vals.ref1 r
  obtain ⟨w1, rfl, e1⟩ := vals1 rz
  obtain ⟨t, rfl⟩ := e1
  obtain ⟨its, rv, hl, hz⟩ := I.list hs
  refine PySem.W.max_list_datum_default (xs := ns) (I.ok.hd hc) hl.isList (PySem.W.HoldAll.of_ints rv.ints) hu (fun e h' tk k => ?_) (fun y ys i v h' tk e hi hv k => ?_)
  · subst e
    exact ⟨.int d, H, I.kept (t' := tk) k, ⟨t, rfl⟩, q⟩
  · subst e
    have em : Mx.maxD d (y :: ys) = Mx.maxD 0 (y :: ys) := rfl
    rw [em, ← maxOf_int] at q
    obtain ⟨as, rd⟩ := hv
    have ev : ∃ tk2, v = .int (PySem.W.maxOf y ys) tk2 := by
      generalize ed : PySem.W.Datum.toD (PySem.W.maxOf y ys) = dd at rd
      cases rd with
      | int n t2 =>
        cases ed
        exact ⟨t2, rfl⟩
      | _ => cases ed
    obtain ⟨t2, rfl⟩ := ev
    exact ⟨.int (PySem.W.maxOf y ys), H, I.kept (t' := tk) k, ⟨t2, rfl⟩, q⟩
end L2

/-! ### set(a list of ints) -/
namespace ZR
open PySem PySem.Spec PySem.Calls PyProof.Rows L2
section
variable {P : Program} {w : World} {A : Around} {E : Value → Shared → Prop} {s : Shared}
/-- an empty set as its maker leaves it -/
abbrev bareSet (w : World) : Obj := { cls := .type "set", dict := none, data := .set #[] 0 (.fresh 0 0 (!w.params.followText "set-order")) }
/-- what the filling of the set at S asks: from an empty set to one whose members are those of the list -/
theorem fill_set {l : Addr} {xs : Array Value} (ns : List Int) {R : Result → Shared → Prop} {S : Addr} (hh : A.handled = none) (hx : s.heap.IsList l xs) (hI : IntsAre xs.toList ns) (hb : ns.length + 1 < scanBound) (hS : s.heap.get? S = some (bareSet w)) (n1 : S ≠ l)
    (k : ∀ (h' : Heap) (tk c : Nat), SetR w h' S (fun j => decide (j ∈ ns)) c → c ≤ ns.length → (∀ b o, b ≠ S → s.heap.get? b = some o → h'.get? b = some o) → R (.ok (.ret .none)) { s with heap := h', toks := tk }) :
    wpAny (model P w) A.in1 (Builtin.«set.__init__» ⟨[.ref S, .ref l], []⟩)
      (fun fin s' => match fin with | .done f => R (.ok f) s' | .again c' => c'.quiet = true ∧ codeAny (model P w) A c' R s') (fun e s' => R (.error e) s') s := by
  have many : xs.size = ns.length := (Array.length_toList (xs := xs)).symm.trans (IntsAre.length hI)
  have tS : s.TypeIs (.ref S) "set" := ⟨_, hS, rfl⟩
  obtain ⟨⟨oc, od, odt, osl⟩, el, ec, nl, ed⟩ := id hx
  simp only at ec ed
  subst ec ed
  have g1 := F.sub_list_set
  have g2 := F.sub_list_frozenset
  have g3 : (Value.type "list" == Value.type "dict") = false := by decide
  have lS := Heap.lt_size hS
  have ll := Heap.lt_size el
  unfold Builtin.«set.__init__» noKeywords Builtin.Frozenset.updateFrom
  generalize hp : pyIter = PI
  wp_walk
  subst hp
  refine wpAny_pyIter_list hx (wpAny_bind (wpAny_runValue ?_))
  have hA : A.in1.in1.handled = none := hh
  have out : S ∉ [s.heap.objs.size, l] := fun z => by
    rcases List.mem_cons.mp z with z | z
    · exact Nat.ne_of_lt lS z
    · exact n1 (List.mem_singleton.mp z)
  have what : ∀ (i : Nat) (v : Value), xs[i]? = some v → ∃ k t, ns[i]? = some k ∧ v = .int k t := fun i v e => by
    obtain ⟨t, z⟩ := PyProof.Rows.IntsAre.int_at hI i v ((Array.getElem?_toList ..).trans e)
    have hi : i < ns.length := many ▸ (Array.getElem?_eq_some_iff.mp e).1
    exact ⟨_, t, List.getElem?_eq_getElem hi, z.trans (by rw [List.getD_eq_getElem?_getD, List.getElem?_eq_getElem hi]; rfl)⟩
  refine set_update_ints ((Walks.list hA _ l (Nat.ne_of_lt ll) xs).toS) S out ns many hb what (xs.size - 0) 0 _ (by omega) (Nat.zero_le _) ⟨⟨_, Heap.get?_push_size _ rfl, rfl, rfl⟩, hx.push _⟩ ⟨0, Nat.le_refl 0, setR_new_at (Heap.get?_push_of_some _ hS)⟩ ?_
  intro s2 c mv hc got
  rw [Moved.eq_with mv]
  show wpAny _ _ _ _ _ _
  refine wpAny_pure ?_
  show wpAny _ _ (ret Value.none) _ _ _
  refine wpAny_pure (k _ _ c got (by omega) fun b o hb e => mv.heap b o (fun z => ?_) (Heap.get?_push_of_some _ e))
  rcases List.mem_cons.mp z with z | z
  · exact hb z
  · exact absurd (Heap.lt_size e) (by rw [List.mem_singleton.mp z]; exact Nat.lt_irrefl _)
end
end ZR

namespace ZR
open PySem PySem.Spec PySem.Calls PyProof.Rows L2
section
variable {P : Program} {w : World} {A : Around} {E : Value → Shared → Prop} {s : Shared}
theorem set_of_list {l : Addr} {xs : Array Value} (ns : List Int) {Q : Value → Shared → Prop} (hh : A.handled = none) (hx : s.heap.IsList l xs) (hI : IntsAre xs.toList ns) (hb : ns.length + 1 < scanBound)
    (k : ∀ (h' : Heap) (tk c : Nat), SetR w h' s.heap.objs.size (fun j => decide (j ∈ ns)) c → c ≤ ns.length → (∀ b o, s.heap.get? b = some o → h'.get? b = some o) → Q (.ref s.heap.objs.size) { s with heap := h', toks := tk }) :
    wpAny (model P w) A (call (.type "set") [.ref l]) Q E s := by
  obtain ⟨m1, m2, mro⟩ := F.called_set.mro
  have f1 := F.called_set.made
  have f2 := F.called_set.sub
  have f3 := F.called_set.notType
  have f4 := F.called_set.canCreate
  have f5 := F.typeCall_set_1 (.ref l)
  refine wpAny_call (codeAny_of_tree ?_)
  show wpAny _ _ (callAny (.type "set") ⟨[.ref l], []⟩) _ _ _
  refine wpAny_pure ⟨Code.quiet_builtin _ (by decide +kernel), codeAny_builtin F.entry_type_call ?_⟩
  rw [Around.under_plain (weight_type_call_type "set" [Value.ref l] []) rfl]
  repeat any_goals (first | wp_step | assumption)
  refine codeAny_mono (code_set_led1 (.ref l) (E := E) (Q₁ := fun v s1 => v = .ref s.heap.objs.size ∧ s1 = { s with heap := s.heap.push (bareSet w) }) ⟨rfl, rfl⟩) fun r s1 hr => ?_
  match r, hr with
  | .error e, hr => exact hr
  | .ok .next, hr => exact hr.elim
  | .ok .brk, hr => exact hr.elim
  | .ok .cont, hr => exact hr.elim
  | .ok (.ret v), hr =>
    obtain ⟨rfl, rfl⟩ := hr
    have got : (s.heap.push (bareSet w)).get? s.heap.objs.size = some (bareSet w) := Heap.get?_push_size _ rfl
    have ty : Shared.TypeIs { s with heap := s.heap.push (bareSet w) } (.ref s.heap.objs.size) "set" := ⟨_, got, rfl⟩
    have g1 := F.called_set.init.lookup
    have g2 := F.called_set.init.bind (.ref s.heap.objs.size)
    obtain ⟨ol, el, _⟩ := id hx
    repeat any_goals (first | wp_step | assumption)
    refine codeAny_mono (codeAny_call_builtin (R := wants (fun r s2 => r = .none ∧ Q (.ref s.heap.objs.size) s2) E) F.called_set.init.plain F.entry_set_init (check_set_init_1 ty ?_)) fun r2 s2 hr2 => ?_
    · refine fill_set (s := { s with heap := s.heap.push (bareSet w) }) ns (show A.in1.in1.handled = none from hh) (hx.push _) hI hb got (Nat.ne_of_gt (Heap.lt_size el)) fun h' tk c R hc kept => ?_
      exact ⟨rfl, k h' tk c R hc fun b o e => kept b o (Nat.ne_of_lt (Heap.lt_size e)) (Heap.get?_push_of_some _ e)⟩
    · match r2, hr2 with
      | .error e, hr2 => exact hr2
      | .ok .next, hr2 => exact hr2.elim
      | .ok .brk, hr2 => exact hr2.elim
      | .ok .cont, hr2 => exact hr2.elim
      | .ok (.ret v2), hr2 =>
        obtain ⟨rfl, hq⟩ := hr2
        repeat any_goals (first | wp_step | assumption)
end
end ZR

namespace L2
open PySem PySem.Spec PySem.Calls PyProof.Rows Evl
/-- set(a list of ints): a set of its members -/
def rSetI2 (K : PySem.W.Frag) (w : World) : List V → Hp → VK → Prop := fun vs H Q => ∃ (p : Addr) (ns : List Int), vs = [.ref p] ∧ SqL K H p (ns.map V.int) ∧ ns.length ≤ 1000 ∧ ∀ a n, H a = none → Q (.ref a) (upd H a (SetO w a (fun j => decide (j ∈ ns)) n))
theorem cr_setL {X : Cx} (hc : X.calm = true) : CallR X (.type "set") (rSetI2 X.K X.w) := by
  intro pins s σ H vs us Q I r h
  obtain ⟨p, ns, rfl, hs, hz, q⟩ := h
  rw [Vals.ref1 r]
  obtain ⟨its, rv, hl, _⟩ := I.list hs
  refine ZR.set_of_list ns (I.ok.hd hc) hl.isList rv.ints (by unfold scanBound; omega) fun h' tk c R _ kept => ?_
  exact ⟨.ref s.heap.objs.size, upd H s.heap.objs.size (SetO X.w s.heap.objs.size (fun j => decide (j ∈ ns)) c), I.laid (t' := tk) kept (Nat.le_refl _) (setO_new R), rfl, q _ c (I.hok.fresh (Nat.le_refl _))⟩
/-- sorted(a set of ints), of any size -/
def rSortedSetA (w : World) : List V → Hp → VK → Prop := fun vs H Q => ∃ (a : Addr) (S : Int → Bool) (n : Nat), vs = [V.ref a] ∧ H a = some (SetO w a S n) ∧
  ∀ (ns : List Int) (p : Addr), ns.Pairwise (· < ·) → (∀ k : Int, k ∈ ns ↔ S k = true) → H p = none → Q (.ref p) (upd H p (.lst (ns.map V.int)))
theorem cr_sortedSetA {X : Cx} (hc : X.calm = true) : CallR X (.builtin "sorted") (rSortedSetA X.w) := by
  intro pins s σ H vs us Q I r h
  obtain ⟨a, S, n, rfl, ha, q⟩ := h
  rw [Vals.ref1 r]
  obtain ⟨o, es, ep, t, ho, hex, hd, good, nd, mem, few, fit, hn, ris, ord⟩ := setO_get I ha
  refine Calls.call_function_entry kind_sorted plain_sorted entry_sorted (args_sorted1 (.ref a)) ?_
  unfold Builtin.«sorted»
  refine wpAny_bind (m := checkCount "sorted" 1 1 _) (wpAny_pure ?_)
  refine wpAny_bind (collect_set (A := X.A.in1) (I.ok.hd hc) ⟨o, ho, hex.1, hd⟩ fit few ris ord fun s1 vs kept grow sg so perm => ?_)
  have szv : vs.length = es.size := (perm.length_eq.trans (List.length_map ..)).trans Array.length_toList
  have small : vs.length ≤ sizeLine := by
    rw [szv, sizeLine_eq]
    have := few
    unfold scanBound at this
    omega
  have are : IntsAre vs (vs.map SrtO.iv) := SrtO.ints_iv fun v hv => by
    obtain ⟨e, he, ev⟩ := List.mem_map.mp (perm.mem_iff.mp hv)
    obtain ⟨k, tk, h1, _⟩ := good e he
    exact ⟨k, tk, ev.symm.trans h1⟩
  refine wpAny_bind (wpAny_newList ?_ small)
  have laidL : (s1.heap.push (seqObj "list" vs.toArray 0)).get? s1.heap.objs.size = some (seqObj "list" vs.toArray 0) := Heap.get?_push_size _ rfl
  refine wpAny_bind (wpAny_holding (wpAny_call_entry slot_list_sort ⟨_, laidL, rfl⟩ entry_list_sort (SrtO.list_sort_ord SrtO.swo_int laidL small (fun h2 => SrtO.ints_sortable are h2) fun out h1 h2 => ⟨_, rfl, ?_⟩) (args_list_sort _)))
  obtain ⟨o1, o2, o3⟩ := SrtO.ints_out are h1 h2
  obtain ⟨c, at1⟩ := PyProof.Rows.sortedHeap_at (vs := vs) (out := out.toArray) laidL
  have keys : (vs.map SrtO.iv).Perm (es.toList.map keyOf) := by
    have z := perm.map SrtO.iv
    rw [List.map_map] at z
    have ee : es.toList.map (SrtO.iv ∘ fun x => x.2) = es.toList.map keyOf := List.map_congr_left fun e he => by
      obtain ⟨k, tk, h1, h2⟩ := good e he
      exact (congrArg SrtO.iv h1).trans (by unfold keyOf; rw [h1]; rfl)
    rw [ee] at z
    exact z
  have all := o2.trans keys
  have kept2 : ∀ b u, s.heap.get? b = some u → (PyProof.Rows.sortedHeap (s1.heap.push (seqObj "list" vs.toArray 0)) s1.heap.objs.size vs out.toArray).get? b = some u := fun b u e => by
    have e1 := kept b u e
    have lt := Heap.lt_size e1
    rw [PyProof.Rows.sortedHeap_old (Nat.ne_of_lt lt) (by rw [Heap.size_push]; exact Nat.lt_succ_of_lt lt)]
    exact Heap.get?_push_of_some _ e1
  have hN : H s1.heap.objs.size = none := I.hok.fresh grow
  have few2 : ((out.map SrtO.iv).map V.int).length ≤ sizeLine := by
    rw [List.length_map, o2.length_eq, List.length_map]
    exact small
  refine wpAny_pure ⟨_, rfl, ?_⟩
  obtain ⟨sh, sgens, sd, st, sos⟩ := s1
  have eo : sos = s.os := so
  have eg : sgens = s.gens := sg
  subst eo eg
  have J : Inv X pins σ (upd H sh.objs.size (.lst ((out.map SrtO.iv).map V.int))) { s with heap := PyProof.Rows.sortedHeap (sh.push (seqObj "list" vs.toArray 0)) sh.objs.size vs out.toArray, gens := s.gens, drawn := sd, toks := st } :=
    I.call (ch := []) (Un.laid kept2 grow hN) (I.hok.laid kept2 grow ⟨few2, out, c, vals_of_ints o1, at1⟩) I.bare (fun _ z => nomatch z)
  exact ⟨.ref sh.objs.size, _, J, rfl, q _ _ (lt_of_le_nodup _ o3 (all.nodup_iff.mpr nd)) (fun k => (all.mem_iff.trans (mem k).symm)) hN⟩
end L2
namespace L2
open PySem PySem.Spec PyProof.Rows
/-! ### == of data or of two empty dicts -/
def rEqOr (K : PySem.W.Frag) : R2 := fun x y H Q => rEqD K x y H Q ∨ ∃ a b, x = .ref a ∧ y = .ref b ∧ H a = some (.dK []) ∧ H b = some (.dK []) ∧ Q (.bl true) H
theorem op_eqOr {X : Cx} (hu : X.A.units + 64 < cLine) : OpR X (compareOp .Eq) (rEqOr X.K) := by
  intro pins s σ H x y v u Q I rx ry h
  rcases h with h | ⟨a, b, e1, e2, h1, h2, q⟩
  · exact op_eqD hu pins s σ H x y v u Q I rx ry h
  · exact op_eq_dict (by omega) pins s σ H x y v u Q I rx ry ⟨a, b, [], e1, e2, h1, h2, List.nodup_nil, (fun p hp => by cases hp), q⟩
end L2

set_option Elab.async false
set_option linter.all false
set_option maxRecDepth 100000
set_option maxHeartbeats 4000000
/-! What the rules' readings evaluate to (over HandS.Evl): comprehensions, sums, sorts. -/
namespace Z
open PySem PySem.Spec PyProof.Rows L2 Evl
section
variable {K : PySem.W.Frag} {σ : L2.St} {H : Hp} {tl te ta tb : TE} {tt : TT}
theorem et_yes : EvT tYes σ H true := fun H1 _ _ q => q H1 (Ex.refl H1)
theorem given_all {α : Type} (xs : List α) (g : α → V) (v : Nat → V) (h : ∀ i x, xs[i]? = some x → v i = g x) : given xs.length (fun _ => true) v = xs.map g := by
  unfold given
  rw [List.filter_eq_self.mpr (fun _ _ => rfl)]
  apply List.ext_getElem?
  intro i
  rw [List.getElem?_map, List.getElem?_map]
  by_cases hi : i < xs.length
  · rw [List.getElem?_range hi, List.getElem?_eq_getElem hi]
    show some (v i) = some (g xs[i])
    rw [h i xs[i] (List.getElem?_eq_getElem hi)]
  · rw [List.getElem?_eq_none (by simpa using hi), List.getElem?_eq_none (by omega)]
    rfl
theorem given_some {α : Type} (xs : List α) (p : α → Bool) (g : α → V) (f : Nat → Bool) (v : Nat → V) (hf : ∀ i x, xs[i]? = some x → f i = p x) (h : ∀ i x, xs[i]? = some x → v i = g x) : given xs.length f v = (xs.filter p).map g := by
  suffices ∀ n, n ≤ xs.length → given n f v = ((xs.take n).filter p).map g by
    rw [this xs.length (Nat.le_refl _), List.take_length]
  intro n
  induction n with
  | zero => intro _; rfl
  | succ n ih =>
    intro hn
    have hx : xs[n]? = some xs[n] := List.getElem?_eq_getElem (by omega)
    rw [List.take_add_one, hx, Option.toList_some, List.filter_append, List.map_append, ← ih (by omega)]
    cases hp : p xs[n] with
    | true =>
      rw [given_yes ((hf n _ hx).trans hp), h n _ hx, List.filter_cons, if_pos hp]
      rfl
    | false =>
      rw [given_no ((hf n _ hx).trans hp), List.filter_cons, if_neg (by rw [hp]; decide)]
      exact (List.append_nil _).symm
/-- [e for x in xs], xs a list of ints -/
theorem el_mapI {a : Addr} {ns : List Int} {j : Nat} {vs : List Nat} (g : Int → V) (h : Ev tl σ H (.ref a)) (hx : SqL K H a (ns.map V.int)) (hz : ns.length ≤ 40000) (hw : ∀ x, wipe ((wipe σ vs).set j (some x)) vs = wipe σ vs)
    (he : ∀ n H1, Ex H H1 → n ∈ ns → Ev te ((wipe σ vs).set j (some (.int n))) H1 (g n)) : EvL (tLc (iList K tl) (gName j) tYes te vs) σ H (ns.map g) := by
  have q := el_lcL (K := K) (tl := tl) (te := te) (t := tYes) (j := j) (vs := vs) (xs := ns.map V.int) (fun _ => true) (fun i => g (ns.getD i 0)) h hx (by rw [List.length_map]; exact hz) hw (fun _ _ _ _ _ => et_yes) (fun i x H1 e hi _ => by
    rw [List.getElem?_map] at hi
    cases hn : ns[i]? with
    | none => rw [hn] at hi; cases hi
    | some n =>
      rw [hn] at hi
      have ex := (Option.some.inj hi).symm
      rw [ex, List.getD_eq_getElem?_getD, hn]
      exact he n H1 e (List.mem_of_getElem? hn))
  rw [List.length_map, given_all ns g _ (fun i x hi => by rw [List.getD_eq_getElem?_getD, hi]; rfl)] at q
  exact q
/-- .. with a test -/
theorem el_mapIf {a : Addr} {ns : List Int} {j : Nat} {vs : List Nat} (p : Int → Bool) (g : Int → V) (h : Ev tl σ H (.ref a)) (hx : SqL K H a (ns.map V.int)) (hz : ns.length ≤ 40000) (hw : ∀ x, wipe ((wipe σ vs).set j (some x)) vs = wipe σ vs)
    (ht : ∀ n H1, Ex H H1 → n ∈ ns → EvT tt ((wipe σ vs).set j (some (.int n))) H1 (p n)) (he : ∀ n H1, Ex H H1 → n ∈ ns → p n = true → Ev te ((wipe σ vs).set j (some (.int n))) H1 (g n)) : EvL (tLc (iList K tl) (gName j) tt te vs) σ H ((ns.filter p).map g) := by
  have at' : ∀ {i : Nat} {x : V}, (ns.map V.int)[i]? = some x → ∃ n, ns[i]? = some n ∧ x = .int n ∧ ns.getD i 0 = n := fun {i x} hi => by
    rw [List.getElem?_map] at hi
    cases hn : ns[i]? with
    | none => rw [hn] at hi; cases hi
    | some n =>
      rw [hn] at hi
      exact ⟨n, rfl, (Option.some.inj hi).symm, by rw [List.getD_eq_getElem?_getD, hn]; rfl⟩
  have q := el_lcL (K := K) (tl := tl) (te := te) (t := tt) (j := j) (vs := vs) (xs := ns.map V.int) (fun i => p (ns.getD i 0)) (fun i => g (ns.getD i 0)) h hx (by rw [List.length_map]; exact hz) hw (fun i x H1 e hi => by
    obtain ⟨n, hn, rfl, en⟩ := at' hi
    rw [en]
    exact ht n H1 e (List.mem_of_getElem? hn)) (fun i x H1 e hi hp => by
    obtain ⟨n, hn, rfl, en⟩ := at' hi
    rw [en] at hp ⊢
    exact he n H1 e (List.mem_of_getElem? hn) hp)
  rw [List.length_map, given_some ns p g _ _ (fun i x hi => by rw [List.getD_eq_getElem?_getD, hi]; rfl) (fun i x hi => by rw [List.getD_eq_getElem?_getD, hi]; rfl)] at q
  exact q
theorem map_int (f : Int → Int) (ns : List Int) : ns.map (fun n => V.int (f n)) = (ns.map f).map V.int := by rw [List.map_map]; rfl
theorem map_bl (f : Int → Bool) (ns : List Int) : ns.map (fun n => V.bl (f n)) = (ns.map f).map V.bl := by rw [List.map_map]; rfl
theorem el_eq {xs ys : List V} (h : EvL te σ H xs) (e : xs = ys) : EvL te σ H ys := e ▸ h
/-- [e for k in range(n)] -/
theorem el_mapR {t1 : TA} {n : Nat} {j : Nat} {vs : List Nat} (g : Nat → V) (h : EvA t1 σ H [.int n]) (hn : n ≤ 40000) (hw : ∀ x, wipe ((wipe σ vs).set j (some x)) vs = wipe σ vs)
    (he : ∀ i H1, Ex H H1 → i < n → Ev te ((wipe σ vs).set j (some (.int (i : Int)))) H1 (g i)) : EvL (tLc (iRng1 t1) (gName j) tYes te vs) σ H ((List.range n).map g) := by
  have q := el_lcR1 (te := te) (t := tYes) (j := j) (vs := vs) (fun _ => true) g h ⟨by omega, by omega⟩ hw (fun _ _ _ _ => et_yes) (fun i H1 e hi _ => he i H1 e (by omega))
  have e := given_all (List.range n) g g (fun i x hi => by
    have := (List.getElem?_eq_some_iff.mp hi)
    obtain ⟨h1, h2⟩ := this
    rw [← h2, List.getElem_range])
  rw [List.length_range] at e
  rw [Int.toNat_natCast, e] at q
  exact q
theorem el_mapRIf {t1 : TA} {n : Nat} {j : Nat} {vs : List Nat} (p : Nat → Bool) (g : Nat → V) (h : EvA t1 σ H [.int n]) (hn : n ≤ 40000) (hw : ∀ x, wipe ((wipe σ vs).set j (some x)) vs = wipe σ vs)
    (ht : ∀ i H1, Ex H H1 → i < n → EvT tt ((wipe σ vs).set j (some (.int (i : Int)))) H1 (p i)) (he : ∀ i H1, Ex H H1 → i < n → p i = true → Ev te ((wipe σ vs).set j (some (.int (i : Int)))) H1 (g i)) : EvL (tLc (iRng1 t1) (gName j) tt te vs) σ H (((List.range n).filter p).map g) := by
  have q := el_lcR1 (te := te) (t := tt) (j := j) (vs := vs) p g h ⟨by omega, by omega⟩ hw (fun i H1 e hi => ht i H1 e (by omega)) (fun i H1 e hi hp => he i H1 e (by omega) hp)
  rw [Int.toNat_natCast] at q
  exact q
theorem ev_sum {ns : List Int} (h : EvL te σ H (ns.map V.int)) : Ev (tCB (rSum K) (tCons te tNil)) σ H (.int ns.sum) := fun H1 e Q q =>
  h H1 e _ fun p H2 _ e2 hp => ⟨p, ns, rfl, SqL.of hp, q H2 e2⟩
theorem ev_all {bs : List Bool} (h : EvL te σ H (bs.map V.bl)) : Ev (tCB (rAll K) (tCons te tNil)) σ H (.bl (bs.all id)) := fun H1 e Q q =>
  h H1 e _ fun p H2 _ e2 hp => ⟨p, bs, rfl, SqL.of hp, q H2 e2⟩
theorem el_rev {a : Addr} {xs : List V} (h : Ev te σ H (.ref a)) (hx : SqL K H a xs) : EvL (tLstRev K te) σ H xs.reverse := fun H1 e Q q =>
  h H1 e _ fun H2 e2 => ⟨a, xs, rfl, ex_l (e.trans e2) hx, fun p hp => q p _ (fresh_back e2 hp) (e2.trans (Ex.new hp)) upd_same⟩
theorem ev_maxDef {a : Addr} {ns : List Int} {d : Int} (h : Ev te σ H (.ref a)) (hx : SqL K H a (ns.map V.int)) (hd : Ev ta σ H (.int d)) : Ev (tCKw (rMaxDef K) (tCons te tNil) (tCons ta tNil)) σ H (.int (Mx.maxD d ns)) := fun H1 e Q q =>
  h H1 e _ fun H2 e2 => hd H2 (e.trans e2) _ fun H3 e3 => ⟨a, ns, d, rfl, rfl, ex_l ((e.trans e2).trans e3) hx, q H3 (e2.trans e3)⟩
theorem ev_maxDefL {ns : List Int} {d : Int} (h : EvL te σ H (ns.map V.int)) (hd : ∀ H1, Ex H H1 → Ev ta σ H1 (.int d)) : Ev (tCKw (rMaxDef K) (tCons te tNil) (tCons ta tNil)) σ H (.int (Mx.maxD d ns)) := fun H1 e Q q =>
  h H1 e _ fun p H2 _ e2 hp => hd H2 (e.trans e2) H2 (Ex.refl _) _ fun H3 e3 => ⟨p, ns, d, rfl, rfl, SqL.of (e3 _ _ hp), q H3 (e2.trans e3)⟩
end

/-! ### a call as a statement, as a value that is told by its promise -/
section
variable {σ : L2.St} {H : Hp} {ta : TA} {sp : Sp} {dvs vs : List V} {E : XK} {D : Ends} {tz : TS} {i : Nat}
theorem q_callD (h : EvA ta σ H vs) (k : ∀ H1, Ex H H1 → sp (vs ++ dvs) H1 (fun _ H2 => tz D σ H2) E) : tSeq (tDrop (tCall sp dvs E ta)) tz D σ H := h H (Ex.refl H) _ fun H1 e1 => k H1 e1
theorem q_callA (h : EvA ta σ H vs) (k : ∀ H1, Ex H H1 → sp (vs ++ dvs) H1 (fun v H2 => tz D (σ.set i (some v)) H2) E) : tSeq (tAsg (tCall sp dvs E ta) (gName i)) tz D σ H := h H (Ex.refl H) _ fun H1 e1 => k H1 e1
theorem q_callG {g : TG} (h : EvA ta σ H vs) (k : ∀ H1, Ex H H1 → sp (vs ++ dvs) H1 (fun v H2 => g v σ H2 fun σ' H3 => tz D σ' H3) E) : tSeq (tAsg (tCall sp dvs E ta) g) tz D σ H := h H (Ex.refl H) _ fun H1 e1 => k H1 e1
theorem q_pairL {te1 te2 : TE} {xs ys : List V} (h1 : EvL te1 σ H xs) (h2 : EvL te2 σ H ys) (k : ∀ p q r H1, H p = none → H q = none → H r = none → p ≠ q → Ex H H1 → H1 p = some (.lst xs) → H1 q = some (.lst ys) → H1 r = some (.lst [.ref p, .ref q]) → tz D (σ.set i (some (.ref r))) H1) :
    tSeq (tAsg (tLst (tCons te1 (tCons te2 tNil))) (gName i)) tz D σ H := h1 H (Ex.refl H) _ fun p H1 np e1 hp => h2 H1 e1 _ fun q H2 nq e2 hq => ⟨(show 2 ≤ sizeLine by decide), fun r hr =>
  k p q r _ np (fresh_back e1 nq) (fresh_back (e1.trans e2) hr) (fun h => by rw [h, nq] at hp; cases hp) ((e1.trans e2).trans (Ex.new hr)) (ex_to (Ex.new hr) (ex_to e2 hp)) (ex_to (Ex.new hr) hq) upd_same⟩
theorem q_callLA {te : TE} {xs : List V} (h : EvL te σ H xs) (hr : ∀ H1, Ex H H1 → EvA ta σ H1 vs) (k : ∀ p H1, H p = none → Ex H H1 → H1 p = some (.lst xs) → sp ((.ref p :: vs) ++ dvs) H1 (fun v H2 => tz D (σ.set i (some v)) H2) E) :
    tSeq (tAsg (tCall sp dvs E (tCons te ta)) (gName i)) tz D σ H := h H (Ex.refl H) _ fun p H1 hp e1 h1 => hr H1 e1 H1 (Ex.refl _) _ fun H2 e2 => k p H2 hp (e1.trans e2) (e2 p _ h1)
theorem s_callLA {te : TE} {xs : List V} (h : EvL te σ H xs) (hr : ∀ H1, Ex H H1 → EvA ta σ H1 vs) (k : ∀ p H1, H p = none → Ex H H1 → H1 p = some (.lst xs) → sp ((.ref p :: vs) ++ dvs) H1 (fun v H2 => D.nx (σ.set i (some v)) H2) E) :
    tAsg (tCall sp dvs E (tCons te ta)) (gName i) D σ H := h H (Ex.refl H) _ fun p H1 hp e1 h1 => hr H1 e1 H1 (Ex.refl _) _ fun H2 e2 => k p H2 hp (e1.trans e2) (e2 p _ h1)
theorem s_callR (h : EvA ta σ H vs) (k : ∀ H1, Ex H H1 → sp (vs ++ dvs) H1 D.rt E) : tRet (tCall sp dvs E ta) D σ H := h H (Ex.refl H) _ fun H1 e1 => k H1 e1
end

/-! ### calls that are handed a new list -/
section
variable {σ : L2.St} {H : Hp} {ta te : TE} {tr : TA} {sp : Sp} {vs xs ys : List V} {v z : V} {E : XK} {D : Ends} {tz : TS} {tu : TS}
theorem ev_call1L (h : EvL te σ H xs) (hr : EvA tr σ H vs) (hs : ∀ p H1, Ex H H1 → H1 p = some (.lst xs) → SpV sp (.ref p :: vs) H1 z) : Ev (tCall sp [] E (tCons te tr)) σ H z := fun H1 e Q q =>
  h H1 e _ fun p H2 _ e2 h2 => hr H2 (e.trans e2) _ fun H3 e3 => by
    show sp ((.ref p :: vs) ++ []) H3 Q E
    rw [List.append_nil]
    exact hs p H2 (e.trans e2) h2 H3 e3 Q (fun H4 e4 => q H4 ((e2.trans e3).trans e4)) E
theorem el_call1L (h : EvL te σ H xs) (hr : EvA tr σ H vs) (hs : ∀ p H1, Ex H H1 → H1 p = some (.lst xs) → SpL sp (.ref p :: vs) H1 ys) : EvL (tCall sp [] E (tCons te tr)) σ H ys := fun H1 e Q q =>
  h H1 e _ fun p H2 _ e2 h2 => hr H2 (e.trans e2) _ fun H3 e3 => by
    show sp ((.ref p :: vs) ++ []) H3 Q E
    rw [List.append_nil]
    exact hs p H2 (e.trans e2) h2 H3 e3 Q (fun r H4 hr e4 => q r H4 (fresh_back (e2.trans e3) hr) ((e2.trans e3).trans e4)) E
theorem ev_callVL (ha : Ev ta σ H v) (h : EvL te σ H xs) (hs : ∀ p H1, Ex H H1 → H1 p = some (.lst xs) → SpV sp [v, .ref p] H1 z) : Ev (tCall sp [] E (tCons ta (tCons te tNil))) σ H z := fun H1 e Q q =>
  ha H1 e _ fun H2 e2 => h H2 (e.trans e2) _ fun p H3 _ e3 h3 => hs p H3 ((e.trans e2).trans e3) h3 H3 (Ex.refl _) Q (fun H4 e4 => q H4 ((e2.trans e3).trans e4)) E
/-- for j in range(n - 1, -1, -1) -/
theorem q_forDown {t3 : TA} {j n : Nat} (h : EvA t3 σ H [.int ((n : Int) - 1), .int (-1), .int (-1)]) (hn : n ≤ 100000) (Pv : Nat → L2.St → Hp → Prop) (h0 : ∀ H1, Ex H H1 → Pv 0 σ H1)
    (hs : ∀ (i : Nat) σ' H', i < n → Pv i σ' H' → tu { D with nx := Pv (i + 1), ct := Pv (i + 1), bk := tz D } (σ'.set j (some (.int ((n - 1 - i : Nat) : Int)))) H') (hd : ∀ σ' H', Pv n σ' H' → tz D σ' H') : tSeq (tFor (iRng3 t3) (gName j) tu) tz D σ H :=
  h H (Ex.refl H) _ fun H1 e => ⟨_, _, _, n, rfl, by
    have g := RgC.neg (i := (n : Int) - 1) (j := -1) (by omega) (by omega) (by decide) (by decide)
    rw [show ((n : Int) - 1 - -1).toNat = n by omega] at g
    exact g, for_rangeC (D := { D with nx := tz D }) Pv (h0 H1 e) (fun i σ' H' hi p => by
    have e2 : (n : Int) - 1 + (i : Nat) * -1 = ((n - 1 - i : Nat) : Int) := by omega
    rw [e2]
    exact hs i σ' H' hi p) hd⟩
end

/-! ### methods of lists as statements -/
section
variable {K : PySem.W.Frag} {σ : L2.St} {H : Hp} {to te : TE} {D : Ends} {tz : TS} {i : Nat} {l : Addr}
/-- x = l.pop() -/
theorem q_pop {xs : List V} {y : V} (hl : H l = some (.lst (xs ++ [y]))) (ho : Ev to σ H (.ref l)) (k : ∀ H1, Ex H H1 → tz D (σ.set i (some y)) (upd H1 l (.lst xs))) :
    tSeq (tAsg (tBM0 K "list" rPop to) (gName i)) tz D σ H := ho H (Ex.refl H) _ fun H1 e1 =>
  ⟨.inl ⟨rfl, _, SqL.of (e1 l _ hl)⟩, l, xs ++ [y], y, rfl, rfl, e1 l _ hl, by simp, by rw [List.dropLast_concat]; exact k H1 e1⟩
end

/-! ### more values -/
section
variable {K : PySem.W.Frag} {σ : L2.St} {H : Hp} {tl te ta tb : TE} {tt : TT}
theorem rv_notN {x : V} : RV (fun x y H Q => y = .non ∧ Q (.bl (!decide (x = .non))) H) x .non H (.bl (!decide (x = .non))) := fun H1 _ _ q => ⟨rfl, q H1 (Ex.refl H1)⟩
theorem rv_isN {x : V} : RV (fun x y H Q => y = .non ∧ Q (.bl (decide (x = .non))) H) x .non H (.bl (decide (x = .non))) := fun H1 _ _ q => ⟨rfl, q H1 (Ex.refl H1)⟩
def cutI (ns : List Int) (lo hi : Option Int) : List Int := (ns.drop (HT.sIx ns.length 0 lo)).take (HT.sIx ns.length ns.length hi - HT.sIx ns.length 0 lo)
theorem cut_ints (ns : List Int) (lo hi : Option Int) : cutV (ns.map V.int) lo hi = (cutI ns lo hi).map V.int := by
  unfold cutV cutI
  rw [List.map_take, List.map_drop, List.length_map]
theorem cutI_le (ns : List Int) (lo hi : Option Int) : (cutI ns lo hi).length ≤ ns.length := by
  unfold cutI
  rw [List.length_take, List.length_drop]
  omega
theorem el_slI {tl th : TO} {a : Addr} {ns : List Int} {lo hi : Option Int} (h : Ev te σ H (.ref a)) (h1 : EvO tl σ H lo) (h2 : EvO th σ H hi) (hs : SqL K H a (ns.map V.int)) : EvL (tSl (rSlL K) te tl th) σ H ((cutI ns lo hi).map V.int) :=
  el_eq (el_sl h h1 h2 hs) (cut_ints ns lo hi)
theorem nat_at {l : List Nat} {i p : Nat} (h : l[i]? = some p) : ((Mx.nat l).map V.int)[i]? = some (.int (p : Int)) := by
  unfold Mx.nat
  rw [List.getElem?_map, List.getElem?_map, h]
  rfl
theorem nat_snoc (l : List Nat) (p : Nat) : (Mx.nat (l ++ [p])).map V.int = (Mx.nat l).map V.int ++ [.int (p : Int)] := by
  unfold Mx.nat
  rw [List.map_append, List.map_append]
  rfl
theorem nat_cat (l m : List Nat) : (Mx.nat (l ++ m)).map V.int = (Mx.nat l).map V.int ++ (Mx.nat m).map V.int := by
  unfold Mx.nat
  rw [List.map_append, List.map_append]
theorem nat_rev (l : List Nat) : ((Mx.nat l).map V.int).reverse = (Mx.nat l.reverse).map V.int := by
  unfold Mx.nat
  rw [List.map_reverse, List.map_reverse]
theorem int_mem {ns : List Int} {i : Nat} {x : V} (h : (ns.map V.int)[i]? = some x) : ∃ n, ns[i]? = some n ∧ x = .int n := by
  rw [List.getElem?_map] at h
  cases e : ns[i]? with
  | none => rw [e] at h; cases h
  | some n => rw [e] at h; exact ⟨n, rfl, (Option.some.inj h).symm⟩
theorem cut_most {ns : List Int} {i j : Nat} : (cutI ns (some (i : Int)) (some (j : Int))).length ≤ j - i := by
  unfold cutI
  rw [List.length_take]
  have e2 : HT.sIx ns.length 0 (some (i : Int)) = min i ns.length := HT.sIx_nat ns.length 0 i
  have e3 : HT.sIx ns.length ns.length (some (j : Int)) = min j ns.length := HT.sIx_nat ns.length ns.length j
  rw [e2, e3, List.length_drop]
  omega
theorem nat_len (l : List Nat) : (Mx.nat l).length = l.length := by unfold Mx.nat; rw [List.length_map]
theorem nat_up (l : List Nat) : (Mx.nat l).map (fun z => V.int (z + 1)) = (Mx.nat (Mx.up l)).map V.int := by
  unfold Mx.nat Mx.up
  rw [List.map_map, List.map_map, List.map_map]
  rfl
theorem nat_up2 (l : List Nat) : (Mx.nat l).map (fun z => V.int (z + 2)) = (Mx.nat (Mx.up (Mx.up l))).map V.int := by
  rw [← nat_up]
  unfold Mx.nat Mx.up
  rw [List.map_map, List.map_map, List.map_map]
  refine List.map_congr_left fun p _ => ?_
  show V.int ((p : Int) + 2) = V.int (((p + 1 : Nat) : Int) + 1)
  congr 1
theorem nat_down (l : List Nat) : ((Mx.nat l).filter (fun z => decide (0 < z))).map (fun z => V.int (z - 1)) = (Mx.nat (Mx.down l)).map V.int := by
  induction l with
  | nil => rfl
  | cons a l ih =>
    show (List.filter _ ((a : Int) :: Mx.nat l)).map _ = (Mx.nat (((a :: l).filter fun p => decide (0 < p)).map (· - 1))).map V.int
    by_cases h : 0 < a
    · rw [List.filter_cons, if_pos (by simpa using h), List.filter_cons, if_pos (by simpa using h), List.map_cons, ih]
      show _ = V.int ((a - 1 : Nat) : Int) :: _
      rw [show ((a - 1 : Nat) : Int) = (a : Int) - 1 by omega]
      rfl
    · rw [List.filter_cons, if_neg (by simpa using h), List.filter_cons, if_neg (by simpa using h), ih]
      rfl
/-- things that may be handed in as a form: b tells whether it is one -/
def gap : Option Int → Int → Bool
  | none, _ => true
  | some q, p => !decide (q - p < 2)
def fmV : Option Int → List V → Bool
  | _, [] => true
  | b, .int p :: r => decide (0 ≤ p) && (gap b p && fmV (some p) r)
  | _, _ :: _ => false
def FmT (K : PySem.W.Frag) (H : Hp) (x : V) (b : Bool) : Prop :=
  (∃ a xs, x = .ref a ∧ H a = some (.lst xs) ∧ (∀ v ∈ xs, Kn K H v) ∧ b = fmV none xs) ∨ (∃ n, Seven n ∧ n ≠ "list" ∧ Ty K H x n ∧ b = false)
theorem FmT.mono {H' : Hp} {x : V} {b : Bool} (e : Ex H H') (h : FmT K H x b) : FmT K H' x b := by
  rcases h with ⟨a, xs, e1, e2, e3, e4⟩ | ⟨n, e1, e2, e3, e4⟩
  · exact .inl ⟨a, xs, e1, e a _ e2, fun v hv => (e3 v hv).mono e, e4⟩
  · exact .inr ⟨n, e1, e2, e3.mono e, e4⟩
theorem fmV_nat : ∀ (l : List Nat) (b : Option Int), (∀ q, b = some q → ∀ p ∈ l, (p : Int) + 2 ≤ q) → Mx.Fm l → fmV b ((Mx.nat l).map V.int) = true
  | [], _, _, _ => rfl
  | p :: l, b, hb, h => by
    show (decide ((0 : Int) ≤ (p : Int)) && (gap b p && fmV (some (p : Int)) ((Mx.nat l).map V.int))) = true
    rw [fmV_nat l (some p) (fun q e r hr => by
      have := Mx.fm_lt h r hr
      have e2 := Option.some.inj e
      omega) (Mx.fm_tail h), Bool.and_true, Bool.and_eq_true]
    refine ⟨decide_eq_true (Int.natCast_nonneg p), ?_⟩
    cases b with
    | none => rfl
    | some q =>
      have := hb q rfl p List.mem_cons_self
      simp only [gap, Bool.not_eq_true', decide_eq_false_iff_not]
      omega
theorem fmT_nat {a : Addr} {l : List Nat} (h : H a = some (.lst ((Mx.nat l).map V.int))) (hF : Mx.Fm l) : FmT K H (.ref a) true :=
  .inl ⟨a, _, rfl, h, fun v hv => by
    obtain ⟨n, _, rfl⟩ := List.mem_map.mp hv
    exact kn_int, (fmV_nat l none (fun q e => by cases e) hF).symm⟩
end

/-! ### signs of a form -/
section
def rJoin (K : PySem.W.Frag) : V → List V → Hp → VK → Prop := fun x xs H Q => ∃ a p, ∃ ys : List Str, x = .str a ∧ xs = [.ref p] ∧ (SqL K H p (ys.map V.str) ∨ SqT K H p (ys.map V.str)) ∧ (ys.map (·.length)).sum + ys.length * a.length ≤ 16777216 ∧ Q (.str (Txt.join a ys)) H
theorem ev_join {K : PySem.W.Frag} {σ : L2.St} {H : Hp} {to te : TE} {a : Str} {p : Addr} {ys : List Str} (ho : Ev to σ H (.str a)) (he : Ev te σ H (.ref p)) (hs : SqL K H p (ys.map V.str)) (hz : (ys.map (·.length)).sum + ys.length * a.length ≤ 16777216) :
    Ev (tM1 (rJoin K) to te) σ H (.str (Txt.join a ys)) := fun H1 e Q q => ho H1 e _ fun H2 e2 => ⟨⟨a, rfl⟩, he H2 (e.trans e2) _ fun H3 e3 => ⟨a, p, ys, rfl, rfl, .inl (ex_l ((e.trans e2).trans e3) hs), hz, q H3 (e2.trans e3)⟩⟩
theorem ev_joinL {K : PySem.W.Frag} {σ : L2.St} {H : Hp} {to te : TE} {a : Str} {ys : List Str} (ho : Ev to σ H (.str a)) (he : EvL te σ H (ys.map V.str)) (hz : (ys.map (·.length)).sum + ys.length * a.length ≤ 16777216) :
    Ev (tM1 (rJoin K) to te) σ H (.str (Txt.join a ys)) := fun H1 e Q q => ho H1 e _ fun H2 e2 => ⟨⟨a, rfl⟩, he H2 (e.trans e2) _ fun p H3 _ e3 h3 => ⟨a, p, ys, rfl, rfl, .inl (SqL.of h3), hz, q H3 (e2.trans e3)⟩⟩
def topP (l : List Nat) : Nat := (Mx.maxD 0 (Mx.nat l)).toNat
def sign (b : Bool) : Str := if b then "1" else "0"
def bits (n : Nat) (l : List Nat) : List Str := (List.range n).map fun i => sign (decide (n - 1 - i ∈ l))
theorem bits_len (n : Nat) (l : List Nat) : (bits n l).length = n := by unfold bits; rw [List.length_map, List.length_range]
theorem sign_len (b : Bool) : (sign b).length = 1 := by cases b <;> decide
theorem sum_ones : ∀ xs : List Nat, (∀ x ∈ xs, x = 1) → xs.sum = xs.length
  | [], _ => rfl
  | x :: xs, h => by
    rw [List.sum_cons, sum_ones xs fun y hy => h y (List.mem_cons_of_mem _ hy), h x List.mem_cons_self, List.length_cons]
    omega
theorem bits_sum (n : Nat) (l : List Nat) : ((bits n l).map (·.length)).sum = n := by
  rw [sum_ones]
  · rw [List.length_map, bits_len]
  · intro x hx
    unfold bits at hx
    obtain ⟨s, hs, rfl⟩ := List.mem_map.mp hx
    obtain ⟨i, _, rfl⟩ := List.mem_map.mp hs
    exact sign_len _
theorem bits_set {n p : Nat} {l : List Nat} (h : p < n) : (bits n l).set (n - 1 - p) "1" = bits n (l ++ [p]) := by
  unfold bits
  apply List.ext_getElem?
  intro i
  rw [List.getElem?_set, List.getElem?_map, List.getElem?_map, List.length_map, List.length_range]
  by_cases hi : i < n
  · rw [List.getElem?_range hi]
    by_cases e : n - 1 - p = i
    · rw [if_pos e, if_pos (show n - 1 - p < n by omega)]
      have : n - 1 - i = p := by omega
      show some _ = some (sign (decide (n - 1 - i ∈ l ++ [p])))
      rw [this, decide_eq_true (by simp)]
      rfl
    · rw [if_neg e]
      show some _ = some _
      have : n - 1 - i ≠ p := by omega
      congr 3
      simp [this]
  · rw [List.getElem?_eq_none (by simpa using hi)]
    rw [if_neg (show ¬ n - 1 - p = i by omega)]
    rfl
theorem topP_ok {l : List Nat} {n : Nat} (h : ∀ p ∈ l, p < n) (hn : 0 < n) : Mx.maxD 0 (Mx.nat l) = (topP l : Int) ∧ (∀ p ∈ l, p ≤ topP l) ∧ topP l < n := by
  unfold topP
  rcases Mx.maxD_nat l 0 with ⟨e, e2⟩ | ⟨p, hp, e, hm⟩
  · rw [e]
    exact ⟨rfl, (fun p hp => by rw [e2] at hp; cases hp), hn⟩
  · rw [e]
    exact ⟨by omega, fun q hq => by have := hm q hq; omega, by have := h p hp; omega⟩
theorem rep_bits (n : Nat) : (List.replicate n [V.str "0"]).flatten = (bits n []).map V.str := by
  have e : (List.replicate n [V.str "0"]).flatten = List.replicate n (V.str "0") := by
    induction n with
    | zero => rfl
    | succ n ih => rw [List.replicate_succ, List.flatten_cons, ih, List.replicate_succ]; rfl
  rw [e]
  unfold bits
  rw [List.map_map]
  apply List.ext_getElem?
  intro i
  rw [List.getElem?_replicate, List.getElem?_map]
  by_cases hi : i < n
  · rw [if_pos hi, List.getElem?_range hi]
    rfl
  · rw [if_neg hi, List.getElem?_eq_none (by simpa using hi)]
    rfl
theorem el_rep {σ : L2.St} {H : Hp} {ta tb : TE} {xs : List V} {k : Nat} (ha : EvL ta σ H xs) (hb : ∀ H1, Ex H H1 → Ev tb σ H1 (.int (k : Int))) (hz : xs.length * k ≤ 100000) (hk : k ≤ 100000) : EvL (tOp rRep ta tb) σ H (List.replicate k xs).flatten := fun H1 e Q q =>
  ha H1 e _ fun l H2 _ e2 hl => hb H2 (e.trans e2) H2 (Ex.refl _) _ fun H3 e3 => by
    refine ⟨l, (k : Int), xs, rfl, rfl, e3 _ _ hl, by omega, by omega, ?_, fun p hp => ?_⟩
    · rw [Int.toNat_natCast]
      exact sz_of hz
    · rw [Int.toNat_natCast]
      exact q p _ (fresh_back (e2.trans e3) hp) ((e2.trans e3).trans (Ex.new hp)) upd_same
end

/-! ### one thing of a display -/
section
variable {K : PySem.W.Frag} {σ : L2.St} {H : Hp} {te ti : TE} {ta : TA}
def EvP (te : TE) (σ : L2.St) (H : Hp) (P : V → Hp → Prop) : Prop := ∀ H1, Ex H H1 → ∀ Q : VK, (∀ v H2, Ex H1 H2 → P v H2 → Q v H2) → te σ H1 Q
def PAll : List (V → Hp → Prop) → List V → Hp → Prop
  | [], [], _ => True
  | P :: Ps, v :: vs, H => P v H ∧ PAll Ps vs H
  | _, _, _ => False
def EvPs (ta : TA) (σ : L2.St) (H : Hp) (Ps : List (V → Hp → Prop)) : Prop := ∀ H1, Ex H H1 → ∀ Q : List V → Hp → Prop, (∀ vs H2, Ex H1 H2 → PAll Ps vs H2 → Q vs H2) → ta σ H1 Q
def Stable (P : V → Hp → Prop) : Prop := ∀ v H H', Ex H H' → P v H → P v H'
theorem ep_nil : EvPs tNil σ H [] := fun H1 _ _ q => q [] H1 (Ex.refl H1) trivial
theorem ep_cons {tr : TA} {P : V → Hp → Prop} {Ps : List (V → Hp → Prop)} (h : EvP te σ H P) (st : Stable P) (hr : EvPs tr σ H Ps) : EvPs (tCons te tr) σ H (P :: Ps) := fun H1 e Q q =>
  h H1 e _ fun v H2 e2 p => hr H2 (e.trans e2) _ fun vs H3 e3 ps => q (v :: vs) H3 (e2.trans e3) ⟨st v H2 H3 e3 p, ps⟩
theorem ep_v {P : V → Hp → Prop} {v : V} (h : Ev te σ H v) (hP : ∀ H', Ex H H' → P v H') : EvP te σ H P := fun H1 e Q q => h H1 e _ fun H2 e2 => q v H2 e2 (hP H2 (e.trans e2))
theorem ep_L {P : V → Hp → Prop} {xs : List V} (h : EvL te σ H xs) (hP : ∀ p H', H p = none → Ex H H' → H' p = some (.lst xs) → P (.ref p) H') : EvP te σ H P := fun H1 e Q q => h H1 e _ fun p H2 np e2 h2 => q _ H2 e2 (hP p H2 (fresh_back e np) (e.trans e2) h2)
theorem ep_U {P : V → Hp → Prop} {xs : List V} (h : EvU te σ H xs) (hP : ∀ p H', H p = none → Ex H H' → H' p = some (.tup xs) → P (.ref p) H') : EvP te σ H P := fun H1 e Q q => h H1 e _ fun p H2 np e2 h2 => q _ H2 e2 (hP p H2 (fresh_back e np) (e.trans e2) h2)
theorem ex_upd {H1 H2 : Hp} {f : Addr} {o : HO} (e : Ex H1 H2) : Ex (upd H1 f o) (upd H2 f o) := fun b x h => by
  by_cases hb : b = f
  · subst hb
    rw [upd_same] at h ⊢
    exact h
  · rw [upd_ne hb] at h ⊢
    exact e b x h
theorem ep_dK {P : V → Hp → Prop} (hP : ∀ p H', Ex H H' → H' p = some (.dK []) → P (.ref p) H') : EvP tDNewK σ H P := fun H1 e Q q p hp => q _ _ (Ex.new hp) (hP p _ (e.trans (Ex.new hp)) upd_same)
theorem pall_at : ∀ {Ps : List (V → Hp → Prop)} {vs : List V} {H : Hp} {j : Nat} {P : V → Hp → Prop}, PAll Ps vs H → Ps[j]? = some P → ∃ v, vs[j]? = some v ∧ P v H
  | [], _, _, _, _, _, h => by simp at h
  | _ :: _, [], _, _, _, h, _ => h.elim
  | P :: Ps, v :: vs, H, 0, P', h, e => by
    have : P = P' := by simpa using e
    exact ⟨v, rfl, this ▸ h.1⟩
  | P :: Ps, v :: vs, H, j + 1, P', h, e => by
    obtain ⟨w, h1, h2⟩ := pall_at h.2 (show Ps[j]? = some P' by simpa using e)
    exact ⟨w, by simpa using h1, h2⟩
theorem pall_len : ∀ {Ps : List (V → Hp → Prop)} {vs : List V} {H : Hp}, PAll Ps vs H → vs.length = Ps.length
  | [], [], _, _ => rfl
  | [], _ :: _, _, h => h.elim
  | _ :: _, [], _, h => h.elim
  | P :: Ps, v :: vs, H, h => by rw [List.length_cons, List.length_cons, pall_len h.2]
theorem ep_pick {Ps : List (V → Hp → Prop)} {P : V → Hp → Prop} {j : Nat} (h : EvPs ta σ H Ps) (hl : Ps.length ≤ 1000) (hi : ∀ H1, Ex H H1 → Ev ti σ H1 (.int (j : Int))) (hj : Ps[j]? = some P) (st : Stable P) : EvP (tOp (rIxL K) (tLst ta) ti) σ H P := fun H1 e Q q =>
  h H1 e _ fun vs H2 e2 ps => ⟨sz_of (by rw [pall_len ps]; omega), fun p hp => by
    obtain ⟨v, hv, hp2⟩ := pall_at ps hj
    refine hi _ ((e.trans e2).trans (Ex.new hp)) _ (Ex.refl _) _ fun H3 e3 => ?_
    exact ⟨p, vs, _, v, rfl, rfl, SqL.of (e3 p _ upd_same), atI_nat hv, q v H3 ((e2.trans (Ex.new hp)).trans e3) (st v _ _ ((Ex.new hp).trans e3) hp2)⟩⟩
theorem s_retP {D : Ends} {P : V → Hp → Prop} (h : EvP te σ H P) (q : ∀ v H2, Ex H H2 → P v H2 → D.rt v H2) : tRet te D σ H := h H (Ex.refl H) _ q
theorem s_asgP {D : Ends} {P : V → Hp → Prop} {g : TG} (h : EvP te σ H P) (q : ∀ v H2, Ex H H2 → P v H2 → g v σ H2 D.nx) : tAsg te g D σ H := h H (Ex.refl H) _ q
theorem q_asgP {D : Ends} {tz : TS} {P : V → Hp → Prop} {g : TG} (h : EvP te σ H P) (q : ∀ v H2, Ex H H2 → P v H2 → g v σ H2 fun σ' H3 => tz D σ' H3) : tSeq (tAsg te g) tz D σ H := h H (Ex.refl H) _ q
theorem ev_ixL {xs : List V} {z : Int} {v : V} (h : EvL te σ H xs) (hi : ∀ H1, Ex H H1 → Ev ti σ H1 (.int z)) (hz : atI xs z = some v) : Ev (tOp (rIxL K) te ti) σ H v := fun H1 e Q q =>
  h H1 e _ fun p H2 _ e2 hp => hi H2 (e.trans e2) H2 (Ex.refl _) _ fun H3 e3 => ⟨p, _, _, _, rfl, rfl, SqL.of (e3 _ _ hp), hz, q H3 (e2.trans e3)⟩
theorem eu_tuple {a : Addr} {xs : List V} (h : Ev te σ H (.ref a)) (hs : SqL K H a xs) : EvU (tCB (fun ys H Q => ∃ p zs, ys = [.ref p] ∧ ((SqL K H p zs ∧ ∀ l, H l = none → Q (.ref l) (upd H l (.tup zs))) ∨ (SqT K H p zs ∧ Q (.ref p) H))) (tCons te tNil)) σ H xs := fun H1 e Q q =>
  h H1 e _ fun H2 e2 => ⟨a, xs, rfl, .inl ⟨ex_l (e.trans e2) hs, fun l hl => q l _ (fresh_back e2 hl) (e2.trans (Ex.new hl)) upd_same⟩⟩
/-! data of any make, and the empty dict -/
inductive Th
  | d (x : PyData)
  | dict
def ThAt (K : PySem.W.Frag) (t : Th) (v : V) (H : Hp) : Prop := match t with
  | .d x => Dp K H v x ∧ SeqAt.shaped x = true
  | .dict => ∃ a, v = .ref a ∧ H a = some (.dK [])
theorem ThAt.mono {t : Th} {v : V} {H' : Hp} (e : Ex H H') (h : ThAt K t v H) : ThAt K t v H' := by
  cases t with
  | d x => exact ⟨Dp.ex e h.1, h.2⟩
  | dict => obtain ⟨a, e1, e2⟩ := h; exact ⟨a, e1, e a _ e2⟩
theorem ev_eqTh {v u : V} {t : Th} {tb : TE} (ha : Ev te σ H v) (hb : Ev tb σ H u) (h1 : ThAt K t v H) (h2 : ThAt K t u H) : Ev (tOp (rEqOr K) te tb) σ H (.bl true) := fun H1 e Q q =>
  ha H1 e _ fun H2 e2 => hb H2 (e.trans e2) _ fun H3 e3 => by
    have e13 := (e.trans e2).trans e3
    cases t with
    | d x => exact .inl ⟨x, x, Dp.ex e13 h1.1, Dp.ex e13 h2.1, h1.2, h1.2, by rw [SeqAt.eqv_refl x (SeqAt.canLay_of_shaped h1.2)]; exact q H3 (e2.trans e3)⟩
    | dict =>
      obtain ⟨a, rfl, g1⟩ := h1
      obtain ⟨b, rfl, g2⟩ := h2
      exact .inr ⟨a, b, rfl, rfl, e13 a _ g1, e13 b _ g2, q H3 (e2.trans e3)⟩
theorem dp_ints : ∀ ns : List Int, DpAll K H (ns.map V.int) (ns.map PyData.int)
  | [] => .nil
  | n :: ns => .cons (.int n) (dp_ints ns)
theorem dp_set : ∀ {vs : List V} {ds : List PyData} {x : V} {d : PyData} (i : Nat), DpAll K H vs ds → Dp K H x d → DpAll K H (vs.set i x) (ds.set i d)
  | _, _, _, _, _, .nil, _ => .nil
  | _, _, _, _, 0, .cons a b, h => .cons h b
  | _, _, _, _, i + 1, .cons a b, h => .cons a (dp_set i b h)
theorem lay_all : ∀ {ds : List PyData}, (∀ d ∈ ds, d.canLay0 = true) → PyData.canLayAll0 ds = true
  | [], _ => rfl
  | d :: ds, h => by
    rw [PyData.canLayAll0, h d List.mem_cons_self, lay_all fun x hx => h x (List.mem_cons_of_mem _ hx)]
    rfl
theorem depth_all {n : Nat} : ∀ {ds : List PyData}, (∀ d ∈ ds, d.depth ≤ n) → PyData.depthAll ds ≤ n
  | [], _ => Nat.zero_le _
  | d :: ds, h => by
    rw [PyData.depthAll]
    have := h d List.mem_cons_self
    have := depth_all (ds := ds) fun x hx => h x (List.mem_cons_of_mem _ hx)
    omega
theorem shaped_list {ds : List PyData} (h : ∀ d ∈ ds, d.canLay0 = true ∧ d.depth ≤ 1) : SeqAt.shaped (.list ds) = true ∧ SeqAt.shaped (.tuple ds) = true := by
  have h1 := lay_all fun d hd => (h d hd).1
  have h2 := depth_all fun d hd => (h d hd).2
  unfold SeqAt.shaped
  constructor
  · rw [PyData.canLay0, h1, PyData.depth, decide_eq_true (by omega)]
    rfl
  · rw [PyData.canLay0, h1, PyData.depth, decide_eq_true (by omega)]
    rfl
end

/-! ### the menu of things that are no whole number -/
section
variable {K : PySem.W.Frag} {σ : L2.St} {H : Hp} {t0 ti : TE} {z : Int} {c : Int}
theorem menu (h0 : Ev t0 σ H (.int z)) (hz : z < 0) (hi : ∀ H1, Ex H H1 → Ev ti σ H1 (.int (c % 8))) {Q : VK} (k : ∀ x H', Ex H H' → Kn K H' x → wholeV x = false → Q x H') :
    tOp (rIxL K) (tLst (tCons t0 (tCons (tC (.bl true)) (tCons (tC (.bl false)) (tCons (tC .non) (tCons (tC (.str "3")) (tCons (tLst (tCons (tC (.int 2)) tNil)) (tCons (tTup (tCons (tC (.int 2)) tNil)) (tCons tDNewK tNil))))))))) ti σ H Q := by
  refine h0 H (Ex.refl _) _ fun H6 e6 => ?_
  refine ⟨by decide, fun l2 hl2 => ?_⟩
  refine ⟨by decide, fun t ht => ?_⟩
  refine fun d hd => ?_
  refine ⟨(show 8 ≤ sizeLine by decide), fun m hm => ?_⟩
  have eA : ∀ o, Ex H (upd (upd (upd (upd H6 l2 (.lst [.int 2])) t (.tup [.int 2])) d (.dK [])) m o) := fun o => (((e6.trans (Ex.new hl2)).trans (Ex.new ht)).trans (Ex.new hd)).trans (Ex.new hm)
  refine hi _ (eA _) _ (Ex.refl _) _ fun H7 e7 => ?_
  have f2 := ex_to e7 (ex_to (Ex.new hm) (ex_to (Ex.new hd) (ex_to (Ex.new ht) (upd_same (H := H6) (a := l2) (o := .lst [.int 2])))))
  have f3 := ex_to e7 (ex_to (Ex.new hm) (ex_to (Ex.new hd) (upd_same (a := t) (o := .tup [.int 2]))))
  have f4 := ex_to e7 (ex_to (Ex.new hm) (upd_same (a := d) (o := .dK [])))
  have f5 := ex_to e7 (upd_same (a := m))
  have hneg : wholeV (.int z) = false := by
    simp only [wholeV, decide_eq_false_iff_not]
    omega
  obtain ⟨j, hj, hj2⟩ : ∃ j : Nat, c % 8 = (j : Int) ∧ j < 8 := ⟨(c % 8).toNat, by omega, by omega⟩
  rw [hj]
  have eB := (eA _).trans e7
  match j, hj2 with
  | 0, _ => exact ⟨m, _, _, _, rfl, rfl, .of f5, atI_nat (j := 0) rfl, k _ H7 eB kn_int hneg⟩
  | 1, _ => exact ⟨m, _, _, _, rfl, rfl, .of f5, atI_nat (j := 1) rfl, k _ H7 eB kn_bl rfl⟩
  | 2, _ => exact ⟨m, _, _, _, rfl, rfl, .of f5, atI_nat (j := 2) rfl, k _ H7 eB kn_bl rfl⟩
  | 3, _ => exact ⟨m, _, _, _, rfl, rfl, .of f5, atI_nat (j := 3) rfl, k _ H7 eB kn_non rfl⟩
  | 4, _ => exact ⟨m, _, _, _, rfl, rfl, .of f5, atI_nat (j := 4) rfl, k _ H7 eB kn_str rfl⟩
  | 5, _ => exact ⟨m, _, _, _, rfl, rfl, .of f5, atI_nat (j := 5) rfl, k _ H7 eB (kn_lst f2) rfl⟩
  | 6, _ => exact ⟨m, _, _, _, rfl, rfl, .of f5, atI_nat (j := 6) rfl, k _ H7 eB (kn_tup f3) rfl⟩
  | 7, _ => exact ⟨m, _, _, _, rfl, rfl, .of f5, atI_nat (j := 7) rfl, k _ H7 eB (kn_dK f4) rfl⟩
end

/-! ### for a, b in zip(xs, ys); int(a truth) -/
section
variable {K : PySem.W.Frag} {σ : L2.St} {H : Hp} {t1 : TA} {te ta tb : TE} {D : Ends} {tu tz : TS}
theorem q_zip {a b : Addr} {i j : Nat} {xs ys : List V} (h : EvA t1 σ H [.ref a, .ref b]) (hx : SqL K H a xs) (hy : SqL K H b ys) (Pv : Nat → L2.St → Hp → Prop) (h0 : ∀ H1, Ex H H1 → Pv 0 σ H1)
    (hl : ∀ k σ' H', Pv k σ' H' → SqL K H' a xs ∧ SqL K H' b ys)
    (hs : ∀ k x y σ' H', xs[k]? = some x → ys[k]? = some y → Pv k σ' H' → ∀ H1, Ex H' H1 → tu { D with nx := Pv (k + 1), ct := Pv (k + 1), bk := tz D } ((σ'.set i (some x)).set j (some y)) H1)
    (hd : ∀ σ' H', Pv (min xs.length ys.length) σ' H' → tz D σ' H') : tSeq (tFor (iZip K t1) (gTup K 2 (gCons (gName i) (gCons (gName j) gNil))) tu) tz D σ H :=
  h H (Ex.refl H) _ fun H1 e1 => ⟨a, b, xs, ys, rfl, ex_l e1 hx, ex_l e1 hy, L2.for_it (D := { D with nx := tz D }) (L2.walk_zip (xs := xs) (ys := ys) rfl) Pv (h0 H1 e1) (fun k σ' H' _ p => hl k σ' H' p) (fun k x σ' H' H'' hk p y => by
    obtain ⟨T, u, v, rfl, hT, rfl, hu, hv⟩ := y
    exact ⟨T, [u, v], rfl, SqT.of upd_same, rfl, u, [v], rfl, v, [], rfl, rfl, hs k u v σ' H' hu hv p _ (Ex.new hT)⟩) hd⟩
theorem ev_intB {b : Bool} (h : Ev te σ H (.bl b)) : Ev (tCB (fun xs H Q => (∃ i, xs = [.int i] ∧ Q (.int i) H) ∨ ∃ k, xs = [.bl k] ∧ Q (.int (if k then 1 else 0)) H) (tCons te tNil)) σ H (.int (if b then 1 else 0)) := fun H1 e Q q =>
  h H1 e _ fun H2 e2 => .inr ⟨b, rfl, q H2 e2⟩
theorem nat_drop {l : List Nat} {k : Nat} {p : Nat} (h : l[k]? = some p) : l.drop k = p :: l.drop (k + 1) := by
  obtain ⟨h1, h2⟩ := List.getElem?_eq_some_iff.mp h
  rw [List.drop_eq_getElem_cons h1, h2]
theorem nat_mem {l : List Nat} {k : Nat} {x : V} (h : ((Mx.nat l).map V.int)[k]? = some x) : ∃ p : Nat, l[k]? = some p ∧ x = .int (p : Int) := by
  obtain ⟨n, h1, h2⟩ := int_mem h
  unfold Mx.nat at h1
  rw [List.getElem?_map] at h1
  cases e : l[k]? with
  | none => rw [e] at h1; cases h1
  | some p =>
    rw [e] at h1
    exact ⟨p, rfl, by rw [h2, ← Option.some.inj h1]⟩
end
end Z

set_option Elab.async false
set_option linter.all false
set_option maxRecDepth 100000
set_option maxHeartbeats 4000000
/-! enumerate(a text): a rule that the layer lacks; and readings of texts. -/
namespace L2
open PySem PySem.Spec PyProof.Rows
/-- the signs of a text, each with its place in a new pair -/
def Ites (x : Str) : It := ⟨fun i _ => i < x.cps.size, fun i H v H' => ∃ T c, v = .ref T ∧ H T = none ∧ x.cps[i]? = some c ∧ H' = upd H T (.tup [.int (i : Nat), .str ⟨#[c]⟩]), fun i _ => x.cps.size ≤ i⟩
theorem turn_enumS {P : Program} {w : World} {K : PySem.W.Frag} {elts : List Expr} {kk : Nat} {tpos : Pos} (x : Str) (t : Tok) (e it : Addr) :
    Turn P w K (.Tuple elts kk tpos) (Ites x) [e, it] e (fun i h => i ≤ x.cps.size ∧ (∃ old, IsEnum h e it ((i : Nat) : Int) old) ∧ h.IsStrIter it (strIterType x) x t i ∧ e ≠ it) where
  mem := by simp
  obj := fun i h st b hb => by
    obtain ⟨_, ⟨old, he⟩, ⟨o, ho, hc, hd⟩, _⟩ := st
    have e' : b = e ∨ b = it := by simpa using hb
    rcases e' with z | z
    · rw [z]; exact ⟨_, he, fun v q => nomatch q⟩
    · rw [z]; exact ⟨o, ho, fun v q => by rw [hd] at q; cases q⟩
  keep := fun i h h' st k => let ⟨hi, ⟨old, he⟩, ⟨o, ho, r⟩, hne⟩ := st; ⟨hi, ⟨old, k e (by simp) _ he⟩, ⟨o, k it (by simp) o ho, r⟩, hne⟩
  item := by
    intro X hP hw hK hc i pins s σ H E I hf st hg
    subst hP hw hK
    obtain ⟨hi, ⟨old, he⟩, hit, hne⟩ := st
    have hlt : i < x.cps.size := hg
    have hel : e < s.heap.objs.size := Heap.lt_size he
    have hil : it < s.heap.objs.size := by obtain ⟨_, q, _⟩ := id hit; exact Heap.lt_size q
    have D : Draws X.prog X.w X.A.in1 it [it] x.cps.size (SignAt x) (fun i h => h.IsStrIter it (strIterType x) x t i) := Draws.text (show X.A.in1.handled = none from I.ok.hd hc) it x t
    refine wpAny_pyNext_enum_itemD D he hit hlt hne (by simpa using hne) fun u h' tk hP ho hit' hT hsz hk => ?_
    obtain ⟨c, uu, hcx, rfl⟩ := hP
    refine ⟨_, rfl, wpAny_letOwnedTupleGo_enum (s := { s with heap := h', toks := tk + 1 }) ho fun h'' he' sb => ?_⟩
    have hT2 : h''.get? s.heap.objs.size = some { cls := .type "tuple", data := .seq #[.int i tk, .str ⟨#[c]⟩ uu] } := (sb.2 _ (Nat.ne_of_gt hel)).trans hT
    have new : ObjOk X.prog X.w (upd H s.heap.objs.size (.tup [.int (i : Nat), .str ⟨#[c]⟩])) h'' s.heap.objs.size (.tup [.int (i : Nat), .str ⟨#[c]⟩]) :=
      ⟨by show 2 ≤ sizeLine; decide, [.int i tk, .str ⟨#[c]⟩ uu], .cons ⟨_, rfl⟩ (.cons ⟨_, rfl⟩ .nil), ⟨_, hT2, rfl, _, rfl⟩⟩
    have I1 : Inv X pins σ (upd H s.heap.objs.size (.tup [.int (i : Nat), .str ⟨#[c]⟩])) { s with heap := h'', toks := tk + 1 } :=
      I.turnedNew (ch := [e, it]) (fun b ob hb q => (sb.2 b (fun z => hb (by simp [z]))).trans (hk b ob (fun z => hb (by simp [z])) (fun z => hb (by simp [z])) q)) hf (Nat.le_refl _) new
    refine ⟨.ref s.heap.objs.size, _, I1, rfl, ⟨_, c, rfl, I.hok.fresh (Nat.le_refl _), hcx, rfl⟩, ⟨hlt, ⟨.str ⟨#[c]⟩ uu, ?_⟩, ?_, hne⟩, fun b hb => ?_⟩
    · have e1 : ((i + 1 : Nat) : Int) = (i : Int) + 1 := by omega
      rw [e1]; exact he'
    · obtain ⟨o, ho2, r⟩ := hit'
      exact ⟨o, (sb.2 it (Ne.symm hne)).trans ho2, r⟩
    · have hb' : b < s.heap.objs.size := by
        have e' : b = e ∨ b = it := by simpa using hb
        rcases e' with z | z
        · rw [z]; exact hel
        · rw [z]; exact hil
      rw [upd_ne (Nat.ne_of_lt hb')]
      exact (hf b hb).1
  done := by
    intro X hP hw hK hc i pins s σ H E I hf st hg
    subst hP hw hK
    obtain ⟨hi, ⟨old, he⟩, hit, hne⟩ := st
    obtain ⟨f0, f1, f2, f3, f4, f5⟩ := hf it (by simp)
    have hge : x.cps.size ≤ i := hg
    have ei : i = x.cps.size := by omega
    subst ei
    have D : Draws X.prog X.w X.A.in1 it [it] x.cps.size (SignAt x) (fun i h => h.IsStrIter it (strIterType x) x t i) := Draws.text (show X.A.in1.handled = none from I.ok.hd hc) it x t
    exact wpAny_pyNext_enum_endD D he hit fun h' eb => ⟨rfl, I.turned (t' := s.toks) (fun b o hb q => eb b o hb q) f0 f1 f3 f4 f5⟩
  self := fun A i s Q E st h => let ⟨_, ⟨_, he⟩, _⟩ := st; wpAny_pyIter_enum he h
def iEnumS (ta : TA) : TI := fun σ H R => ta σ H fun vs H1 => ∃ x, vs = [.str x] ∧ R (Ites x) H1
theorem pi_enumS {X : Cx} {e : Expr} {ta : TA} {p pos tpos : Pos} {elts : List Expr} {kk : Nat} (hg : Gl X "enumerate") (hm : X.mg "enumerate" = none) (ha : PA X [e] ta) (hs : starEach [e] X.env = [(false, eval e X.env)] := by rfl) :
    PI X (.Tuple elts kk tpos) (.Call (.Name "enumerate" p) [e] [] pos) (iEnumS ta) := by
  refine ⟨fun pins s σ H R I h => ?_⟩
  refine Call_ (ld_blt I hg hm boot_enumerate (PyProof.Rows.callWith_type1 (thn (ha.run pos pins s σ H _ I h) fun us s1 ⟨vs, H1, I1, r1, q1⟩ => ?_) hs rfl))
  obtain ⟨x, ex, q⟩ := q1
  subst ex
  cases r1 with
  | cons r rr =>
    cases rr
    obtain ⟨t, rfl⟩ := r
    refine call_enumerate_str fun h' he hit hsz hk => wpAny_pyIter_enum he ?_
    have I2 : Inv X pins σ H1 { s1 with heap := h' } := I1.kept (t' := s1.toks) hk
    refine ⟨s1.heap.objs.size + 1, [s1.heap.objs.size + 1, s1.heap.objs.size], _, _, H1, rfl, I2, turn_enumS x t (s1.heap.objs.size + 1) s1.heap.objs.size, ⟨Nat.zero_le _, ⟨.none, he⟩, hit, Nat.succ_ne_self _⟩, fun b hb => ?_, q⟩
    have e' : b = s1.heap.objs.size + 1 ∨ b = s1.heap.objs.size := by simpa using hb
    have hle : s1.heap.objs.size ≤ b := by
      rcases e' with z | z
      · rw [z]; exact Nat.le_add_right _ _
      · rw [z]; exact Nat.le_refl _
    exact I1.fpOk hle (I1.hok.fresh hle)
end L2
namespace Z
open PySem PySem.Spec PyProof.Rows L2 Evl
/-! ### texts, plain -/
theorem dec_tx {a b : Str} : decide (V.str a = V.str b) = decide (a = b) := decide_eq_decide.mpr ⟨fun h => V.str.inj h, fun h => congrArg V.str h⟩
theorem tx1 : (Str.ofString "1") = ⟨#[49]⟩ := by decide
theorem tx0 : (Str.ofString "0") = ⟨#[48]⟩ := by decide
theorem tx01 : (Str.ofString "01") = ⟨#[48, 49]⟩ := by decide
theorem tx11 : (Str.ofString "11") = ⟨#[49, 49]⟩ := by decide
theorem txE : (Str.ofString "") = ⟨#[]⟩ := by decide
def sg (s : Str) : List Nat := s.cps.toList
theorem sg_len (s : Str) : (sg s).length = s.length := by simp [sg, Str.length]
theorem sg_inj {a b : Str} (h : sg a = sg b) : a = b := TL.ext_tl h
theorem str_eq {a b : Str} : decide (a = b) = decide (sg a = sg b) := decide_eq_decide.mpr ⟨fun h => by rw [h], sg_inj⟩
theorem one_sign {c d : Nat} {z : Str} (hz : z = ⟨#[d]⟩) : decide (V.str ⟨#[c]⟩ = V.str z) = decide (c = d) := by
  subst hz
  rw [dec_tx, str_eq]
  exact decide_eq_decide.mpr (by simp [sg])
def isB (c : Nat) : Bool := decide (c = 48) || decide (c = 49)
def has11 (s : Str) : Bool := !(Builtin.Str.occurrences s (Str.ofString "11") 0 s.length 1).isEmpty
def bad0 (s : Str) : Bool := decide (1 < s.length) && decide ((sg s)[0]? = some 48)
def okT (s : Str) : Bool := !(decide (s = Str.ofString "")) && (!(has11 s) && (!(bad0 s) && (sg s).all isB))
def plU (s : Str) (m : Nat) : List Nat := ((List.range m).filter fun i => decide ((sg s)[i]? = some 49)).map fun i => s.length - 1 - i
def plT (s : Str) : List Nat := plU s s.length
theorem plU_yes {s : Str} {m : Nat} (h : (sg s)[m]? = some 49) : plU s (m + 1) = plU s m ++ [s.length - 1 - m] := by
  unfold plU
  rw [List.range_succ, List.filter_append, List.map_append, List.filter_cons, if_pos (decide_eq_true h)]
  rfl
theorem plU_no {s : Str} {m : Nat} (h : (sg s)[m]? ≠ some 49) : plU s (m + 1) = plU s m := by
  unfold plU
  rw [List.range_succ, List.filter_append, List.map_append, List.filter_cons, if_neg (by rw [decide_eq_false h]; decide)]
  exact List.append_nil _
theorem plU_len (s : Str) (m : Nat) : (plU s m).length ≤ m := by
  unfold plU
  rw [List.length_map]
  have h := List.length_filter_le (fun i => decide ((sg s)[i]? = some 49)) (List.range m)
  rw [List.length_range] at h
  exact h
theorem has01 (c : Nat) : (Str.ofString "01").cps.contains c = isB c := by
  rw [tx01]
  show (#[48, 49] : Array Nat).contains c = _
  unfold isB
  rw [Bool.eq_iff_iff]
  simp
theorem strip01 (s : Str) : decide (Txt.stripChars s (Str.ofString "01") = Str.ofString "") = (sg s).all isB := by
  have e : Txt.stripChars s (Str.ofString "01") = Txt.stripBy isB true true s := by
    unfold Txt.stripChars
    congr 1
    exact funext has01
  rw [e, PyProof.Rows.stripBy_eq]
  obtain ⟨l1, l2, l3⟩ := PyProof.Rows.lo_facts isB s
  obtain ⟨h1, h2, h3, h4⟩ := PyProof.Rows.hi_facts isB s (stripLo isB true s) l1
  generalize stripLo isB true s = lo at *
  generalize stripHi isB true s lo = hi at *
  have em : decide (Builtin.Str.strSub s lo hi = Str.ofString "") = decide (hi = lo) := by
    rw [str_eq]
    refine decide_eq_decide.mpr ?_
    have e2 : sg (Builtin.Str.strSub s lo hi) = ((sg s).drop lo).take (hi - lo) := TL.tl_strSub s lo hi
    have e3 : sg (Str.ofString "") = [] := by decide
    rw [e2, e3, ← List.length_eq_zero_iff, List.length_take, List.length_drop, sg_len]
    omega
  rw [em, Bool.eq_iff_iff, decide_eq_true_eq, List.all_eq_true]
  have at' : ∀ k, k < s.length → ∃ c, c ∈ sg s ∧ s.cps.getD k 0 = c ∧ (sg s)[k]? = some c := fun k hk => by
    have hk2 : k < (sg s).length := by rw [sg_len]; exact hk
    refine ⟨(sg s)[k], List.getElem_mem hk2, ?_, List.getElem?_eq_getElem hk2⟩
    rw [← PyProof.Rows.getD_list, List.getD_eq_getElem?_getD]
    show ((sg s)[k]?).getD 0 = _
    rw [List.getElem?_eq_getElem hk2]
    rfl
  constructor
  · intro e c hc
    obtain ⟨k, hk, rfl⟩ := List.mem_iff_getElem.mp hc
    rw [sg_len] at hk
    obtain ⟨c, _, g1, g2⟩ := at' k hk
    have g3 := Option.some.inj ((List.getElem?_eq_getElem (by rw [sg_len]; exact hk)).symm.trans g2)
    rw [g3, ← g1]
    by_cases hl : k < lo
    · exact l2 k hl
    · exact h3 k (by omega) hk
  · intro ha
    have all : ∀ k, k < s.length → isB (s.cps.getD k 0) = true := fun k hk => by
      obtain ⟨c, g0, g1, _⟩ := at' k hk
      rw [g1]
      exact ha c g0
    rcases l3 with h | h
    · omega
    · by_cases hl : lo < s.length
      · rw [all lo hl] at h
        cases h
      · omega
theorem start1 (s : Str) : Txt.startswith s (Str.ofString "1") = decide ((sg s)[0]? = some 49) := by
  rw [tx1]
  have h := StrLaws.subAt_one s 49 0
  unfold Txt.startswith
  rw [Bool.eq_iff_iff, Bool.and_eq_true, decide_eq_true_eq, decide_eq_true_eq]
  exact h
theorem okT_read (s : Str) : okT s = (!(decide (s = Str.ofString "")) && (!((!decide (Txt.stripChars s (Str.ofString "01") = Str.ofString "")) || has11 s) && !((!decide (s = Str.ofString "0")) && !(Txt.startswith s (Str.ofString "1"))))) := by
  unfold okT
  rw [strip01, start1]
  cases h1 : decide (s = Str.ofString "") with
  | true => rfl
  | false =>
    cases h2 : has11 s with
    | true => cases (sg s).all isB <;> rfl
    | false =>
      cases h3 : (sg s).all isB with
      | false => simp
      | true =>
        have key : bad0 s = ((!decide (s = Str.ofString "0")) && !(decide ((sg s)[0]? = some 49))) := by
          unfold bad0
          have e0 : decide (s = Str.ofString "0") = decide (sg s = [48]) := by rw [str_eq]; rfl
          have eE : decide (s = Str.ofString "") = decide (sg s = []) := by rw [str_eq]; rfl
          rw [eE] at h1
          rw [e0, ← sg_len]
          cases hs : sg s with
          | nil => rw [hs] at h1; cases h1
          | cons c r =>
            rw [hs, List.all_cons, Bool.and_eq_true] at h3
            have hb := h3.1
            simp only [isB, Bool.or_eq_true, decide_eq_true_eq] at hb
            rcases hb with rfl | rfl
            · cases r <;> simp
            · simp
        rw [key]
        simp
/-! ### the text of a form -/
def txF (l : List Nat) : Str := Txt.join Str.empty (bits (topP l + 1) l)
theorem join_nil : ∀ ps : List (List Nat), TL.joinL [] ps = ps.flatten
  | [] => rfl
  | [p] => by show p = p ++ []; rw [List.append_nil]
  | p :: q :: r => by
    show p ++ ([] ++ TL.joinL [] (q :: r)) = p ++ (q :: r).flatten
    rw [List.nil_append, join_nil (q :: r)]
theorem sg_join (ps : List Str) : sg (Txt.join Str.empty ps) = (ps.map sg).flatten := by
  show TL.tl (Txt.join Str.empty ps) = _
  rw [TL.join_eq, TL.tl_join]
  exact join_nil _
theorem sg_join1 (cs : List Nat) : sg (Txt.join Str.empty (cs.map fun c => (⟨#[c]⟩ : Str))) = cs := by
  rw [sg_join, List.map_map]
  induction cs with
  | nil => rfl
  | cons c r ih => rw [List.map_cons, List.flatten_cons, ih]; rfl
theorem sg_txF (l : List Nat) : sg (txF l) = (List.range (topP l + 1)).map fun i => if topP l - i ∈ l then 49 else 48 := by
  have e : bits (topP l + 1) l = ((List.range (topP l + 1)).map fun i => if topP l - i ∈ l then 49 else 48).map fun c => (⟨#[c]⟩ : Str) := by
    unfold bits
    rw [List.map_map]
    refine List.map_congr_left fun i _ => ?_
    show sign (decide (topP l + 1 - 1 - i ∈ l)) = (⟨#[if topP l - i ∈ l then 49 else 48]⟩ : Str)
    rw [Nat.add_sub_cancel]
    by_cases h : topP l - i ∈ l
    · rw [decide_eq_true h, if_pos h]; exact tx1
    · rw [decide_eq_false h, if_neg h]; exact tx0
  unfold txF
  rw [e, sg_join1]
theorem len_txF (l : List Nat) : (txF l).length = topP l + 1 := by rw [← sg_len, sg_txF, List.length_map, List.length_range]
theorem at_txF {l : List Nat} {i : Nat} (h : i < topP l + 1) : (sg (txF l))[i]? = some (if topP l - i ∈ l then 49 else 48) := by
  rw [sg_txF, List.getElem?_map, List.getElem?_range h]
  rfl
theorem is1_txF {l : List Nat} {i : Nat} : (sg (txF l))[i]? = some 49 ↔ i < topP l + 1 ∧ topP l - i ∈ l := by
  by_cases h : i < topP l + 1
  · rw [at_txF h]
    by_cases h2 : topP l - i ∈ l
    · rw [if_pos h2]; exact ⟨fun _ => ⟨h, h2⟩, fun _ => rfl⟩
    · rw [if_neg h2]; exact ⟨fun e => (by cases e), fun e => absurd e.2 h2⟩
  · rw [List.getElem?_eq_none (by rw [sg_len, len_txF]; omega)]
    exact ⟨fun e => (nomatch e), fun e => absurd e.1 h⟩
theorem top_mem {l : List Nat} (h : l ≠ []) : topP l ∈ l := by
  unfold topP
  rcases Mx.maxD_nat l 0 with ⟨_, e2⟩ | ⟨p, hp, e, _⟩
  · exact absurd e2 h
  · rw [e]; exact hp
theorem top_nil : topP [] = 0 := rfl
theorem top_le {l : List Nat} {p : Nat} (hp : p ∈ l) : p ≤ topP l := by
  have := Mx.maxD_ge (d := 0) hp
  unfold topP
  omega
theorem sub11 {s : Str} {i : Nat} (h : Builtin.Str.subAt s (Str.ofString "11") i = true) : (sg s)[i]? = some 49 ∧ (sg s)[i + 1]? = some 49 := by
  rw [StrLaws.subAt_eq, tx11] at h
  have e : ((sg s).drop i).take 2 = [49, 49] := eq_of_beq h
  have a0 : (((sg s).drop i).take 2)[0]? = some 49 := by rw [e]; rfl
  have a1 : (((sg s).drop i).take 2)[1]? = some 49 := by rw [e]; rfl
  rw [List.getElem?_take, if_pos (by decide), List.getElem?_drop] at a0 a1
  exact ⟨a0, a1⟩
theorem fm_apart {l : List Nat} (h : Mx.Fm l) {p : Nat} (h1 : p ∈ l) (h2 : p + 1 ∈ l) : False := by
  induction l with
  | nil => cases h1
  | cons a r ih =>
    have hl := Mx.fm_lt h
    rcases List.mem_cons.mp h1 with e1 | e1
    · rcases List.mem_cons.mp h2 with e2 | e2
      · omega
      · have := hl _ e2; omega
    · rcases List.mem_cons.mp h2 with e2 | e2
      · have := hl _ e1; omega
      · exact ih (Mx.fm_tail h) e1 e2
theorem okT_txF {l : List Nat} (h : Mx.Fm l) : okT (txF l) = true := by
  have n11 : has11 (txF l) = false := by
    cases hh : has11 (txF l) with
    | false => rfl
    | true =>
      obtain ⟨i, hi, h2⟩ := (StrLaws.found_iff _ _).mp hh
      obtain ⟨a, b⟩ := sub11 h2
      obtain ⟨_, m1⟩ := is1_txF.mp a
      obtain ⟨g, m2⟩ := is1_txF.mp b
      exact (fm_apart h (p := topP l - (i + 1)) m2 (by rw [show topP l - (i + 1) + 1 = topP l - i by omega]; exact m1)).elim
  have n0 : bad0 (txF l) = false := by
    unfold bad0
    rw [len_txF, at_txF (by omega), Nat.sub_zero]
    by_cases e : l = []
    · subst e; rfl
    · rw [if_pos (top_mem e)]; exact Bool.and_false _
  have nE : decide (txF l = Str.ofString "") = false := decide_eq_false fun e => by
    have := len_txF l
    rw [e] at this
    have e0 : (Str.ofString "").length = 0 := by decide
    omega
  have al : (sg (txF l)).all isB = true := by
    rw [List.all_eq_true]
    intro c hc
    rw [sg_txF] at hc
    obtain ⟨i, _, rfl⟩ := List.mem_map.mp hc
    by_cases h2 : topP l - i ∈ l
    · rw [if_pos h2]; rfl
    · rw [if_neg h2]; rfl
  unfold okT
  rw [n11, n0, nE, al]
  rfl
theorem gt_uniq : ∀ {l m : List Nat}, l.Pairwise (· > ·) → m.Pairwise (· > ·) → (∀ k, k ∈ l ↔ k ∈ m) → l = m
  | [], [], _, _, _ => rfl
  | [], b :: m, _, _, h => absurd ((h b).mpr List.mem_cons_self) (by simp)
  | a :: l, [], _, _, h => absurd ((h a).mp List.mem_cons_self) (by simp)
  | a :: l, b :: m, h1, h2, h => by
    obtain ⟨p1, q1⟩ := List.pairwise_cons.mp h1
    obtain ⟨p2, q2⟩ := List.pairwise_cons.mp h2
    have e : a = b := by
      rcases List.mem_cons.mp ((h a).mp List.mem_cons_self) with e | e
      · exact e
      · rcases List.mem_cons.mp ((h b).mpr List.mem_cons_self) with e2 | e2
        · exact e2.symm
        · have := p2 a e
          have := p1 b e2
          omega
    subst e
    rw [gt_uniq q1 q2 fun k => ?_]
    constructor
    · intro hk
      rcases List.mem_cons.mp ((h k).mp (List.mem_cons_of_mem _ hk)) with e | e
      · have := p1 k hk; omega
      · exact e
    · intro hk
      rcases List.mem_cons.mp ((h k).mpr (List.mem_cons_of_mem _ hk)) with e | e
      · have := p2 k hk; omega
      · exact e
theorem range_lt (n : Nat) : (List.range n).Pairwise (· < ·) := List.pairwise_lt_range
theorem plT_txF {l : List Nat} (h : Mx.Fm l) : plT (txF l) = l := by
  refine gt_uniq ?_ (h.imp fun {a b} x => by omega) fun k => ?_
  · unfold plT plU
    refine List.pairwise_map.mpr (((range_lt _).filter _).imp_of_mem fun {a b} ha hb hab => ?_)
    have := List.mem_range.mp (List.mem_filter.mp ha).1
    have := List.mem_range.mp (List.mem_filter.mp hb).1
    show _ > _
    omega
  · unfold plT plU
    rw [List.mem_map]
    constructor
    · rintro ⟨i, hi, rfl⟩
      have h2 := is1_txF.mp (of_decide_eq_true (List.mem_filter.mp hi).2)
      rw [len_txF, Nat.add_sub_cancel]
      exact h2.2
    · intro hk
      have hle := top_le hk
      refine ⟨topP l - k, List.mem_filter.mpr ⟨List.mem_range.mpr (by rw [len_txF]; omega), decide_eq_true (is1_txF.mpr ⟨by omega, by rw [show topP l - (topP l - k) = k by omega]; exact hk⟩)⟩, ?_⟩
      rw [len_txF]
      omega
theorem len_join1 {ps : List Str} {n : Nat} (h : ∀ p ∈ ps, p.length = 1) (hn : ps.length ≤ n) : (Txt.join Str.empty ps).length ≤ n := by
  rw [← sg_len, sg_join, List.length_flatten, List.map_map]
  have : (ps.map (List.length ∘ sg)).sum = ps.length := by
    rw [sum_ones]
    · rw [List.length_map]
    · intro x hx
      obtain ⟨p, hp, rfl⟩ := List.mem_map.mp hx
      show (sg p).length = 1
      rw [sg_len]
      exact h p hp
  omega
theorem len1_sum {ps : List Str} (h : ∀ p ∈ ps, p.length = 1) : (ps.map (·.length)).sum = ps.length := by
  rw [sum_ones]
  · rw [List.length_map]
  · intro x hx
    obtain ⟨p, hp, rfl⟩ := List.mem_map.mp hx
    exact h p hp
theorem inV_intT (k : Int) : ∀ ns : List Int, inV (.int k) (ns.map V.int) = decide (k ∈ ns)
  | [] => rfl
  | n :: ns => by
    show (eqV (.int n) (.int k) || inV (.int k) (ns.map V.int)) = _
    rw [inV_intT k ns]
    have : eqV (.int n) (.int k) = decide (k = n) := by
      rw [Bool.eq_iff_iff]
      simp only [eqV, beq_iff_eq, decide_eq_true_eq]
      exact eq_comm
    rw [this, ← Bool.decide_or]
    exact decide_eq_decide.mpr List.mem_cons.symm
theorem nat_in {l : List Nat} {p : Nat} : decide ((p : Int) ∈ Mx.nat l) = decide (p ∈ l) := by
  refine decide_eq_decide.mpr ?_
  unfold Mx.nat
  rw [List.mem_map]
  constructor
  · rintro ⟨q, hq, e⟩
    have : q = p := by omega
    exact this ▸ hq
  · exact fun h => ⟨p, h, rfl⟩
theorem rv_inN {K : PySem.W.Frag} {H : Hp} {a : Addr} {l : List Nat} {p : Nat} (hs : SqL K H a ((Mx.nat l).map V.int)) : RV (rIn K false) (.int (p : Int)) (.ref a) H (.bl (decide (p ∈ l))) := by
  have := rv_inL (neg := false) (x := .int (p : Int)) hs rfl (by rw [List.all_map]; exact List.all_eq_true.mpr fun _ _ => rfl)
  rw [inV_intT, nat_in] at this
  exact this

/-! ### readings -/
section
variable {K : PySem.W.Frag} {σ : L2.St} {H : Hp} {t1 ta : TA} {te to tl : TE} {tt : TT} {D : Ends} {tu tz : TS} {x y : Str}
theorem walk_enumS {x : Str} : Walk (Ites x) x.cps.size (fun _ => True) (fun i H v H' => ∃ T c, v = .ref T ∧ H T = none ∧ x.cps[i]? = some c ∧ H' = upd H T (.tup [.int (i : Nat), .str ⟨#[c]⟩])) :=
  ⟨fun _ _ hi _ => hi, fun _ _ => Nat.le_refl _, fun _ _ _ _ _ _ y => y⟩
theorem sg_at {i c : Nat} (h : x.cps[i]? = some c) : (sg x)[i]? = some c := by
  unfold sg
  rw [Array.getElem?_toList]
  exact h
/-- for i, j in enumerate(x) -/
theorem q_enumS {i j : Nat} (h : EvA t1 σ H [.str x]) (Pv : Nat → L2.St → Hp → Prop) (h0 : ∀ H1, Ex H H1 → Pv 0 σ H1)
    (hs : ∀ k c σ' H', (sg x)[k]? = some c → Pv k σ' H' → ∀ H1, Ex H' H1 → tu { D with nx := Pv (k + 1), ct := Pv (k + 1), bk := tz D } ((σ'.set i (some (.int (k : Nat)))).set j (some (.str ⟨#[c]⟩))) H1)
    (hd : ∀ σ' H', Pv x.length σ' H' → tz D σ' H') : tSeq (tFor (iEnumS t1) (gTup K 2 (gCons (gName i) (gCons (gName j) gNil))) tu) tz D σ H :=
  h H (Ex.refl H) _ fun H1 e1 => ⟨x, rfl, L2.for_it (D := { D with nx := tz D }) (walk_enumS (x := x)) Pv (h0 H1 e1) (fun _ _ _ _ _ => trivial) (fun k v σ' H' H'' hk p y => by
    obtain ⟨T, c, rfl, hT, hc, rfl⟩ := y
    exact ⟨T, [.int (k : Nat), .str ⟨#[c]⟩], rfl, SqT.of upd_same, rfl, .int (k : Nat), [.str ⟨#[c]⟩], rfl, .str ⟨#[c]⟩, [], rfl, rfl, hs k c σ' H' (sg_at hc) p _ (Ex.new hT)⟩) hd⟩
/-- for j in x -/
theorem q_forStr {j : Nat} (h : Ev te σ H (.str x)) (Pv : Nat → L2.St → Hp → Prop) (h0 : ∀ H1, Ex H H1 → Pv 0 σ H1)
    (hs : ∀ k c σ' H', (sg x)[k]? = some c → Pv k σ' H' → tu { D with nx := Pv (k + 1), ct := Pv (k + 1), bk := tz D } (σ'.set j (some (.str ⟨#[c]⟩))) H')
    (hd : ∀ σ' H', Pv x.length σ' H' → tz D σ' H') : tSeq (tFor (iStr te) (gName j) tu) tz D σ H :=
  h H (Ex.refl H) _ fun H1 e1 => ⟨x, rfl, L2.for_it (D := { D with nx := tz D }) (walk_str (z := x)) Pv (h0 H1 e1) (fun _ _ _ _ _ => trivial) (fun k v σ' H' H'' hk p y => by
    obtain ⟨rfl, c, hc, rfl⟩ := y
    exact hs k c σ' H'' (sg_at hc) p) hd⟩
/-- [e for j in range(n - 1, -1, -1)] -/
theorem el_mapDown {n : Nat} {j : Nat} {vs : List Nat} (g : Nat → V) (h : EvA t1 σ H [.int ((n : Int) - 1), .int (-1), .int (-1)]) (hn : n ≤ 40000) (hw : ∀ x, wipe ((wipe σ vs).set j (some x)) vs = wipe σ vs)
    (he : ∀ i H1, Ex H H1 → i < n → Ev te ((wipe σ vs).set j (some (.int ((n - 1 - i : Nat) : Int)))) H1 (g i)) : EvL (tLc (iRng3 t1) (gName j) tYes te vs) σ H ((List.range n).map g) := by
  have fin : (List.range n).map g = given n (fun _ => true) g := by
    unfold given
    rw [List.filter_eq_self.mpr (fun _ _ => rfl)]
  rw [fin]
  refine fun H0 e Q q => h H0 e _ fun H1 e1 => ⟨_, _, _, n, rfl, by
    have g := RgC.neg (i := (n : Int) - 1) (j := -1) (by omega) (by omega) (by decide) (by decide)
    rw [show ((n : Int) - 1 - -1).toNat = n by omega] at g
    exact g, fun Dl hD => lc_it (walk_rangeC (lo := (n : Int) - 1) (c := -1) (n := n)) (fun i H' => Cw H1 (fun _ => true) g Dl i H') ⟨hD, Ex.new hD, upd_same⟩ (fun _ _ _ _ => trivial) (fun i x H' H'' hi p y => ?_) (fun H5 p => q Dl H5 (fresh_back e1 p.1) (e1.trans p.2.1) p.2.2)⟩
  obtain ⟨rfl, rfl⟩ := y
  have e2 : (n : Int) - 1 + (i : Nat) * -1 = ((n - 1 - i : Nat) : Int) := by omega
  show gName j (.int ((n : Int) - 1 + (i : Nat) * -1)) _ _ _
  rw [e2]
  exact ⟨hw _, cw_turn p (by omega) et_yes fun _ => he i H1 (e.trans e1) hi⟩
theorem el_mapNT {tl : TE} {ns : List Int} {j : Nat} {vs : List Nat} (g : Int → V) (h : EvL tl σ H (ns.map V.int)) (hz : ns.length ≤ 40000) (hw : ∀ x, wipe ((wipe σ vs).set j (some x)) vs = wipe σ vs)
    (he : ∀ n H1, Ex H H1 → n ∈ ns → Ev te ((wipe σ vs).set j (some (.int n))) H1 (g n)) : EvL (tLc (iList K tl) (gName j) tYes te vs) σ H (ns.map g) := by
  have q := el_lcNL (K := K) (tl := tl) (te := te) (t := tYes) (j := j) (vs := vs) (xs := ns.map V.int) (fun _ => true) (fun i => g (ns.getD i 0)) h (by rw [List.length_map]; exact hz) hw (fun _ _ _ _ _ => et_yes) (fun i x H1 e hi _ => by
    obtain ⟨n, hn, rfl⟩ := int_mem hi
    rw [List.getD_eq_getElem?_getD, hn]
    exact he n H1 e (List.mem_of_getElem? hn))
  rw [List.length_map, given_all ns g _ (fun i x hi => by rw [List.getD_eq_getElem?_getD, hi]; rfl)] at q
  exact q
/-- the length of a text, one sign of it, a part of it, two put together -/
theorem ev_lenS (h : Ev te σ H (.str x)) (hz : x.length ≤ 100000) : Ev (tCB (fun xs H Q => ∃ z, xs = [.str z] ∧ z.length ≤ sizeLine ∧ Q (.int z.length) H) (tCons te tNil)) σ H (.int (x.length : Int)) := fun H1 e Q q =>
  h H1 e _ fun H2 e2 => ⟨x, rfl, sz_of hz, q H2 e2⟩
theorem rv_at {i c : Nat} (hz : x.length ≤ 100000) (h : (sg x)[i]? = some c) : RV rIxS (.str x) (.int (i : Int)) H (.str ⟨#[c]⟩) := rv_ixS hz (atI_nat h)
theorem rv_cat (hz : x.length + y.length ≤ 100000) : RV (fun x y H Q => ∃ i j, x = .str i ∧ y = .str j ∧ i.length + j.length ≤ sizeLine ∧ Q (.str (i ++ j)) H) (.str x) (.str y) H (.str (x ++ y)) := fun H1 _ _ q =>
  ⟨x, y, rfl, rfl, sz_of hz, q H1 (Ex.refl H1)⟩
theorem ev_cut {tlo thi : TO} {lo hi : Option Int} (h : Ev te σ H (.str x)) (h1 : EvO tlo σ H lo) (h2 : EvO thi σ H hi) (hz : x.length ≤ 100000) : Ev (tSl rSlS te tlo thi) σ H (.str (cutS x lo hi)) := fun H1 e Q q =>
  h H1 e _ fun H2 e2 => h1 H2 (e.trans e2) _ fun H3 e3 => h2 H3 ((e.trans e2).trans e3) _ fun H4 e4 => ⟨x, rfl, sz_of hz, q H4 ((e2.trans e3).trans e4)⟩
theorem ev_strip (h : Ev to σ H (.str x)) (h2 : Ev te σ H (.str y)) (hz : x.length ≤ 100000) :
    Ev (tBM K "str" (fun x xs H Q => ∃ a b, x = .str a ∧ xs = [.str b] ∧ a.length ≤ sizeLine ∧ Q (.str (Txt.stripChars a b)) H) to (tCons te tNil)) σ H (.str (Txt.stripChars x y)) := fun H1 e Q q =>
  h H1 e _ fun H2 e2 => ⟨rfl, h2 H2 (e.trans e2) _ fun H3 e3 => ⟨x, y, rfl, rfl, sz_of hz, q H3 (e2.trans e3)⟩⟩
theorem ev_starts (h : Ev to σ H (.str x)) (h2 : Ev te σ H (.str y)) :
    Ev (tM1 (fun x xs H Q => ∃ a b, x = .str a ∧ xs = [.str b] ∧ Q (.bl (Txt.startswith a b)) H) to te) σ H (.bl (Txt.startswith x y)) := fun H1 e Q q =>
  h H1 e _ fun H2 e2 => ⟨⟨x, rfl⟩, h2 H2 (e.trans e2) _ fun H3 e3 => ⟨x, y, rfl, rfl, q H3 (e2.trans e3)⟩⟩
theorem rv_inS : RV (fun x y H Q => ∃ i j, x = .str i ∧ y = .str j ∧ Q (.bl (!(Builtin.Str.occurrences j i 0 j.length 1).isEmpty)) H) (.str y) (.str x) H (.bl (!(Builtin.Str.occurrences x y 0 x.length 1).isEmpty)) := fun H1 _ _ q =>
  ⟨y, x, rfl, rfl, q H1 (Ex.refl H1)⟩
theorem map_truesT {α : Type} (xs : List α) : (xs.map fun _ => V.bl true) = (xs.map fun _ => true).map V.bl ∧ (xs.map fun _ => true).all id = true := by
  refine ⟨by rw [List.map_map]; rfl, ?_⟩
  rw [List.all_map]
  exact List.all_eq_true.mpr fun _ _ => rfl
theorem ev_allT {xs : List Int} (h : EvL te σ H (xs.map fun _ => V.bl true)) : Ev (tCB (rAll K) (tCons te tNil)) σ H (.bl true) := by
  have e := map_truesT xs
  rw [e.1] at h
  have g := ev_all (K := K) h
  rw [e.2] at g
  exact g
end
/-! ### things that may be handed in as a text -/
def TxtT (K : PySem.W.Frag) (H : Hp) (x : V) : Option Str → Prop
  | some s => x = .str s ∧ s.length ≤ 20000
  | none => ∃ n, Seven n ∧ n ≠ "str" ∧ Ty K H x n
theorem TxtT.mono {K : PySem.W.Frag} {H H' : Hp} {x : V} {o : Option Str} (e : Ex H H') (h : TxtT K H x o) : TxtT K H' x o := by
  cases o with
  | some s => exact h
  | none => obtain ⟨n, a, b, c⟩ := h; exact ⟨n, a, b, c.mono e⟩
def okO : Option Str → Bool
  | some s => okT s
  | none => false
end Z
namespace Z
open PySem PySem.Spec PyProof.Rows L2 Evl
/-! ### an expression that gives a text of at most n signs -/
section
variable {K : PySem.W.Frag} {σ : L2.St} {H H' : Hp} {ta tb te : TE} {n m : Nat}
def EvS (te : TE) (σ : L2.St) (H : Hp) (n : Nat) : Prop := ∀ H1, Ex H H1 → ∀ Q : VK, (∀ (s : Str) H2, Ex H1 H2 → s.length ≤ n → Q (.str s) H2) → te σ H1 Q
theorem evs_of {x : Str} (h : Ev te σ H (.str x)) (hz : x.length ≤ n) : EvS te σ H n := fun H1 e Q q => h H1 e Q fun H2 e2 => q x H2 e2 hz
theorem evs_cat (ha : EvS ta σ H n) (hb : EvS tb σ H m) (hz : n + m ≤ 100000) : EvS (tOp (fun x y H Q => ∃ i j, x = .str i ∧ y = .str j ∧ i.length + j.length ≤ sizeLine ∧ Q (.str (i ++ j)) H) ta tb) σ H (n + m) := fun H1 e Q q =>
  ha H1 e _ fun x H2 e2 h2 => hb H2 (e.trans e2) _ fun y H3 e3 h3 => ⟨x, y, rfl, rfl, sz_of (by omega), q (x ++ y) H3 (e2.trans e3) (by rw [PySem.Str.length_append]; omega)⟩
theorem evs_call {sp : Sp} {dvs vs : List V} {E : XK} {tr : TA} (h : EvA tr σ H vs) (hs : ∀ H1, Ex H H1 → ∀ Q : VK, (∀ (s : Str) H2, Ex H1 H2 → s.length ≤ n → Q (.str s) H2) → sp (vs ++ dvs) H1 Q E) : EvS (tCall sp dvs E tr) σ H n := fun H1 e Q q =>
  h H1 e _ fun H2 e2 => hs H2 (e.trans e2) Q fun s H3 e3 hz => q s H3 (e2.trans e3) hz
theorem evs_cut {x : Str} {tlo thi : TO} {lo hi : Option Int} (h : Ev te σ H (.str x)) (h1 : EvO tlo σ H lo) (h2 : EvO thi σ H hi) (hz : x.length ≤ 100000) (hn : x.length ≤ n) : EvS (tSl rSlS te tlo thi) σ H n :=
  evs_of (ev_cut h h1 h2 hz) (Nat.le_trans (cutS_length x lo hi) hn)
theorem s_retS {D : Ends} (h : EvS te σ H n) (k : ∀ (s : Str) H1, Ex H H1 → s.length ≤ n → D.rt (.str s) H1) : tRet te D σ H := h H (Ex.refl H) _ k
theorem q_asgS {D : Ends} {tz : TS} {i : Nat} (h : EvS te σ H n) (k : ∀ (s : Str) H1, Ex H H1 → s.length ≤ n → tz D (σ.set i (some (.str s))) H1) : tSeq (tAsg te (gName i)) tz D σ H := h H (Ex.refl H) _ k
end
end Z

namespace Kk
open PySem PySem.Spec PyProof.Rows L2 Evl Z
open PySem.W (Datum)
local macro_rules | `(tactic| walk_at "ex") => `(tactic| first | exact Ex.refl _ | assumption | (refine' Ex.trans ?a ?b; (case b => assumption); (case a => walk_at "ex")))
local macro_rules | `(tactic| walk_at "sq") => `(tactic| first | assumption | exact SqL.of (by assumption) | exact SqL.of upd_same | (refine' ex_l ?e ?h; (case h => assumption); (case e => walk_at "ex")) | (refine' SqL.of (ex_to ?e ?h); (case h => assumption); (case e => walk_at "ex")))
local macro_rules | `(tactic| walk_at "at") => `(tactic| first | assumption | exact upd_same | (refine' ex_to ?e ?h; (case h => assumption); (case e => walk_at "ex")))
local macro_rules | `(tactic| walk_at "rv") => `(tactic| first | exact rv_I0 | exact rv_I (cdiv (by decide) (by decide)) | exact rv_I (show (0 : Int) < _ by decide) | exact rv_I (cpow (by decide) (by decide) (by decide)) | exact rv_eq rfl | exact rv_ne rfl | exact ru_neg)
local macro_rules | `(tactic| walk_at "ev") => `(tactic| first | exact ev_c | exact ev_var rfl | (refine' ev_op ?a ?b ?c; (case a => walk_at "ev"); (case b => walk_at "ev"); (case c => walk_at "rv")) | (refine' ev_un ?a ?c; (case a => walk_at "ev"); (case c => walk_at "rv")) | (refine' ev_len ?a ?c; (case a => walk_at "ev"); (case c => walk_at "sq")))
local macro_rules | `(tactic| walk_at "et") => `(tactic| first | (refine' et_test ?a; (case a => walk_at "ev")) | (refine' et_B ?a; (case a => walk_at "ev")) | (refine' et_not ?a; (case a => walk_at "et")))

def topS (i : Nat) : Stmt := PySem.Challenge.pw_sparsesum_k04_written_and_read.main.body.getD i (.Pass ⟨0, 0, 0, 0⟩)
abbrev s_is_whole : Stmt := topS 8
abbrev N_is_whole : List Str := ["thing"]
theorem sc_is_whole : FnScope N_is_whole ["thing"] (defScope s_is_whole) := ⟨rfl, rfl, rfl, by decide +kernel, rfl, by decide +kernel, by decide +kernel⟩
abbrev s_is_form : Stmt := topS 10
abbrev N_is_form : List Str := ["thing", "before", "place"]
theorem sc_is_form : FnScope N_is_form ["thing"] (defScope s_is_form) := ⟨rfl, rfl, rfl, by decide +kernel, rfl, by decide +kernel, by decide +kernel⟩
abbrev s_need_form : Stmt := topS 11
abbrev N_need_form : List Str := ["thing"]
theorem sc_need_form : FnScope N_need_form ["thing"] (defScope s_need_form) := ⟨rfl, rfl, rfl, by decide +kernel, rfl, by decide +kernel, by decide +kernel⟩
abbrev s_written : Stmt := topS 13
abbrev N_written : List Str := ["form", "signs", "place"]
theorem sc_written : FnScope N_written ["form"] (defScope s_written) := ⟨rfl, rfl, rfl, by decide +kernel, rfl, by decide +kernel, by decide +kernel⟩
abbrev s_read : Stmt := topS 14
abbrev N_read : List Str := ["text", "form", "at", "sign"]
theorem sc_read : FnScope N_read ["text"] (defScope s_read) := ⟨rfl, rfl, rfl, by decide +kernel, rfl, by decide +kernel, by decide +kernel⟩
abbrev s__law_cell_at : Stmt := topS 16
abbrev N__law_cell_at : List Str := ["_law_script", "_law_k"]
theorem sc__law_cell_at : FnScope N__law_cell_at ["_law_script", "_law_k"] (defScope s__law_cell_at) := ⟨rfl, rfl, rfl, by decide +kernel, rfl, by decide +kernel, by decide +kernel⟩
abbrev s__law_whole : Stmt := topS 17
abbrev N__law_whole : List Str := ["_law_found"]
theorem sc__law_whole : FnScope N__law_whole ["_law_found"] (defScope s__law_whole) := ⟨rfl, rfl, rfl, by decide +kernel, rfl, by decide +kernel, by decide +kernel⟩
abbrev s__law_drawn : Stmt := topS 18
abbrev N__law_drawn : List Str := ["_law_cell", "_law_cells", "_law_at", "_law_rising", "_law_one"]
theorem sc__law_drawn : FnScope N__law_drawn ["_law_cell", "_law_cells"] (defScope s__law_drawn) := ⟨rfl, rfl, rfl, by decide +kernel, rfl, by decide +kernel, by decide +kernel⟩
abbrev s__law_text : Stmt := topS 19
abbrev N__law_text : List Str := ["_law_form", "_law_top", "_law_place"]
theorem sc__law_text : FnScope N__law_text ["_law_form"] (defScope s__law_text) := ⟨rfl, rfl, rfl, by decide +kernel, rfl, by decide +kernel, by decide +kernel⟩
abbrev s__law_sign : Stmt := topS 20
abbrev N__law_sign : List Str := ["_law_cell", "_law_some"]
theorem sc__law_sign : FnScope N__law_sign ["_law_cell"] (defScope s__law_sign) := ⟨rfl, rfl, rfl, by decide +kernel, rfl, by decide +kernel, by decide +kernel⟩
abbrev s__law_spoiled : Stmt := topS 21
abbrev N__law_spoiled : List Str := ["_law_script", "_law_text_here", "_law_spot", "_law_cell", "_law_one"]
theorem sc__law_spoiled : FnScope N__law_spoiled ["_law_script", "_law_text_here"] (defScope s__law_spoiled) := ⟨rfl, rfl, rfl, by decide +kernel, rfl, by decide +kernel, by decide +kernel⟩
abbrev s__law_due : Stmt := topS 22
abbrev N__law_due : List Str := ["_law_text_here", "_law_sign_here", "_law_at"]
theorem sc__law_due : FnScope N__law_due ["_law_text_here"] (defScope s__law_due) := ⟨rfl, rfl, rfl, by decide +kernel, rfl, by decide +kernel, by decide +kernel⟩
abbrev s__law_kinds : Stmt := topS 23
abbrev N__law_kinds : List Str := ["_law_thing", "_law_kinds_here", "e"]
theorem sc__law_kinds : FnScope N__law_kinds ["_law_thing"] (defScope s__law_kinds) := ⟨rfl, rfl, rfl, by decide +kernel, rfl, by decide +kernel, by decide +kernel⟩
abbrev s__law_read : Stmt := topS 24
abbrev N__law_read : List Str := ["_law_text_here", "_law_due_here", "_law_found", "_law_place"]
theorem sc__law_read : FnScope N__law_read ["_law_text_here", "_law_due_here"] (defScope s__law_read) := ⟨rfl, rfl, rfl, by decide +kernel, rfl, by decide +kernel, by decide +kernel⟩
abbrev s_law : Stmt := topS 25
abbrev N_law : List Str := ["_law_script", "_law_form", "_law_handed", "_law_found", "_law_due_here", "_law_text_here", "_law_odd"]
theorem sc_law : FnScope N_law ["_law_script"] (defScope s_law) := ⟨rfl, rfl, rfl, by decide +kernel, rfl, by decide +kernel, by decide +kernel⟩
/-- what the top has written -/
structure Txt (K : PySem.W.Frag) (mg : Str → Option Value) where
  n_ValueError : mg "ValueError" = none
  n_all : mg "all" = none
  n_bool : mg "bool" = none
  n_enumerate : mg "enumerate" = none
  n_int : mg "int" = none
  n_isinstance : mg "isinstance" = none
  n_len : mg "len" = none
  n_list : mg "list" = none
  n_max : mg "max" = none
  n_range : mg "range" = none
  n_reversed : mg "reversed" = none
  n_str : mg "str" = none
  a_SparseError : Addr
  g_SparseError : mg "SparseError" = some (.ref a_SparseError)
  a_NoNumber : Addr
  g_NoNumber : mg "NoNumber" = some (.ref a_NoNumber)
  a_NoForm : Addr
  g_NoForm : mg "NoForm" = some (.ref a_NoForm)
  a_NoText : Addr
  g_NoText : mg "NoText" = some (.ref a_NoText)
  a_NoStep : Addr
  g_NoStep : mg "NoStep" = some (.ref a_NoStep)
  a_TooLittle : Addr
  g_TooLittle : mg "TooLittle" = some (.ref a_TooLittle)
  x_NoText : PySem.W.excIn K a_NoText [.type "ValueError", .type "Exception", .type "BaseException", .type "object"] "ValueError.__new__" = true
  k_NoText : PySem.W.keepIn K (.ref a_NoText) = true
  b_NoText : PySem.W.subIn K (.ref a_NoText) (.type "BaseException") = some true
  t_NoText : PySem.W.typeIn K (.ref a_NoText) = some (.type "type")
  e_NoText : ExcC K a_NoText
  m_NoText_SparseError : PySem.W.exmOne K (.ref a_NoText) (.ref a_SparseError) = some true
  m_NoText_NoText : PySem.W.exmOne K (.ref a_NoText) (.ref a_NoText) = some true
  i_NoText_NoNumber : PySem.W.kitOne K (.ref a_NoText) (.ref a_NoNumber) = some false
  i_NoText_ValueError : PySem.W.kitOne K (.ref a_NoText) (.type "ValueError") = some true
  i_NoText_NoForm : PySem.W.kitOne K (.ref a_NoText) (.ref a_NoForm) = some false
  i_NoText_NoText : PySem.W.kitOne K (.ref a_NoText) (.ref a_NoText) = some true
  i_NoText_NoStep : PySem.W.kitOne K (.ref a_NoText) (.ref a_NoStep) = some false
  i_NoText_TooLittle : PySem.W.kitOne K (.ref a_NoText) (.ref a_TooLittle) = some false
  x_NoForm : PySem.W.excIn K a_NoForm [.type "ValueError", .type "Exception", .type "BaseException", .type "object"] "ValueError.__new__" = true
  k_NoForm : PySem.W.keepIn K (.ref a_NoForm) = true
  b_NoForm : PySem.W.subIn K (.ref a_NoForm) (.type "BaseException") = some true
  t_NoForm : PySem.W.typeIn K (.ref a_NoForm) = some (.type "type")
  e_NoForm : ExcC K a_NoForm
  m_NoForm_SparseError : PySem.W.exmOne K (.ref a_NoForm) (.ref a_SparseError) = some true
  m_NoForm_NoText : PySem.W.exmOne K (.ref a_NoForm) (.ref a_NoText) = some false
  i_NoForm_NoNumber : PySem.W.kitOne K (.ref a_NoForm) (.ref a_NoNumber) = some false
  i_NoForm_ValueError : PySem.W.kitOne K (.ref a_NoForm) (.type "ValueError") = some true
  i_NoForm_NoForm : PySem.W.kitOne K (.ref a_NoForm) (.ref a_NoForm) = some true
  i_NoForm_NoText : PySem.W.kitOne K (.ref a_NoForm) (.ref a_NoText) = some false
  i_NoForm_NoStep : PySem.W.kitOne K (.ref a_NoForm) (.ref a_NoStep) = some false
  i_NoForm_TooLittle : PySem.W.kitOne K (.ref a_NoForm) (.ref a_TooLittle) = some false
  f_is_whole : Addr
  d_is_whole : FuncData
  F_is_whole : Fun K "is_whole" "is_whole" s_is_whole f_is_whole d_is_whole
  g_is_whole : mg "is_whole" = some (.ref f_is_whole)
  b_is_whole : Binds K d_is_whole ["thing"] []
  f_is_form : Addr
  d_is_form : FuncData
  F_is_form : Fun K "is_form" "is_form" s_is_form f_is_form d_is_form
  g_is_form : mg "is_form" = some (.ref f_is_form)
  b_is_form : Binds K d_is_form ["thing"] []
  f_need_form : Addr
  d_need_form : FuncData
  F_need_form : Fun K "need_form" "need_form" s_need_form f_need_form d_need_form
  g_need_form : mg "need_form" = some (.ref f_need_form)
  b_need_form : Binds K d_need_form ["thing"] []
  f_written : Addr
  d_written : FuncData
  F_written : Fun K "written" "written" s_written f_written d_written
  g_written : mg "written" = some (.ref f_written)
  b_written : Binds K d_written ["form"] []
  f_read : Addr
  d_read : FuncData
  F_read : Fun K "read" "read" s_read f_read d_read
  g_read : mg "read" = some (.ref f_read)
  b_read : Binds K d_read ["text"] []
  f__law_cell_at : Addr
  d__law_cell_at : FuncData
  F__law_cell_at : Fun K "_law_cell_at" "_law_cell_at" s__law_cell_at f__law_cell_at d__law_cell_at
  g__law_cell_at : mg "_law_cell_at" = some (.ref f__law_cell_at)
  b__law_cell_at : Binds K d__law_cell_at ["_law_script", "_law_k"] []
  f__law_whole : Addr
  d__law_whole : FuncData
  F__law_whole : Fun K "_law_whole" "_law_whole" s__law_whole f__law_whole d__law_whole
  g__law_whole : mg "_law_whole" = some (.ref f__law_whole)
  b__law_whole : Binds K d__law_whole ["_law_found"] []
  f__law_drawn : Addr
  d__law_drawn : FuncData
  F__law_drawn : Fun K "_law_drawn" "_law_drawn" s__law_drawn f__law_drawn d__law_drawn
  g__law_drawn : mg "_law_drawn" = some (.ref f__law_drawn)
  b__law_drawn : Binds K d__law_drawn ["_law_cell", "_law_cells"] []
  f__law_text : Addr
  d__law_text : FuncData
  F__law_text : Fun K "_law_text" "_law_text" s__law_text f__law_text d__law_text
  g__law_text : mg "_law_text" = some (.ref f__law_text)
  b__law_text : Binds K d__law_text ["_law_form"] []
  f__law_sign : Addr
  d__law_sign : FuncData
  F__law_sign : Fun K "_law_sign" "_law_sign" s__law_sign f__law_sign d__law_sign
  g__law_sign : mg "_law_sign" = some (.ref f__law_sign)
  b__law_sign : Binds K d__law_sign ["_law_cell"] []
  f__law_spoiled : Addr
  d__law_spoiled : FuncData
  F__law_spoiled : Fun K "_law_spoiled" "_law_spoiled" s__law_spoiled f__law_spoiled d__law_spoiled
  g__law_spoiled : mg "_law_spoiled" = some (.ref f__law_spoiled)
  b__law_spoiled : Binds K d__law_spoiled ["_law_script", "_law_text_here"] []
  f__law_due : Addr
  d__law_due : FuncData
  F__law_due : Fun K "_law_due" "_law_due" s__law_due f__law_due d__law_due
  g__law_due : mg "_law_due" = some (.ref f__law_due)
  b__law_due : Binds K d__law_due ["_law_text_here"] []
  f__law_kinds : Addr
  d__law_kinds : FuncData
  F__law_kinds : Fun K "_law_kinds" "_law_kinds" s__law_kinds f__law_kinds d__law_kinds
  g__law_kinds : mg "_law_kinds" = some (.ref f__law_kinds)
  b__law_kinds : Binds K d__law_kinds ["_law_thing"] []
  f__law_read : Addr
  d__law_read : FuncData
  F__law_read : Fun K "_law_read" "_law_read" s__law_read f__law_read d__law_read
  g__law_read : mg "_law_read" = some (.ref f__law_read)
  b__law_read : Binds K d__law_read ["_law_text_here", "_law_due_here"] []

section
variable {P : Program} {w : World} {K : PySem.W.Frag} {mg : Str → Option Value} {base : Heap}

/-! is_whole -/
def sp_is_whole (T : Txt K mg) : Sp := fun vs H Q _ => ∃ x, vs = [x] ∧ Kn K H x ∧ RetV (.bl (wholeV x)) H Q
theorem spv_is_whole (T : Txt K mg) {x : V} {H : Hp} (hk : Kn K H x) : SpV (sp_is_whole T) [x] H (.bl (wholeV x)) := fun H1 e Q q E => ⟨x, rfl, hk.mono e, fun H2 e2 => q H2 e2⟩
theorem ok_is_whole (T : Txt K mg) : FnOk P w K mg base CX0 1 T.f_is_whole T.d_is_whole ["thing"] (sp_is_whole T) := by
  refine T.F_is_whole.ok sc_is_whole (fun vs H Q E h => ?_) (fun cdv A outer s H vs Q E hr h => ?_)
  · obtain ⟨x, rfl, _⟩ := h
    rfl
  · obtain ⟨x, rfl, ⟨n, hn, ht⟩, q⟩ := h
    refine ⟨_, (pss_one (ps_ret (pe_and (pe_callB call_isi (by rfl) T.n_isinstance (by decide +kernel) (pa_cons (pv 0) (pa_cons (pe_bltn (v := .ty "int") (by rfl) T.n_int (by decide +kernel) rfl) pa_nil))) (pe_and (pe_not (pe_callB call_isi (by rfl) T.n_isinstance (by decide +kernel) (pa_cons (pv 0) (pa_cons (pe_bltn (v := .ty "bool") (by rfl) T.n_bool (by decide +kernel) rfl) pa_nil)))) (pe_one (pe_cmpR op_ge (pv 0) pe_int (nomark _))))))), ?_⟩
    refine s_ret ?_ q
    by_cases e : n = "int"
    · subst e
      obtain ⟨i, rfl⟩ := ty_int ht
      exact ev_eq (ev_andV (ev_isi (ev_var rfl) ht (b := true) (by decide +kernel)) fun _ => ev_andV (ev_notV (ev_isi (ev_var rfl) ht (b := false) (by decide +kernel))) fun _ => by walk_at "ev") (by simp [wholeV])
    · rw [(ty_ref ht e).2]
      by_cases e2 : n = "bool"
      · subst e2
        exact ev_eq (ev_andV (ev_isi (ev_var rfl) ht (b := true) (by decide +kernel)) fun _ => ev_andV (b := false) (ev_notV (ev_isi (ev_var rfl) ht (b := true) (by decide +kernel))) (fun h => absurd h (by decide))) rfl
      · have hb : kitB n "int" = some false := by
          rcases hn with rfl | rfl | rfl | rfl | rfl | rfl | rfl
          · exact absurd rfl e
          · exact absurd rfl e2
          all_goals decide +kernel
        exact ev_eq (ev_andV (b := false) (ev_isi (ev_var rfl) ht hb) (fun h => absurd h (by decide))) rfl

/-! is_form -/
def sp_is_form (T : Txt K mg) : Sp := fun vs H Q _ => ∃ x b, vs = [x] ∧ FmT K H x b ∧ RetV (.bl b) H Q
theorem spv_is_form (T : Txt K mg) {x : V} {b : Bool} {H : Hp} (h : FmT K H x b) : SpV (sp_is_form T) [x] H (.bl b) := fun H1 e Q q E => ⟨x, b, rfl, h.mono e, fun H2 e2 => q H2 e2⟩
def befV : Option Int → V
  | none => .non
  | some p => .int p
theorem ok_is_form (T : Txt K mg) : FnOk P w K mg base CX0 2 T.f_is_form T.d_is_form ["thing"] (sp_is_form T) := by
  refine T.F_is_form.ok sc_is_form (fun vs H Q E h => ?_) (fun cdv A outer s H vs Q E hr h => ?_)
  · obtain ⟨x, b, rfl, _⟩ := h
    rfl
  · obtain ⟨x, b, rfl, hx, q⟩ := h
    refine ⟨_, (pss_cons (ps_if (pt_not (pt_val (pe_callB call_isi (by rfl) T.n_isinstance (by decide +kernel) (pa_cons (pv 0) (pa_cons (pe_bltn (v := .ty "list") (by rfl) T.n_list (by decide +kernel) rfl) pa_nil))))) (pss_one (ps_ret pe_bl)) pss_nil)
    (pss_cons (ps_set (i := 1) sc_is_form.nd rfl (Or.inl rfl) pe_non)
    (pss_cons (ps_for PassesOwn.never rfl (pi_list (pv 0)) (pg_name (i := 2) sc_is_form.nd rfl (Or.inl rfl)) (pss_cons (ps_if (pt_not (pt_val (pe_call (ok_is_whole T) (hr.mono (by decide)) (by rfl) T.g_is_whole T.F_is_whole.kp T.b_is_whole .nil pass0 (pa_cons (pv 2) pa_nil)))) (pss_one (ps_ret pe_bl)) pss_nil)
    (pss_cons (ps_if (PW.pt (pw_and (pt_cmpR op_notN (pv 1) pe_non (nomark _)) (pw_and1 (pt_cmpR op_lt (pe_op op_sub (pv 1) (pv 2)) pe_int (nomark _))))) (pss_one (ps_ret pe_bl)) pss_nil)
    (pss_one (ps_set (i := 1) sc_is_form.nd rfl (Or.inl rfl) (pv 2))))))
    (pss_one (ps_ret pe_bl))))), ?_⟩
    rcases hx with ⟨a, xs, rfl, hA, hK, rfl⟩ | ⟨n, hn, ne, hT, rfl⟩
    · refine q_when (b := false) (et_eq (et_not (et_B (ev_isi (ev_var rfl) (TyOf.lst hA) (b := true) (by decide +kernel)))) rfl) (fun hb _ _ => absurd hb (by decide)) (fun _ H1 e1 => ?_)
      refine q_asg ev_c fun H2 e2 => ?_
      refine q_forLn (xs := xs) (ev_var rfl) (SqL.of (by walk_at "at")) (fun i σ' H' => ∃ y bf, σ' = [some (.ref a), some (befV bf), y] ∧ Ex H H' ∧ fmV none xs = fmV bf (xs.drop i)) (fun H3 e3 => ⟨_, none, rfl, by walk_at "ex", rfl⟩) (fun i σ' H' _ h => by obtain ⟨y, bf, _, e, _⟩ := h; exact SqL.of (ex_to e hA)) ?_ ?_
      · rintro i x σ' H' hi ⟨y, bf, rfl, eH, hv⟩
        have hd : xs.drop i = x :: xs.drop (i + 1) := by
          have hi2 : i < xs.length := (List.getElem?_eq_some_iff.mp hi).1
          rw [List.drop_eq_getElem_cons hi2]
          rw [(List.getElem?_eq_some_iff.mp hi).2]
        have hk : Kn K H' x := (hK x (List.mem_of_getElem? hi)).mono eH
        rw [hd] at hv
        refine q_when (b := !wholeV x) (et_not (et_B (ev_call (ea_cons (ev_var rfl) ea_nil) (spv_is_whole T hk)))) (fun hb H3 e3 => ?_) (fun hb H3 e3 => ?_)
        · have hf : fmV none xs = false := by
            rw [hv]
            cases x <;> simp [wholeV] at hb <;> simp [fmV]
            intro h
            omega
          rw [hf] at q
          exact s_ret ev_c fun H4 e4 => q H4 (by walk_at "ex")
        · obtain ⟨p, rfl, hp⟩ : ∃ p, x = .int p ∧ 0 ≤ p := by
            cases x <;> simp [wholeV] at hb
            exact ⟨_, rfl, hb⟩
          have hv2 : fmV none xs = (gap bf p && fmV (some p) (xs.drop (i + 1))) := by
            rw [hv]
            show (decide ((0 : Int) ≤ p) && (gap bf p && fmV (some p) (xs.drop (i + 1)))) = _
            rw [decide_eq_true hp, Bool.true_and]
          refine q_when (b := !gap bf p) ?_ (fun hb H4 e4 => ?_) (fun hb H4 e4 => ?_)
          · cases bf with
            | none => exact et_eq (et_and (a := false) (b := false) (et_eq (et_test (ev_op (ev_var rfl) ev_c rv_notN)) rfl) (fun h => absurd h (by decide))) rfl
            | some z => exact et_eq (et_and (a := true) (et_eq (et_test (ev_op (ev_var rfl) ev_c rv_notN)) rfl) (fun _ => by walk_at "et")) (by simp [gap])
          · have hf : fmV none xs = false := by
              rw [hv2]
              simp at hb
              rw [hb]
              rfl
            rw [hf] at q
            exact s_ret ev_c fun H5 e5 => q H5 (by walk_at "ex")
          · refine s_asg (ev_var rfl) fun H5 e5 => ⟨_, some p, rfl, by walk_at "ex", ?_⟩
            rw [hv2]
            simp at hb
            rw [hb, Bool.true_and]
      · rintro σ' H' ⟨y, bf, rfl, eH, hv⟩
        rw [List.drop_length] at hv
        have hf : fmV none xs = true := hv.trans (by cases bf <;> rfl)
        rw [hf] at q
        exact s_ret ev_c fun H5 e5 => q H5 (by walk_at "ex")
    · have hb : kitB n "list" = some false := by
        rcases hn with rfl | rfl | rfl | rfl | rfl | rfl | rfl
        case inr.inr.inr.inr.inl => exact absurd rfl ne
        all_goals decide +kernel
      refine q_when (b := true) (et_eq (et_not (et_B (ev_isi (ev_var rfl) hT hb))) rfl) (fun _ H1 e1 => ?_) (fun h _ _ => absurd h (by decide))
      exact s_ret ev_c fun H2 e2 => q H2 (e1.trans e2)

/-! need_form -/
def sp_need_form (T : Txt K mg) : Sp := fun vs H Q E => ∃ x b, vs = [x] ∧ FmT K H x b ∧ (b = false → ∀ H', Ex H H' → E (.ref T.a_NoForm) none H') ∧ (b = true → RetV .non H Q)
theorem spv_need_form (T : Txt K mg) {x : V} {H : Hp} (h : FmT K H x true) : SpV (sp_need_form T) [x] H .non := fun H1 e Q q E => ⟨x, true, rfl, h.mono e, fun z => (nomatch z), fun _ H2 e2 => q H2 e2⟩
theorem ok_need_form (T : Txt K mg) : FnOk P w K mg base (L2.CX P w) 3 T.f_need_form T.d_need_form ["thing"] (sp_need_form T) := by
  refine T.F_need_form.okX sc_need_form (fun vs H Q E h => ?_) (fun cdv A outer s H vs Q E hr h => ?_)
  · obtain ⟨x, b, rfl, _⟩ := h
    rfl
  · obtain ⟨x, b, rfl, hx, qE, q⟩ := h
    refine ⟨_, (pss_one (ps_if (pt_not (pt_val (pe_call (ok_is_form T) (hr.mono (by decide)) (by rfl) T.g_is_form T.F_is_form.kp T.b_is_form .nil pass0 (pa_cons (pv 0) pa_nil)))) (pss_one (ps_raise rfl (takes_of rfl rfl rfl rfl) (pmk_own PySem.F.excBase_ValueError T.x_NoForm T.g_NoForm T.k_NoForm (raises_own T.b_NoForm T.t_NoForm) rfl))) pss_nil)), ?_⟩
    refine s_when (b := !b) (et_not (et_B (ev_call (ea_cons (ev_var rfl) ea_nil) (spv_is_form T hx)))) (fun hb H1 e1 => ?_) (fun hb H1 e1 => ?_)
    · exact qE (by simpa using hb) H1 e1
    · exact q (by simpa using hb) H1 e1

/-! written -/
def sp_written (T : Txt K mg) : Sp := fun vs H Q E => ∃ x b, vs = [x] ∧ FmT K H x b ∧ (b = false → ∀ H', Ex H H' → E (.ref T.a_NoForm) none H') ∧
  (b = true → ∃ a l, x = .ref a ∧ H a = some (.lst ((Mx.nat l).map V.int)) ∧ l.length ≤ 3000 ∧ (∀ p ∈ l, p < 10000) ∧ RetV (.str (Txt.join Str.empty (bits (topP l + 1) l))) H Q)
theorem ok_written (T : Txt K mg) : FnOk P w K mg base (L2.CX P w) 4 T.f_written T.d_written ["form"] (sp_written T) := by
  refine T.F_written.okX sc_written (fun vs H Q E h => ?_) (fun cdv A outer s H vs Q E hr h => ?_)
  · obtain ⟨x, b, rfl, _⟩ := h
    rfl
  · obtain ⟨x, b, rfl, hx, qE, q⟩ := h
    refine ⟨_, (pss_cons (ps_expr (pe_call (ok_need_form T) (hr.mono (by decide)) (by rfl) T.g_need_form T.F_need_form.kp T.b_need_form .nil (passes_call (takes_of rfl rfl rfl rfl) (fun _ _ _ _ h => h)) (pa_cons (pv 0) pa_nil)))
    (pss_cons (ps_set (i := 1) sc_written.nd rfl (Or.inl rfl) (pe_op op_rep (pe_lst (pa_cons pe_str pa_nil)) (pe_op op_add pe_int (pe_callBK (cr_maxDef rfl (hu_of hr)) (by rfl) T.n_max (by decide +kernel) (pa_cons (pv 0) pa_nil) (pk_cons pe_int pk_nil)))))
    (pss_cons (ps_for (passes_of rfl) rfl (pi_list (pv 0)) (pg_name (i := 2) sc_written.nd rfl (Or.inl rfl)) (pss_one (ps_asg pe_str (pg_sub (pv 1) (pe_op op_sub (pe_op op_sub (pe_callB call_len_seq (by rfl) T.n_len (by decide +kernel) (pa_cons (pv 1) pa_nil)) pe_int) (pv 2)) set_list))))
    (pss_one (ps_ret (pe_join pe_str (pv 1))))))), ?_⟩
    refine q_callD (ea_cons (ev_var rfl) ea_nil) fun H0 e0 => ⟨x, b, rfl, hx.mono e0, fun hb H' e' => qE hb H' (e0.trans e'), fun hb H1 e01 => ?_⟩
    have e1 : Ex H H1 := e0.trans e01
    obtain ⟨a, l, rfl, hA, hl, hp, q⟩ := q hb
    obtain ⟨tv, tp, tb⟩ := topP_ok (l := l) (n := 10000) hp (by decide)
    refine q_asgL (el_rep (k := topP l + 1) (el_lst (ea_cons ev_c ea_nil) (show 1 ≤ 100000 by decide)) (fun H2 e2 => ev_eq (ev_op ev_c (ev_maxDef (ev_var rfl) (SqL.of (ex_to e2 (ex_to e1 hA))) (by walk_at "ev")) rv_I0) (by rw [tv]; congr 1; omega)) (by show 1 * _ ≤ _; omega) (by omega)) fun r H2 nr e2 h2 => ?_
    rw [rep_bits] at h2
    refine q_forLn (xs := (Mx.nat l).map V.int) (ev_var rfl) (SqL.of (ex_to e2 (ex_to e1 hA))) (fun i σ' H' => ∃ y, σ' = [some (.ref a), some (.ref r), y] ∧ Ex H H' ∧ H' r = some (.lst ((bits (topP l + 1) (l.take i)).map V.str))) (fun H3 e3 => ⟨_, rfl, by walk_at "ex", ex_to e3 h2⟩) (fun i σ' H' _ h => by obtain ⟨y, _, e, _⟩ := h; exact SqL.of (ex_to e hA)) ?_ ?_
    · rintro i x σ' H' hi ⟨y, rfl, eH, hR⟩
      obtain ⟨p, hp2, rfl⟩ := nat_mem hi
      have hpt := tp p (List.mem_of_getElem? hp2)
      refine s_setL (j := topP l + 1 - 1 - p) hR ev_c (ev_var rfl) (ev_eq (ev_op (ev_op (ev_len (ev_var rfl) (SqL.of hR)) ev_c rv_I0) (ev_var rfl) rv_I0) (by rw [List.length_map, bits_len]; congr 1; omega)) (by rw [List.length_map, bits_len]; omega) fun H3 e3 => ⟨_, rfl, Ex.mut (by walk_at "ex") (fresh_back e1 nr), ?_⟩
      rw [upd_same]
      have ht : l.take (i + 1) = l.take i ++ [p] := by
        rw [List.take_add_one, hp2]
        rfl
      rw [ht, ← bits_set (by omega), List.map_set]
    · rintro σ' H' ⟨y, rfl, eH, hR⟩
      have e : l.take ((Mx.nat l).map V.int).length = l := by rw [List.length_map, nat_len, List.take_length]
      rw [e] at hR
      exact s_ret (ev_join ev_c (ev_var rfl) (SqL.of hR) (by rw [bits_sum, bits_len]; show _ + _ * 0 ≤ _; omega)) fun H3 e3 => q H3 (by walk_at "ex")

/-! read -/
def sp_read (T : Txt K mg) : Sp := fun vs H Q E => ∃ x o, vs = [x] ∧ TxtT K H x o ∧ (okO o = false → ∀ H', Ex H H' → E (.ref T.a_NoText) none H') ∧
  (∀ s, o = some s → okT s = true → RetL ((Mx.nat (plT s)).map V.int) H Q)
theorem ok_read (T : Txt K mg) : FnOk P w K mg base (L2.CX P w) 1 T.f_read T.d_read ["text"] (sp_read T) := by
  refine T.F_read.okX sc_read (fun vs H Q E h => ?_) (fun cdv A outer s H vs Q E hr h => ?_)
  · obtain ⟨x, o, rfl, _⟩ := h
    rfl
  · obtain ⟨x, o, rfl, hx, qE, q⟩ := h
    refine ⟨_, (pss_cons (ps_if (PW.pt (pw_or (pt_not (pt_val (pe_callB call_isi (by rfl) T.n_isinstance (by decide +kernel) (pa_cons (pv 0) (pa_cons (pe_bltn (v := .ty "str") (by rfl) T.n_str (by decide +kernel) rfl) pa_nil))))) (pw_or1 (pt_cmpR op_eq (pv 0) pe_str (nomark _))))) (pss_one (ps_raise rfl (takes_of rfl rfl rfl rfl) (pmk_own PySem.F.excBase_ValueError T.x_NoText T.g_NoText T.k_NoText (raises_own T.b_NoText T.t_NoText) rfl))) pss_nil)
    (pss_cons (ps_if (PW.pt (pw_or (pt_cmpR op_ne (pe_bm PySem.F.plainAttrs_str PySem.F.slot_str_strip PySem.F.type_str_strip mt_stripChars (pv 0) (pa_cons pe_str pa_nil)) pe_str (nomark _)) (pw_or1 (pt_cmpR op_in_str pe_str (pv 0) (by rfl))))) (pss_one (ps_raise rfl (takes_of rfl rfl rfl rfl) (pmk_own PySem.F.excBase_ValueError T.x_NoText T.g_NoText T.k_NoText (raises_own T.b_NoText T.t_NoText) rfl))) pss_nil)
    (pss_cons (ps_if (PW.pt (pw_and (pt_cmpR op_ne (pv 0) pe_str (nomark _)) (pw_and1 (pt_not (pt_val (pe_m1 PySem.F.slot_str_startswith PySem.F.type_str_startswith mt_startswith (pv 0) pe_str)))))) (pss_one (ps_raise rfl (takes_of rfl rfl rfl rfl) (pmk_own PySem.F.excBase_ValueError T.x_NoText T.g_NoText T.k_NoText (raises_own T.b_NoText T.t_NoText) rfl))) pss_nil)
    (pss_cons (ps_set (i := 1) sc_read.nd rfl (Or.inl rfl) (pe_lst pa_nil))
    (pss_cons (ps_for (passes_of rfl) rfl (pi_enumS (by rfl) T.n_enumerate (pa_cons (pv 0) pa_nil)) (pg_tup rfl (pgs_cons (pg_name (i := 2) sc_read.nd rfl (Or.inl rfl)) (pgs_cons (pg_name (i := 3) sc_read.nd rfl (Or.inl rfl)) pgs_nil))) (pss_one (ps_if (pt_cmpR op_eq (pv 3) pe_str (nomark _)) (pss_one (ps_expr (pe_bm PySem.F.plainAttrs_list PySem.F.slot_list_append PySem.F.type_list_append mt_append (pv 1) (pa_cons (pe_op op_sub (pe_op op_sub (pe_callB call_len_str (by rfl) T.n_len (by decide +kernel) (pa_cons (pv 0) pa_nil)) pe_int) (pv 2)) pa_nil)))) pss_nil)))
    (pss_one (ps_ret (pv 1)))))))), ?_⟩
    cases o with
    | none =>
      obtain ⟨n, hn, ne, ht⟩ := hx
      have hb : kitB n "str" = some false := by
        rcases hn with rfl | rfl | rfl | rfl | rfl | rfl | rfl
        case inr.inr.inr.inl => exact absurd rfl ne
        all_goals decide +kernel
      exact q_when (b := true) (et_eq (et_or (a := true) (b := true) (et_eq (et_not (et_B (ev_isi (ev_var rfl) ht hb))) rfl) (fun h => absurd h (by decide))) rfl) (fun _ H1 e1 => qE rfl H1 e1) (fun h _ _ => absurd h (by decide))
    | some s =>
      obtain ⟨rfl, hz⟩ := hx
      have key := okT_read s
      refine q_when (b := decide (s = Str.ofString "")) (et_eq (et_or (a := false) (b := decide (s = Str.ofString "")) (et_eq (et_not (et_B (ev_isi (ev_var rfl) (TyOf.str s) (b := true) (by decide +kernel)))) rfl) (fun _ => et_eq (et_test (ev_op (ev_var rfl) ev_c (rv_eq rfl))) dec_tx)) (Bool.false_or _)) (fun hb H1 e1 => qE (by show okT s = false; rw [key, hb]; rfl) H1 e1) (fun hb1 H1 e1 => ?_)
      refine q_when (b := (!decide (Txt.stripChars s (Str.ofString "01") = Str.ofString "")) || has11 s) (et_or (et_eq (et_test (ev_op (ev_strip (ev_var rfl) ev_c (by omega)) ev_c (rv_ne rfl))) (by rw [dec_tx])) (fun _ => et_test (ev_op ev_c (ev_var rfl) rv_inS))) (fun hb H2 e2 => qE (by show okT s = false; rw [key, hb1, hb]; rfl) H2 (e1.trans e2)) (fun hb2 H2 e2 => ?_)
      refine q_when (b := (!decide (s = Str.ofString "0")) && !(Txt.startswith s (Str.ofString "1"))) (et_and (et_eq (et_test (ev_op (ev_var rfl) ev_c (rv_ne rfl))) (by rw [dec_tx])) (fun _ => et_not (et_B (ev_starts (ev_var rfl) ev_c)))) (fun hb H3 e3 => qE (by show okT s = false; rw [key, hb1, hb2, hb]; rfl) H3 (by walk_at "ex")) (fun hb3 H3 e3 => ?_)
      have ok : okT s = true := by rw [key, hb1, hb2, hb3]; rfl
      have e03 : Ex H H3 := by walk_at "ex"
      refine q_asgL (el_lst ea_nil (by decide)) fun r H4 nr e4 h4 => ?_
      have nr0 : H r = none := fresh_back e03 nr
      refine q_enumS (x := s) (ea_cons (ev_var rfl) ea_nil) (fun i σ' H' => ∃ y z, σ' = [some (.str s), some (.ref r), y, z] ∧ Ex H H' ∧ H' r = some (.lst ((Mx.nat (plU s i)).map V.int))) (fun H5 e5 => ⟨_, _, rfl, by walk_at "ex", ex_to e5 h4⟩) ?_ ?_
      · rintro i c σ' H' hc ⟨y, z, rfl, eH, hR⟩ H5 e5
        have hi : i < s.length := by
          rw [← sg_len]
          exact (List.getElem?_eq_some_iff.mp hc).1
        refine s_when (b := decide (c = 49)) (et_eq (et_test (ev_op (ev_var rfl) ev_c (rv_eq rfl))) (one_sign tx1)) (fun hb H6 e6 => ?_) (fun hb H6 e6 => ⟨_, _, rfl, by walk_at "ex", ?_⟩)
        · have hc2 := of_decide_eq_true hb
          subst hc2
          refine s_app (ex_to e6 (ex_to e5 hR)) (ev_var rfl) (ev_op (ev_op (ev_lenS (ev_var rfl) (by omega)) ev_c rv_I0) (ev_var rfl) rv_I0) (by rw [List.length_map, nat_len]; have := plU_len s i; omega) fun H7 e7 => ⟨_, _, rfl, Ex.mut (by walk_at "ex") nr0, ?_⟩
          rw [upd_same, plU_yes hc, nat_snoc]
          congr 5
          omega
        · have hne := of_decide_eq_false hb
          rw [plU_no fun h => hne (Option.some.inj (hc.symm.trans h))]
          exact ex_to e6 (ex_to e5 hR)
      · rintro σ' H' ⟨y, z, rfl, eH, hR⟩
        exact s_ret (ev_var rfl) fun H5 e5 => q s rfl ok r H5 nr0 (eH.trans e5) (ex_to e5 hR)

/-! _law_cell_at: a cell of the script, else 0 -/
def cell (ns : List Int) (k : Nat) : Int := ns.getD k 0
def sp__law_cell_at (T : Txt K mg) : Sp := fun vs H Q _ => ∃ a ns, ∃ k : Nat, vs = [.ref a, .int k] ∧ SqL K H a (ns.map V.int) ∧ RetV (.int (cell ns k)) H Q
theorem spv__law_cell_at (T : Txt K mg) {a : Addr} {ns : List Int} {H : Hp} {k : Nat} (hS : SqL K H a (ns.map V.int)) : SpV (sp__law_cell_at T) [.ref a, .int k] H (.int (cell ns k)) := fun H1 e Q q E => ⟨a, ns, k, rfl, ex_l e hS, fun H2 e2 => q H2 e2⟩
theorem ok__law_cell_at (T : Txt K mg) : FnOk P w K mg base CX0 1 T.f__law_cell_at T.d__law_cell_at ["_law_script", "_law_k"] (sp__law_cell_at T) := by
  refine T.F__law_cell_at.ok sc__law_cell_at (fun vs H Q E h => ?_) (fun cdv A outer s H vs Q E hr h => ?_)
  · obtain ⟨a, ns, k, rfl, _⟩ := h
    rfl
  · obtain ⟨a, ns, k, rfl, hS, q⟩ := h
    refine ⟨_, (pss_cons (ps_if (pt_cmpR op_lt (pv 1) (pe_callB call_len_seq (by rfl) T.n_len (by decide +kernel) (pa_cons (pv 0) pa_nil)) (nomark _)) (pss_one (ps_ret (pe_ix ix_list (pv 0) (pv 1) (fun _ _ => rfl)))) pss_nil)
    (pss_one (ps_ret pe_int))), ?_⟩
    refine q_when (b := decide ((k : Int) < ns.length)) ?_ (fun hb H1 e1 => ?_) (fun hb H1 e1 => ?_)
    · exact et_eq (by walk_at "et") (by rw [List.length_map])
    · have hk : k < ns.length := by
        have := of_decide_eq_true hb
        omega
      have g : (ns.map V.int)[k]? = some (.int (cell ns k)) := by
        unfold cell
        rw [List.getElem?_map, List.getElem?_eq_getElem hk, List.getD_eq_getElem?_getD, List.getElem?_eq_getElem hk]
        rfl
      exact s_ret (ev_op (ev_var rfl) (ev_var rfl) (rv_ixL (ex_l e1 hS) (atI_nat g))) fun H2 e2 => q H2 (e1.trans e2)
    · have hk : ¬ k < ns.length := by
        have := of_decide_eq_false hb
        omega
      have g : cell ns k = 0 := by
        unfold cell
        rw [List.getD_eq_getElem?_getD, List.getElem?_eq_none (by omega)]
        rfl
      rw [g] at q
      exact s_ret ev_c fun H2 e2 => q H2 (e1.trans e2)

/-! _law_whole -/
def sp__law_whole (T : Txt K mg) : Sp := fun vs H Q _ => ∃ x, vs = [x] ∧ Kn K H x ∧ RetV (.bl (isIntV x)) H Q
theorem spv__law_whole (T : Txt K mg) {x : V} {H : Hp} (hk : Kn K H x) : SpV (sp__law_whole T) [x] H (.bl (isIntV x)) := fun H1 e Q q E => ⟨x, rfl, hk.mono e, fun H2 e2 => q H2 e2⟩
theorem spv__law_whole_int (T : Txt K mg) {i : Int} {H : Hp} : SpV (sp__law_whole T) [.int i] H (.bl true) := spv__law_whole T kn_int
theorem ok__law_whole (T : Txt K mg) : FnOk P w K mg base CX0 1 T.f__law_whole T.d__law_whole ["_law_found"] (sp__law_whole T) := by
  refine T.F__law_whole.ok sc__law_whole (fun vs H Q E h => ?_) (fun cdv A outer s H vs Q E hr h => ?_)
  · obtain ⟨x, rfl, _⟩ := h
    rfl
  · obtain ⟨x, rfl, ⟨n, hn, ht⟩, q⟩ := h
    refine ⟨_, (pss_one (ps_ret (pe_and (pe_callB call_isi (by rfl) T.n_isinstance (by decide +kernel) (pa_cons (pv 0) (pa_cons (pe_bltn (v := .ty "int") (by rfl) T.n_int (by decide +kernel) rfl) pa_nil))) (pe_one (pe_not (pe_callB call_isi (by rfl) T.n_isinstance (by decide +kernel) (pa_cons (pv 0) (pa_cons (pe_bltn (v := .ty "bool") (by rfl) T.n_bool (by decide +kernel) rfl) pa_nil)))))))), ?_⟩
    refine s_ret ?_ q
    by_cases e : n = "int"
    · subst e
      obtain ⟨i, rfl⟩ := ty_int ht
      exact ev_eq (ev_andV (ev_isi (ev_var rfl) ht (b := true) (by decide +kernel)) fun _ => ev_notV (ev_isi (ev_var rfl) ht (b := false) (by decide +kernel))) rfl
    · rw [(ty_ref ht e).1]
      by_cases e2 : n = "bool"
      · subst e2
        exact ev_eq (ev_andV (ev_isi (ev_var rfl) ht (b := true) (by decide +kernel)) fun _ => ev_notV (ev_isi (ev_var rfl) ht (b := true) (by decide +kernel))) rfl
      · have hb : kitB n "int" = some false := by
          rcases hn with rfl | rfl | rfl | rfl | rfl | rfl | rfl
          · exact absurd rfl e
          · exact absurd rfl e2
          all_goals decide +kernel
        exact ev_eq (ev_andV (b := false) (ev_isi (ev_var rfl) ht hb) (fun h => absurd h (by decide))) rfl

/-! _law_drawn: some form -/
def sp__law_drawn (T : Txt K mg) : Sp := fun vs H Q _ => ∃ c a, ∃ ns : List Int, vs = [.int c, .ref a] ∧ H a = some (.lst (ns.map V.int)) ∧ ns.length ≤ 40 ∧ ∀ l, Mx.Fm l → (∀ p ∈ l, p < 1000) → l.length ≤ 100 → RetL ((Mx.nat l).map V.int) H Q
theorem ok__law_drawn (T : Txt K mg) : FnOk P w K mg base CX0 1 T.f__law_drawn T.d__law_drawn ["_law_cell", "_law_cells"] (sp__law_drawn T) := by
  refine T.F__law_drawn.ok sc__law_drawn (fun vs H Q E h => ?_) (fun cdv A outer s H vs Q E hr h => ?_)
  · obtain ⟨c, a, ns, rfl, _⟩ := h
    rfl
  · obtain ⟨c, a, ns, rfl, hA, hz, q⟩ := h
    refine ⟨_, (pss_cons (ps_set (i := 2) sc__law_drawn.nd rfl (Or.inl rfl) (pe_op op_mod (pv 0) pe_int))
    (pss_cons (ps_set (i := 3) sc__law_drawn.nd rfl (Or.inl rfl) (pe_lst pa_nil))
    (pss_cons (ps_for PassesOwn.never rfl (pi_list (pv 1)) (pg_name (i := 4) sc__law_drawn.nd rfl (Or.inl rfl)) (pss_cons (ps_expr (pe_bm PySem.F.plainAttrs_list PySem.F.slot_list_append PySem.F.type_list_append mt_append (pv 3) (pa_cons (pv 2) pa_nil)))
    (pss_one (ps_set (i := 2) sc__law_drawn.nd rfl (Or.inl rfl) (pe_op op_add (pe_op op_add (pv 2) pe_int) (pe_op op_mod (pv 4) pe_int))))))
    (pss_cons (ps_if (PW.pt (pw_and (pt_cmpR (op_neD hr.units) (pv 3) (pe_lst pa_nil) (nomark _)) (pw_and1 (pt_cmpR op_eq (pe_op op_mod (pe_op op_fdiv (pv 0) pe_int) pe_int) pe_int (nomark _))))) (pss_one (ps_expr (pe_bm PySem.F.plainAttrs_list PySem.F.slot_list_append PySem.F.type_list_append mt_append (pv 3) (pa_cons (pe_op op_add (pe_ix ix_list (pv 3) (pe_un un_neg pe_int) (fun _ _ => rfl)) pe_int) pa_nil)))) pss_nil)
    (pss_one (ps_ret (pe_lstRev rfl (by rfl) T.n_list (by rfl) T.n_reversed (pv 3)))))))), ?_⟩
    refine q_asg (ev_op (ev_var rfl) ev_c (rv_I (by decide))) fun H1 e1 => ?_
    refine q_asgL (el_lst ea_nil (by decide)) fun r H2 hr e2 h2 => ?_
    have nr : H r = none := fresh_back e1 hr
    refine q_forLn (xs := ns.map V.int) (ev_var rfl) (SqL.of (by walk_at "at")) (fun i σ' H' => ∃ (l : List Nat) (p : Nat) (y : Option V), σ' = [some (.int c), some (.ref a), some (.int (p : Int)), some (.ref r), y] ∧ Ex H H' ∧ H' r = some (.lst ((Mx.nat l).map V.int)) ∧ (∀ x ∈ l, x + 2 ≤ p) ∧ l.Pairwise (fun a b => a + 2 ≤ b) ∧ p ≤ 3 + 5 * i ∧ l.length = i)
      (fun H3 e3 => ⟨[], (c % 4).toNat, none, ?_, by walk_at "ex", ex_to e3 h2, by simp, List.Pairwise.nil, by omega, rfl⟩) (fun i σ' H' _ h => by obtain ⟨l, p, y, _, e, _⟩ := h; exact SqL.of (ex_to e hA)) ?_ ?_
    · rw [show ((c % 4).toNat : Int) = c % 4 by omega]
      rfl
    · rintro i x σ' H' hi ⟨l, p, y, rfl, eH, hR, hb, hf, hp, hl⟩
      have hi2 : i < ns.length := by
        have := (List.getElem?_eq_some_iff.mp hi).1
        rw [List.length_map] at this
        exact this
      obtain ⟨n, _, rfl⟩ := int_mem hi
      refine q_app hR (ev_var rfl) (ev_var rfl) (by rw [List.length_map, nat_len]; omega) fun H4 e4 => ?_
      refine s_asg (ev_op (ev_op (ev_var rfl) ev_c rv_I0) (ev_op (ev_var rfl) ev_c (rv_I (by decide))) rv_I0) fun H5 e5 => ⟨l ++ [p], p + 2 + (n % 4).toNat, some (.int n), ?_, ?_, ?_, ?_, ?_, by omega, by rw [List.length_append, hl]; rfl⟩
      · rw [show ((p + 2 + (n % 4).toNat : Nat) : Int) = (p : Int) + 2 + n % 4 by omega]
        rfl
      · exact Ex.trans (Ex.mut (by walk_at "ex") nr) e5
      · exact ex_to e5 (upd_same.trans (by rw [nat_snoc]))
      · intro x hx
        rcases List.mem_append.mp hx with h | h
        · have := hb x h
          omega
        · rw [List.mem_singleton.mp h]
          omega
      · refine List.pairwise_append.mpr ⟨hf, List.pairwise_singleton _ _, fun x hx z hz => ?_⟩
        rw [List.mem_singleton.mp hz]
        exact hb x hx
    · rintro σ' H' ⟨l, p, y, rfl, eH, hR, hb, hf, hp, hl⟩
      rw [List.length_map] at hp hl
      have fin : ∀ (m : List Nat) (H4 : Hp), m.Pairwise (fun a b => a + 2 ≤ b) → (∀ x ∈ m, x < 1000) → m.length ≤ 100 → Ex H H4 → H4 r = some (.lst ((Mx.nat m).map V.int)) → ∀ y : Option V, (tRet (tLstRev K (tVar 3))) { nx := fun _ H' => Q .non H', rt := Q } [some (.int c), some (.ref a), some (.int (p : Int)), some (.ref r), y] H4 := fun m H4 hm hx hml e4 h4 y => by
        refine s_retL (xs := (Mx.nat m.reverse).map V.int) (el_eq (el_rev (ev_var rfl) (SqL.of h4)) ?_) fun s H5 hs e5 h5 => q m.reverse (List.pairwise_reverse.mpr hm) (fun x hx2 => hx x (List.mem_reverse.mp hx2)) (by rw [List.length_reverse]; exact hml) s H5 (fresh_back e4 hs) (by walk_at "ex") h5
        unfold Mx.nat
        rw [List.map_reverse, List.map_reverse]
      have small : ∀ x ∈ l, x < 400 := fun x hx => by
        have := hb x hx
        omega
      refine q_when (b := !decide (Mx.nat l = []) && decide (c / 4 % 8 = 1)) ?_ (fun hb2 H4 e4 => ?_) (fun hb2 H4 e4 => fin l H4 hf (fun x hx => by have := small x hx; omega) (by omega) (by walk_at "ex") (ex_to e4 hR) y)
      · refine et_and (et_test (ev_neH (evh_v (ev_var rfl) (hd_ints (SqL.of hR))) (evh_L (el_lst ea_nil (by decide)) hdAll_nil) (by decide))) fun _ => ?_
        exact et_eq (by walk_at "et") (by simp)
      · have hne : l ≠ [] := by
          intro h
          rw [h] at hb2
          exact absurd hb2 (by simp [Mx.nat])
        obtain ⟨m, z, rfl⟩ : ∃ m z, l = m ++ [z] := ⟨l.dropLast, l.getLast hne, (List.dropLast_concat_getLast hne).symm⟩
        have hz2 := small z (List.mem_append_right _ (List.mem_singleton.mpr rfl))
        have e1' := nat_snoc m z
        have h4 := ex_to e4 hR
        refine s_app h4 (ev_var rfl) (ev_op (ev_op (ev_var rfl) (by walk_at "ev") (rv_ixL (SqL.of h4) (by rw [e1']; exact atI_last _ _))) ev_c rv_I0) (by rw [List.length_map, nat_len]; omega) fun H5 e5 => ?_
        refine fin (m ++ [z] ++ [z + 600]) _ (List.pairwise_append.mpr ⟨hf, List.pairwise_singleton _ _, fun x hx w hw => ?_⟩) (fun x hx => ?_) (by rw [List.length_append]; have e2' : [z + 600].length = 1 := rfl; omega) (Ex.mut (by walk_at "ex") nr) ?_ y
        · rw [List.mem_singleton.mp hw]
          rcases List.mem_append.mp hx with h | h
          · have := (List.pairwise_append.mp hf).2.2 x h z (List.mem_singleton.mpr rfl)
            omega
          · rw [List.mem_singleton.mp h]
            omega
        · rcases List.mem_append.mp hx with h | h
          · have := small x h
            omega
          · rw [List.mem_singleton.mp h]
            omega
        · rw [upd_same, nat_snoc (m ++ [z])]
          rfl

/-! _law_text -/
def sp__law_text (T : Txt K mg) : Sp := fun vs H Q _ => ∃ a l, vs = [.ref a] ∧ H a = some (.lst ((Mx.nat l).map V.int)) ∧ (∀ p ∈ l, p < 10000) ∧ RetV (.str (txF l)) H Q
theorem spv__law_text (T : Txt K mg) {a : Addr} {l : List Nat} {H : Hp} (hA : H a = some (.lst ((Mx.nat l).map V.int))) (hp : ∀ p ∈ l, p < 10000) : SpV (sp__law_text T) [.ref a] H (.str (txF l)) := fun H1 e Q q E => ⟨a, l, rfl, e a _ hA, hp, fun H2 e2 => q H2 e2⟩
theorem ok__law_text (T : Txt K mg) : FnOk P w K mg base CX0 1 T.f__law_text T.d__law_text ["_law_form"] (sp__law_text T) := by
  refine T.F__law_text.ok sc__law_text (fun vs H Q E h => ?_) (fun cdv A outer s H vs Q E hr h => ?_)
  · obtain ⟨a, l, rfl, _⟩ := h
    rfl
  · obtain ⟨a, l, rfl, hA, hp, q⟩ := h
    refine ⟨_, (pss_cons (ps_set (i := 1) sc__law_text.nd rfl (Or.inl rfl) (pe_callBK (cr_maxDef rfl (hu_of hr)) (by rfl) T.n_max (by decide +kernel) (pa_cons (pv 0) pa_nil) (pk_cons pe_int pk_nil)))
    (pss_one (ps_ret (pe_join pe_str (pe_lc (own := [("_law_place", 2)]) (g := gName 2) (tt := tYes) rfl sc__law_text.nd (pi_range3 (by rfl) T.n_range (pa_cons (pv 1) (pa_cons (pe_un un_neg pe_int) (pa_cons (pe_un un_neg pe_int) pa_nil)))) (blkOk_by (own := [("_law_place", 2)]) (N := N__law_text) (sc := defScope s__law_text) (by decide +kernel)) (fun _ _ _ _ _ => (pg_name (i := 2) sc__law_text.nd rfl (Or.inl rfl))) (fun _ _ _ _ _ => pts_nil) (fun _ _ _ _ _ => (pe_ifExp (pt_cmpR (r := rIn K false) op_in_seq (pv 2) (pv 0) (by rfl)) pe_str pe_str))))))), ?_⟩
    obtain ⟨tv, tp, tb⟩ := topP_ok (l := l) (n := 10000) hp (by decide)
    refine q_asg (v := .int (topP l : Int)) (ev_eq (ev_maxDef (ev_var rfl) (SqL.of hA) ev_c) (by rw [tv])) fun H1 e1 => ?_
    have hS : SqL K H1 a ((Mx.nat l).map V.int) := SqL.of (e1 a _ hA)
    have hL : EvL (tLc (iRng3 (tCons (tVar 1) (tCons (tUn (rU fun i => .int (-i)) (tC (.int 1))) (tCons (tUn (rU fun i => .int (-i)) (tC (.int 1))) tNil)))) (gName 2) tYes (tIf (tTest (tOp (rIn K false) (tVar 2) (tVar 0))) (tC (.str (Str.ofString "1"))) (tC (.str (Str.ofString "0")))) [2]) [some (.ref a), some (.int (topP l : Int)), none] H1 ((bits (topP l + 1) l).map V.str) := by
      refine el_eq (el_mapDown (n := topP l + 1) (fun i => V.str (sign (decide (topP l + 1 - 1 - i ∈ l)))) (ea_cons (ev_eq (ev_var rfl) (by congr 1; omega)) (ea_cons (by walk_at "ev") (ea_cons (by walk_at "ev") ea_nil))) (by omega) (fun _ => rfl) fun i H2 e2 hi => ?_) (by unfold bits; rw [List.map_map]; rfl)
      refine ev_if (b := decide (topP l + 1 - 1 - i ∈ l)) (et_test (ev_op (ev_var rfl) (ev_var rfl) (rv_inN (ex_l e2 hS)))) (fun hb => ?_) (fun hb => ?_)
      · rw [hb]; exact ev_c
      · rw [hb]; exact ev_c
    exact s_ret (ev_joinL ev_c hL (by rw [bits_sum, bits_len]; show _ + _ * 0 ≤ _; omega)) fun H3 e3 => q H3 (by walk_at "ex")

/-! _law_sign: some sign -/
def sp__law_sign (T : Txt K mg) : Sp := fun vs H Q _ => ∃ c, vs = [.int c] ∧ ∀ (s : Str) H2, Ex H H2 → s.length ≤ 1 → Q (.str s) H2
theorem some_sign {w : Str} {c : Int} (h : 0 < w.length) : ∃ (j : Nat) (k : Nat), c % (w.length : Int) = (j : Int) ∧ (sg w)[j]? = some k := by
  have h1 : 0 ≤ c % (w.length : Int) := Int.emod_nonneg _ (by omega)
  have h2 : c % (w.length : Int) < (w.length : Int) := Int.emod_lt_of_pos _ (by omega)
  have h3 : (c % (w.length : Int)).toNat < (sg w).length := by rw [sg_len]; omega
  exact ⟨(c % (w.length : Int)).toNat, _, by omega, List.getElem?_eq_getElem h3⟩
theorem sign_end {H H1 H2 : Hp} {Q : VK} {c : Int} {w : Str} {D : Ends} (h0 : 0 < w.length) (hz : w.length ≤ 1000) (e1 : Ex H H1) (e2 : Ex H1 H2) (hD : D.rt = Q) (q : ∀ (s : Str) H2, Ex H H2 → s.length ≤ 1 → Q (.str s) H2) :
    tRet (tOp rIxS (tVar 1) (tOp (rI (fun _ j => 0 < j) fun i j => .int (i % j)) (tVar 0) (tCB (fun xs H Q => ∃ z, xs = [.str z] ∧ z.length ≤ sizeLine ∧ Q (.int z.length) H) (tCons (tVar 1) tNil)))) D [some (.int c), some (.str w)] H2 := by
  obtain ⟨j, k, hj, hk⟩ := some_sign (c := c) h0
  refine s_ret (ev_op (ev_var rfl) (ev_eq (ev_op (ev_var rfl) (ev_lenS (ev_var rfl) (by omega)) (rv_I (show (0 : Int) < _ by omega))) (by rw [hj])) (rv_at (by omega) hk)) fun H3 e3 => ?_
  rw [hD]
  exact q _ H3 ((e1.trans e2).trans e3) (Nat.le_refl 1)
theorem ok__law_sign (T : Txt K mg) : FnOk P w K mg base CX0 1 T.f__law_sign T.d__law_sign ["_law_cell"] (sp__law_sign T) := by
  refine T.F__law_sign.ok sc__law_sign (fun vs H Q E h => ?_) (fun cdv A outer s H vs Q E hr h => ?_)
  · obtain ⟨c, rfl, _⟩ := h
    rfl
  · obtain ⟨c, rfl, q⟩ := h
    refine ⟨_, (pss_cons (ps_set (i := 1) sc__law_sign.nd rfl (Or.inl rfl) pe_str)
    (pss_cons (ps_set (i := 1) sc__law_sign.nd rfl (Or.inl rfl) (pe_op op_add_str (pv 1) pe_str))
    (pss_one (ps_ret (pe_ix ix_str (pv 1) (pe_op op_mod (pv 0) (pe_callB call_len_str (by rfl) T.n_len (by decide +kernel) (pa_cons (pv 1) pa_nil))) (fun _ _ => rfl)))))), ?_⟩
    refine q_asg ev_c fun H1 e1 => ?_
    refine q_asg (ev_op (ev_var rfl) ev_c (rv_cat (by decide +kernel))) fun H2 e2 => ?_
    exact sign_end (by decide +kernel) (by decide +kernel) e1 e2 rfl q

/-! _law_spoiled: some text -/
def sp__law_spoiled (T : Txt K mg) : Sp := fun vs H Q _ => ∃ a, ∃ ns : List Int, ∃ x : Str, vs = [.ref a, .str x] ∧ SqL K H a (ns.map V.int) ∧ 0 < x.length ∧ x.length ≤ 4000 ∧ ∀ (s : Str) H2, Ex H H2 → s.length ≤ 10000 → Q (.str s) H2
def chr4 (i : Int) : Nat := (sg (Str.ofString "0100")).getD (i % 4).toNat 0
theorem chr4_ok (i : Int) : atI (Str.ofString "0100").cps.toList (i % 4) = some (chr4 i) := by
  obtain ⟨j, hj, hj2⟩ : ∃ j : Nat, i % 4 = (j : Int) ∧ j < 4 := ⟨(i % 4).toNat, by omega, by omega⟩
  have h3 : j < (sg (Str.ofString "0100")).length := by rw [sg_len]; exact hj2
  unfold chr4
  rw [hj, Int.toNat_natCast, List.getD_eq_getElem?_getD, List.getElem?_eq_getElem h3]
  exact atI_nat (List.getElem?_eq_getElem h3)
theorem ok__law_spoiled (T : Txt K mg) : FnOk P w K mg base CX0 2 T.f__law_spoiled T.d__law_spoiled ["_law_script", "_law_text_here"] (sp__law_spoiled T) := by
  refine T.F__law_spoiled.ok sc__law_spoiled (fun vs H Q E h => ?_) (fun cdv A outer s H vs Q E hr h => ?_)
  · obtain ⟨a, ns, x, rfl, _⟩ := h
    rfl
  · obtain ⟨a, ns, x, rfl, hS, h0, hz, q⟩ := h
    refine ⟨_, (pss_cons (ps_set (i := 2) sc__law_spoiled.nd rfl (Or.inl rfl) (pe_op op_mod (pe_call (ok__law_cell_at T) (hr.mono (by decide)) (by rfl) T.g__law_cell_at T.F__law_cell_at.kp T.b__law_cell_at .nil pass0 (pa_cons (pv 0) (pa_cons pe_int pa_nil))) (pe_callB call_len_str (by rfl) T.n_len (by decide +kernel) (pa_cons (pv 1) pa_nil))))
    (pss_cons (ps_set (i := 3) sc__law_spoiled.nd rfl (Or.inl rfl) (pe_call (ok__law_cell_at T) (hr.mono (by decide)) (by rfl) T.g__law_cell_at T.F__law_cell_at.kp T.b__law_cell_at .nil pass0 (pa_cons (pv 0) (pa_cons pe_int pa_nil))))
    (pss_cons (ps_if (pt_cmpR op_eq (pe_op op_mod (pv 3) pe_int) pe_int (nomark _)) (pss_one (ps_ret (pe_op op_add_str (pe_op op_add_str (pe_slice sl_str (pv 1) po_none (po_some (pv 2))) (pe_call (ok__law_sign T) (hr.mono (by decide)) (by rfl) T.g__law_sign T.F__law_sign.kp T.b__law_sign .nil pass0 (pa_cons (pe_op op_fdiv (pv 3) pe_int) pa_nil))) (pe_slice sl_str (pv 1) (po_some (pe_op op_add (pv 2) pe_int)) po_none)))) pss_nil)
    (pss_cons (ps_if (pt_cmpR op_eq (pe_op op_mod (pv 3) pe_int) pe_int (nomark _)) (pss_one (ps_ret (pe_op op_add_str (pe_op op_add_str (pe_slice sl_str (pv 1) po_none (po_some (pv 2))) (pe_call (ok__law_sign T) (hr.mono (by decide)) (by rfl) T.g__law_sign T.F__law_sign.kp T.b__law_sign .nil pass0 (pa_cons (pe_op op_fdiv (pv 3) pe_int) pa_nil))) (pe_slice sl_str (pv 1) (po_some (pv 2)) po_none)))) pss_nil)
    (pss_cons (ps_if (pt_cmpR op_eq (pe_op op_mod (pv 3) pe_int) pe_int (nomark _)) (pss_one (ps_ret (pe_op op_add_str (pe_slice sl_str (pv 1) po_none (po_some (pv 2))) (pe_slice sl_str (pv 1) (po_some (pe_op op_add (pv 2) pe_int)) po_none)))) pss_nil)
    (pss_one (ps_ret (pe_join pe_str (pe_lc (own := [("_law_one", 4)]) (g := gName 4) (tt := tYes) rfl sc__law_spoiled.nd (pi_list (pe_slice sl_list (pv 0) (po_some pe_int) (po_some pe_int))) (blkOk_by (own := [("_law_one", 4)]) (N := N__law_spoiled) (sc := defScope s__law_spoiled) (by decide +kernel)) (fun _ _ _ _ _ => (pg_name (i := 4) sc__law_spoiled.nd rfl (Or.inl rfl))) (fun _ _ _ _ _ => pts_nil) (fun _ _ _ _ _ => (pe_ix ix_str pe_str (pe_op op_mod (pv 4) pe_int) (fun _ _ => rfl)))))))))))), ?_⟩
    obtain ⟨m, hm⟩ : ∃ m : Nat, cell ns 1 % (x.length : Int) = (m : Int) := ⟨(cell ns 1 % (x.length : Int)).toNat, by
      have := Int.emod_nonneg (cell ns 1) (show (x.length : Int) ≠ 0 by omega)
      omega⟩
    refine q_asg (v := .int (m : Int)) (ev_eq (ev_op (ev_call (ea_cons (ev_var rfl) (ea_cons ev_c ea_nil)) (spv__law_cell_at T (k := 1) hS)) (ev_lenS (ev_var rfl) (by omega)) (rv_I (show (0 : Int) < _ by omega))) (by rw [hm])) fun H1 e1 => ?_
    refine q_asg (ev_call (ea_cons (ev_var rfl) (ea_cons ev_c ea_nil)) (spv__law_cell_at T (k := 2) (ex_l e1 hS))) fun H2 e2 => ?_
    generalize cell ns 2 = c
    have eH2 : Ex H H2 := e1.trans e2
    have sgn : ∀ {σ : L2.St} {H3 : Hp} {E : XK}, σ[3]? = some (some (.int c)) → EvS (tCall (sp__law_sign T) [] E (tCons (tOp (rI CDiv fun i j => .int (i / j)) (tVar 3) (tC (.int 4))) tNil)) σ H3 1 := fun hv =>
      evs_call (vs := [.int (c / 4)]) (ea_cons (ev_op (ev_var hv) ev_c (rv_I (cdiv (by decide) (by decide)))) ea_nil) fun H4 e4 Q qq => ⟨_, rfl, fun s H5 e5 hs => qq s H5 e5 hs⟩
    refine q_when (b := decide (c % 4 = 0)) (et_eq (by walk_at "et") (by simp)) (fun hb H3 e3 => ?_) (fun hb H3 e3 => ?_)
    · exact s_retS (evs_cat (evs_cat (evs_cut (ev_var rfl) eo_none (eo_some (ev_var rfl)) (by omega) (Nat.le_refl _)) (sgn rfl) (by omega)) (evs_cut (ev_var rfl) (eo_some (by walk_at "ev")) eo_none (by omega) (Nat.le_refl _)) (by omega)) fun s H4 e4 hs => q s H4 (by walk_at "ex") (by omega)
    refine q_when (b := decide (c % 4 = 1)) (et_eq (by walk_at "et") (by simp)) (fun hb H4 e4 => ?_) (fun hb H4 e4 => ?_)
    · exact s_retS (evs_cat (evs_cat (evs_cut (ev_var rfl) eo_none (eo_some (ev_var rfl)) (by omega) (Nat.le_refl _)) (sgn rfl) (by omega)) (evs_cut (ev_var rfl) (eo_some (by walk_at "ev")) eo_none (by omega) (Nat.le_refl _)) (by omega)) fun s H4 e4 hs => q s H4 (by walk_at "ex") (by omega)
    refine q_when (b := decide (c % 4 = 2)) (et_eq (by walk_at "et") (by simp)) (fun hb H5 e5 => ?_) (fun hb H5 e5 => ?_)
    · exact s_retS (evs_cat (evs_cut (ev_var rfl) eo_none (eo_some (ev_var rfl)) (by omega) (Nat.le_refl _)) (evs_cut (ev_var rfl) (eo_some (by walk_at "ev")) eo_none (by omega) (Nat.le_refl _)) (by omega)) fun s H4 e4 hs => q s H4 (by walk_at "ex") (by omega)
    have eH5 : Ex H H5 := by walk_at "ex"
    have cl : (cutI ns (some 3) (some 43)).length ≤ 40 := cut_most (i := 3) (j := 43)
    have one : ∀ p ∈ (cutI ns (some 3) (some 43)).map fun i => (⟨#[chr4 i]⟩ : Str), p.length = 1 := fun p hp => by
      obtain ⟨i, _, rfl⟩ := List.mem_map.mp hp
      rfl
    refine s_ret (ev_joinL (ys := (cutI ns (some 3) (some 43)).map fun i => (⟨#[chr4 i]⟩ : Str)) ev_c (el_eq (el_mapNT (fun i => V.str ⟨#[chr4 i]⟩) (el_slI (ev_var rfl) (eo_some ev_c) (eo_some ev_c) (ex_l eH5 hS)) (by omega) (fun _ => rfl) fun n H6 e6 hn => ev_op ev_c (ev_op (ev_var rfl) ev_c (rv_I (show (0 : Int) < 4 by decide))) (rv_ixS (by decide) (chr4_ok n))) (by rw [List.map_map]; rfl)) (by rw [len1_sum one, List.length_map]; show _ + _ * 0 ≤ _; omega)) fun H6 e6 => q _ H6 (eH5.trans e6) ?_
    have := len_join1 one (n := 40) (by rw [List.length_map]; exact cl)
    exact Nat.le_trans this (by decide)

/-! _law_due -/
def sp__law_due (T : Txt K mg) : Sp := fun vs H Q _ => ∃ s, vs = [.str s] ∧ s.length ≤ 20000 ∧ (okT s = false → RetV .non H Q) ∧ (okT s = true → RetL ((Mx.nat (plT s)).map V.int) H Q)
theorem ok__law_due (T : Txt K mg) : FnOk P w K mg base CX0 1 T.f__law_due T.d__law_due ["_law_text_here"] (sp__law_due T) := by
  refine T.F__law_due.ok sc__law_due (fun vs H Q E h => ?_) (fun cdv A outer s H vs Q E hr h => ?_)
  · obtain ⟨s, rfl, _⟩ := h
    rfl
  · obtain ⟨s, rfl, hz, q0, q1⟩ := h
    refine ⟨_, (pss_cons (ps_if (PW.pt (pw_or (pt_cmpR op_eq (pv 0) pe_str (nomark _)) (pw_or (pt_cmpR op_in_str pe_str (pv 0) (by rfl)) (pw_or1 (PW.pt (pw_and (pt_cmpR op_gt (pe_callB call_len_str (by rfl) T.n_len (by decide +kernel) (pa_cons (pv 0) pa_nil)) pe_int (nomark _)) (pw_and1 (pt_cmpR op_eq (pe_ix ix_str (pv 0) pe_int (fun _ _ => rfl)) pe_str (nomark _))))))))) (pss_one (ps_ret pe_non)) pss_nil)
    (pss_cons (ps_for PassesOwn.never rfl (pi_str (pv 0)) (pg_name (i := 1) sc__law_due.nd rfl (Or.inl rfl)) (pss_one (ps_if (PW.pt (pw_and (pt_cmpR op_ne (pv 1) pe_str (nomark _)) (pw_and1 (pt_cmpR op_ne (pv 1) pe_str (nomark _))))) (pss_one (ps_ret pe_non)) pss_nil)))
    (pss_one (ps_ret (pe_lc (own := [("_law_at", 2)]) (g := gName 2)  rfl sc__law_due.nd (pi_range1 (by rfl) T.n_range (pa_cons (pe_callB call_len_str (by rfl) T.n_len (by decide +kernel) (pa_cons (pv 0) pa_nil)) pa_nil)) (blkOk_by (own := [("_law_at", 2)]) (N := N__law_due) (sc := defScope s__law_due) (by decide +kernel)) (fun _ _ _ _ _ => (pg_name (i := 2) sc__law_due.nd rfl (Or.inl rfl))) (fun _ _ _ _ _ => (pts_one (pt_cmpR op_eq (pe_ix ix_str (pv 0) (pv 2) (fun _ _ => rfl)) pe_str (nomark _)))) (fun _ _ _ _ _ => (pe_op op_sub (pe_op op_sub (pe_callB call_len_str (by rfl) T.n_len (by decide +kernel) (pa_cons (pv 0) pa_nil)) pe_int) (pv 2)))))))), ?_⟩
    refine q_when (b := decide (s = Str.ofString "") || (has11 s || bad0 s)) (et_or (et_eq (et_test (ev_op (ev_var rfl) ev_c (rv_eq rfl))) dec_tx) fun _ => et_or (et_test (ev_op ev_c (ev_var rfl) rv_inS)) fun _ => ?_) (fun hb H1 e1 => ?_) (fun hb H1 e1 => ?_)
    · refine et_and (a := decide (1 < s.length)) (b := decide ((sg s)[0]? = some 48)) (et_eq (et_test (ev_op (ev_lenS (ev_var rfl) (by omega)) ev_c rv_I0)) ?_) fun ha => ?_
      · rw [Bool.eq_iff_iff]
        simp
        try omega
      · have h1 := of_decide_eq_true ha
        have h0 : 0 < (sg s).length := by rw [sg_len]; omega
        refine et_eq (et_test (ev_op (ev_op (ev_var rfl) ev_c (rv_at (i := 0) (by omega) (List.getElem?_eq_getElem h0))) ev_c (rv_eq rfl))) ?_
        rw [one_sign tx0, List.getElem?_eq_getElem h0]
        exact decide_eq_decide.mpr ⟨fun h => by rw [h], fun h => Option.some.inj h⟩
    · have no : okT s = false := by
        unfold okT
        revert hb
        cases decide (s = Str.ofString "") <;> cases has11 s <;> cases bad0 s <;> simp
      exact s_ret ev_c fun H2 e2 => q0 no H2 (e1.trans e2)
    have kk : okT s = (sg s).all isB := by
      unfold okT
      revert hb
      cases decide (s = Str.ofString "") <;> cases has11 s <;> cases bad0 s <;> simp
    refine q_forStr (x := s) (ev_var rfl) (fun i σ' H' => ∃ y z, σ' = [some (.str s), y, z] ∧ Ex H H' ∧ ∀ k c, k < i → (sg s)[k]? = some c → isB c = true) (fun H2 e2 => ⟨_, _, rfl, by walk_at "ex", fun k c h => absurd h (Nat.not_lt_zero _)⟩) ?_ ?_
    · rintro i c σ' H' hc ⟨y, z, rfl, eH, hA⟩
      refine s_when (b := !isB c) ?_ (fun hb2 H3 e3 => ?_) (fun hb2 H3 e3 => ⟨_, _, rfl, by walk_at "ex", fun k d hk hd => ?_⟩)
      · refine et_eq (et_and (a := !decide (c = 48)) (b := !decide (c = 49)) (et_eq (et_test (ev_op (ev_var rfl) ev_c (rv_ne rfl))) (by rw [one_sign tx0])) fun _ => et_eq (et_test (ev_op (ev_var rfl) ev_c (rv_ne rfl))) (by rw [one_sign tx1])) ?_
        unfold isB
        rw [Bool.not_or]
      · have no : okT s = false := by
          rw [kk, Bool.eq_false_iff]
          intro h
          have := List.all_eq_true.mp h c (List.mem_of_getElem? hc)
          rw [this] at hb2
          cases hb2
        exact s_ret ev_c fun H4 e4 => q0 no H4 (by walk_at "ex")
      · by_cases e : k = i
        · subst e
          rw [← Option.some.inj (hc.symm.trans hd)]
          simpa using hb2
        · exact hA k d (by omega) hd
    · rintro σ' H' ⟨y, z, rfl, eH, hA⟩
      have ok : okT s = true := by
        rw [kk, List.all_eq_true]
        intro c hc
        obtain ⟨k, hk⟩ := List.mem_iff_getElem?.mp hc
        have hk2 := (List.getElem?_eq_some_iff.mp hk).1
        exact hA k c (by rw [← sg_len]; exact hk2) hk
      refine s_retL (xs := (Mx.nat (plT s)).map V.int) (el_eq (el_mapRIf (n := s.length) (fun i => decide ((sg s)[i]? = some 49)) (fun i => V.int ((s.length - 1 - i : Nat) : Int)) (ea_cons (ev_lenS (ev_var rfl) (by omega)) ea_nil) (by omega) (fun _ => rfl) (fun i H2 e2 hi => ?_) (fun i H2 e2 hi hp => ?_)) ?_) fun p H3 hp e3 h3 => q1 ok p H3 (fresh_back eH hp) (eH.trans e3) h3
      · have hi2 : i < (sg s).length := by rw [sg_len]; exact hi
        refine et_eq (et_test (ev_op (ev_op (ev_var rfl) (ev_var rfl) (rv_at (by omega) (List.getElem?_eq_getElem hi2))) ev_c (rv_eq rfl))) ?_
        rw [one_sign tx1, List.getElem?_eq_getElem hi2]
        exact decide_eq_decide.mpr ⟨fun h => by rw [h], fun h => Option.some.inj h⟩
      · exact ev_eq (ev_op (ev_op (ev_lenS (ev_var rfl) (by omega)) ev_c rv_I0) (ev_var rfl) rv_I0) (by congr 1; omega)
      · unfold plT plU Mx.nat
        rw [List.map_map, List.map_map]
        rfl

/-! _law_kinds -/
def kindsOf (b : Bool) : List Bool := if b then [] else [true, true, false, false, false, false]
def sp__law_kinds (T : Txt K mg) : Sp := fun vs H Q _ => ∃ x o, vs = [x] ∧ TxtT K H x o ∧ RetL ((kindsOf (okO o)).map V.bl) H Q
theorem spl__law_kinds (T : Txt K mg) {x : V} {o : Option Str} {H : Hp} (h : TxtT K H x o) : SpL (sp__law_kinds T) [x] H ((kindsOf (okO o)).map V.bl) := fun H1 e Q q E => ⟨x, o, rfl, h.mono e, fun p H2 hp e2 h2 => q p H2 hp e2 h2⟩
theorem ok__law_kinds (T : Txt K mg) : FnOk P w K mg base CX0 2 T.f__law_kinds T.d__law_kinds ["_law_thing"] (sp__law_kinds T) := by
  refine T.F__law_kinds.ok sc__law_kinds (fun vs H Q E h => ?_) (fun cdv A outer s H vs Q E hr h => ?_)
  · obtain ⟨x, o, rfl, _⟩ := h
    rfl
  · obtain ⟨x, o, rfl, hx, q⟩ := h
    refine ⟨_, (pss_cons (ps_set (i := 1) sc__law_kinds.nd rfl (Or.inl rfl) (pe_lst pa_nil))
    (pss_cons (ps_try_as (i := 2) rfl rfl sc__law_kinds.nd rfl rfl ⟨rfl, by decide, Or.inl T.g_SparseError⟩ takes0 (fun W pn xe tk po => (pss_one (ps_expr (pe_callS (ok_read T) (hr.mono (by decide)) (by rfl) T.g_read T.F_read.kp T.b_read (fun σ => passAt tk σ) (pa_cons (pv 0) pa_nil)))))
     (fun a oe cls d pn hz hf => (pss_cons (ps_set (i := 1) sc__law_kinds.nd rfl (Or.inl rfl) (pe_lst (pa_cons (pe_callB (call_isX hz hf) (by rfl) T.n_isinstance (by decide +kernel) (pa_cons (pv 2) (pa_cons (pe_glob (v := .ref T.a_NoText) (by rfl) T.g_NoText rfl) pa_nil))) (pa_cons (pe_callB (call_isX hz hf) (by rfl) T.n_isinstance (by decide +kernel) (pa_cons (pv 2) (pa_cons (pe_bltn (v := .ty "ValueError") (by rfl) T.n_ValueError (by decide +kernel) rfl) pa_nil))) (pa_cons (pe_callB (call_isX hz hf) (by rfl) T.n_isinstance (by decide +kernel) (pa_cons (pv 2) (pa_cons (pe_glob (v := .ref T.a_NoNumber) (by rfl) T.g_NoNumber rfl) pa_nil))) pa_nil)))))
    (pss_one (ps_set (i := 1) sc__law_kinds.nd rfl (Or.inl rfl) (pe_op op_cat (pv 1) (pe_lst (pa_cons (pe_callB (call_isX hz hf) (by rfl) T.n_isinstance (by decide +kernel) (pa_cons (pv 2) (pa_cons (pe_glob (v := .ref T.a_NoForm) (by rfl) T.g_NoForm rfl) pa_nil))) (pa_cons (pe_callB (call_isX hz hf) (by rfl) T.n_isinstance (by decide +kernel) (pa_cons (pv 2) (pa_cons (pe_glob (v := .ref T.a_NoStep) (by rfl) T.g_NoStep rfl) pa_nil))) (pa_cons (pe_callB (call_isX hz hf) (by rfl) T.n_isinstance (by decide +kernel) (pa_cons (pv 2) (pa_cons (pe_glob (v := .ref T.a_TooLittle) (by rfl) T.g_TooLittle rfl) pa_nil))) pa_nil))))))))))
    (pss_one (ps_ret (pv 1))))), ?_⟩
    refine q_asgL (el_lst ea_nil (by decide)) fun l H1 hl e1 h1 => ?_
    refine ⟨x, rfl, x, o, rfl, hx.mono e1, fun hb H' e' => ?_, fun s hs ok v H' hv e' h' => ?_⟩
    · rw [hb] at q
      refine ⟨true, T.m_NoText_SparseError, fun _ ad na => ?_, fun z => nomatch z⟩
      refine q_asgL (el_lst (ea_cons (ev_isX (ev_var rfl) ev_c T.e_NoText rel_ref T.i_NoText_NoText) (ea_cons (ev_isX (ev_var rfl) ev_c T.e_NoText rel_ty T.i_NoText_ValueError) (ea_cons (ev_isX (ev_var rfl) ev_c T.e_NoText rel_ref T.i_NoText_NoNumber) ea_nil))) (by decide)) fun l3 H3 hl3 e3 h3 => ?_
      refine s_asgL (el_cat (ev_var rfl) h3 (el_lst (ea_cons (ev_isX (ev_var rfl) ev_c T.e_NoText rel_ref T.i_NoText_NoForm) (ea_cons (ev_isX (ev_var rfl) ev_c T.e_NoText rel_ref T.i_NoText_NoStep) (ea_cons (ev_isX (ev_var rfl) ev_c T.e_NoText rel_ref T.i_NoText_TooLittle) ea_nil))) (by decide)) (by decide)) fun l4 H4 hl4 e4 h4 => ?_
      exact s_ret (ev_var rfl) fun H5 e5 => q l4 H5 (fresh_back (by walk_at "ex") hl4) (by walk_at "ex") (ex_to e5 h4)
    · have hb : okO o = true := by rw [hs]; exact ok
      rw [hb] at q
      exact s_ret (ev_var rfl) fun H5 e5 => q l H5 hl (by walk_at "ex") (by walk_at "at")

/-! _law_read -/
def DueT (H : Hp) (s : Str) (d : V) : Prop := (okT s = false ∧ d = .non) ∨ (okT s = true ∧ ∃ p, d = .ref p ∧ H p = some (.lst ((Mx.nat (plT s)).map V.int)))
theorem DueT.mono {H H' : Hp} {s : Str} {d : V} (e : Ex H H') (h : DueT H s d) : DueT H' s d := by
  rcases h with h | ⟨h, p, e1, e2⟩
  · exact .inl h
  · exact .inr ⟨h, p, e1, e p _ e2⟩
def sp__law_read (T : Txt K mg) : Sp := fun vs H Q _ => ∃ s d, vs = [.str s, d] ∧ s.length ≤ 20000 ∧ DueT H s d ∧ RetV (.bl true) H Q
theorem spv__law_read (T : Txt K mg) {s : Str} {d : V} {H : Hp} (hz : s.length ≤ 20000) (h : DueT H s d) : SpV (sp__law_read T) [.str s, d] H (.bl true) := fun H1 e Q q E => ⟨s, d, rfl, hz, h.mono e, fun H2 e2 => q H2 e2⟩
theorem ok__law_read (T : Txt K mg) : FnOk P w K mg base CX0 3 T.f__law_read T.d__law_read ["_law_text_here", "_law_due_here"] (sp__law_read T) := by
  refine T.F__law_read.ok sc__law_read (fun vs H Q E h => ?_) (fun cdv A outer s H vs Q E hr h => ?_)
  · obtain ⟨s, d, rfl, _⟩ := h
    rfl
  · obtain ⟨s, d, rfl, hz, hd, q⟩ := h
    refine ⟨_, (pss_cons (ps_set (i := 2) sc__law_read.nd rfl (Or.inl rfl) pe_non)
    (pss_cons (ps_try_only rfl rfl ⟨rfl, by decide, Or.inl T.g_NoText⟩ takes0 (fun W pn xe tk po => (pss_one (ps_set (i := 2) sc__law_read.nd rfl (Or.inl rfl) (pe_callS (ok_read T) (hr.mono (by decide)) (by rfl) T.g_read T.F_read.kp T.b_read (fun σ => passAt tk σ) (pa_cons (pv 0) pa_nil)))))
     (fun a oe cls d pn hz hf => (pss_one (ps_set (i := 2) sc__law_read.nd rfl (Or.inl rfl) pe_non))))
    (pss_cons (ps_if (pt_cmpR op_isN (pv 1) pe_non (nomark _)) (pss_one (ps_ret (pe_and (pe_cmpR op_isN (pv 2) pe_non (nomark _)) (pe_one (pe_cmpR (op_eqD hr.units) (pe_call (ok__law_kinds T) (hr.mono (by decide)) (by rfl) T.g__law_kinds T.F__law_kinds.kp T.b__law_kinds .nil pass0 (pa_cons (pv 0) pa_nil)) (pe_lst (pa_cons pe_bl (pa_cons pe_bl (pa_cons pe_bl (pa_cons pe_bl (pa_cons pe_bl (pa_cons pe_bl pa_nil))))))) (nomark _)))))) pss_nil)
    (pss_one (ps_ret (pe_and (pe_callB call_isi (by rfl) T.n_isinstance (by decide +kernel) (pa_cons (pv 2) (pa_cons (pe_bltn (v := .ty "list") (by rfl) T.n_list (by decide +kernel) rfl) pa_nil))) (pe_and (pe_callB (cr_all rfl) (by rfl) T.n_all (by decide +kernel) (pa_cons (pe_lc (own := [("_law_place", 3)]) (g := gName 3) (tt := tYes) rfl sc__law_read.nd (pi_list (pv 2)) (blkOk_by (own := [("_law_place", 3)]) (N := N__law_read) (sc := defScope s__law_read) (by decide +kernel)) (fun _ _ _ _ _ => (pg_name (i := 3) sc__law_read.nd rfl (Or.inl rfl))) (fun _ _ _ _ _ => pts_nil) (fun _ _ _ _ _ => (pe_call (ok__law_whole T) (hr.mono (by decide)) (by rfl) T.g__law_whole T.F__law_whole.kp T.b__law_whole .nil pass0 (pa_cons (pv 3) pa_nil)))) pa_nil)) (pe_one (pe_cmpR (op_eqD hr.units) (pv 2) (pv 1) (nomark _)))))))))), ?_⟩
    refine q_asg ev_c fun H1 e1 => ?_
    refine ⟨.str s, rfl, .str s, some s, rfl, ⟨rfl, hz⟩, fun hb H' e' => ?_, fun s' hs ok r H' hr e' h' => ?_⟩
    · have no : okT s = false := hb
      rcases hd with ⟨_, rfl⟩ | ⟨ok, _⟩
      · refine ⟨true, T.m_NoText_NoText, fun _ ad na => ?_, fun z => nomatch z⟩
        refine s_asg ev_c fun H3 e3 => ?_
        refine q_when (b := true) (et_eq (et_test (ev_op (ev_var rfl) ev_c rv_isN)) rfl) (fun _ H4 e4 => ?_) (fun h _ _ => absurd h (by decide))
        refine s_ret (ev_eq (ev_andV (a := true) (b := true) (ev_eq (ev_op (ev_var rfl) ev_c rv_isN) rfl) fun _ => ?_) rfl) fun H5 e5 => q H5 (by walk_at "ex")
        refine ev_last (ev_eqH (evh_L (el_call (ea_cons (ev_var rfl) ea_nil) (spl__law_kinds T (o := some s) ⟨rfl, hz⟩)) (hdAll_bls (kindsOf (okT s)))) (evh_L (el_lst (ea_cons ev_c (ea_cons ev_c (ea_cons ev_c (ea_cons ev_c (ea_cons ev_c (ea_cons ev_c ea_nil)))))) (by decide)) (hdAll_bls [true, true, false, false, false, false])) (by decide)) ?_
        rw [no]
        decide
      · rw [no] at ok
        cases ok
    · cases hs
      rcases hd with ⟨no, _⟩ | ⟨_, p, rfl, hp⟩
      · rw [ok] at no
        cases no
      · have hp' := ex_to (e1.trans e') hp
        refine q_when (b := false) (et_eq (et_test (ev_op (ev_var rfl) ev_c rv_isN)) (by simp)) (fun h _ _ => absurd h (by decide)) (fun _ H3 e3 => ?_)
        have h3 := ex_to e3 h'
        have hp3 := ex_to e3 hp'
        refine s_ret (ev_eq (ev_andV (a := true) (b := true) (ev_isi (ev_var rfl) (TyOf.lst h3) (by decide +kernel)) fun _ => ev_eq (ev_andV (a := true) (b := true) ?_ fun _ => ?_) rfl) rfl) fun H5 e5 => q H5 (by walk_at "ex")
        · exact ev_allT (xs := Mx.nat (plT s)) (el_mapI (fun _ => V.bl true) (ev_var rfl) (SqL.of h3) (by rw [nat_len]; have := plU_len s s.length; show (plU s s.length).length ≤ _; omega) (fun _ => rfl) fun n H4 e4 hn => ev_call (ea_cons (ev_var rfl) ea_nil) (spv__law_whole_int T))
        · exact ev_last (ev_eqH (evh_v (ev_var rfl) (hd_ints (SqL.of h3))) (evh_v (ev_var rfl) (hd_ints (SqL.of hp3))) (by decide)) (by simp)

/-! the law -/
theorem menu4 {K : PySem.W.Frag} {σ : L2.St} {H : Hp} {ti : TE} {c : Int} (hi : ∀ H1, Ex H H1 → Ev ti σ H1 (.int (c % 8))) {Q : VK} (k : ∀ x H', Ex H H' → TxtT K H' x none → Q x H') :
    tOp (rIxL K) (tLst (tCons (tC .non) (tCons (tC (.int 101)) (tCons (tLst (tCons (tC (.str (Str.ofString "1"))) tNil)) (tCons (tTup (tCons (tC (.str (Str.ofString "1"))) (tCons (tC (.str (Str.ofString "0"))) tNil))) (tCons (tC (.bl true)) (tCons tDNewK (tCons (tC (.int 0)) (tCons (tLst tNil) tNil))))))))) ti σ H Q := by
  refine ⟨by decide, fun l1 hl1 => ?_⟩
  refine ⟨by decide, fun t ht => ?_⟩
  refine fun d hd => ?_
  refine ⟨by decide, fun l2 hl2 => ?_⟩
  refine ⟨(show 8 ≤ sizeLine by decide), fun m hm => ?_⟩
  have eA : ∀ o, Ex H (upd (upd (upd (upd (upd H l1 (.lst [.str (Str.ofString "1")])) t (.tup [.str (Str.ofString "1"), .str (Str.ofString "0")])) d (.dK [])) l2 (.lst [])) m o) := fun o => ((((Ex.new hl1).trans (Ex.new ht)).trans (Ex.new hd)).trans (Ex.new hl2)).trans (Ex.new hm)
  refine hi _ (eA _) _ (Ex.refl _) _ fun H7 e7 => ?_
  have f1 := ex_to e7 (ex_to (Ex.new hm) (ex_to (Ex.new hl2) (ex_to (Ex.new hd) (ex_to (Ex.new ht) (upd_same (H := H) (a := l1) (o := .lst [.str (Str.ofString "1")]))))))
  have f2 := ex_to e7 (ex_to (Ex.new hm) (ex_to (Ex.new hl2) (ex_to (Ex.new hd) (upd_same (a := t) (o := .tup [.str (Str.ofString "1"), .str (Str.ofString "0")])))))
  have f3 := ex_to e7 (ex_to (Ex.new hm) (ex_to (Ex.new hl2) (upd_same (a := d) (o := .dK []))))
  have f4 := ex_to e7 (ex_to (Ex.new hm) (upd_same (a := l2) (o := .lst [])))
  have f5 := ex_to e7 (upd_same (a := m))
  obtain ⟨j, hj, hj2⟩ : ∃ j : Nat, c % 8 = (j : Int) ∧ j < 8 := ⟨(c % 8).toNat, by omega, by omega⟩
  rw [hj]
  have eB := (eA _).trans e7
  have go : ∀ {x : V} (n : String), Seven n → n ≠ "str" → Ty K H7 x n → Q x H7 := fun n h1 h2 h3 => k _ H7 eB ⟨n, h1, h2, h3⟩
  match j, hj2 with
  | 0, _ => exact ⟨m, _, _, _, rfl, rfl, .of f5, atI_nat (j := 0) rfl, go "NoneType" (.inr (.inr (.inl rfl))) (by decide) .non⟩
  | 1, _ => exact ⟨m, _, _, _, rfl, rfl, .of f5, atI_nat (j := 1) rfl, go "int" (.inl rfl) (by decide) (.int _)⟩
  | 2, _ => exact ⟨m, _, _, _, rfl, rfl, .of f5, atI_nat (j := 2) rfl, go "list" (.inr (.inr (.inr (.inr (.inl rfl))))) (by decide) (.lst f1)⟩
  | 3, _ => exact ⟨m, _, _, _, rfl, rfl, .of f5, atI_nat (j := 3) rfl, go "tuple" (.inr (.inr (.inr (.inr (.inr (.inl rfl)))))) (by decide) (.tup f2)⟩
  | 4, _ => exact ⟨m, _, _, _, rfl, rfl, .of f5, atI_nat (j := 4) rfl, go "bool" (.inr (.inl rfl)) (by decide) (.bl _)⟩
  | 5, _ => exact ⟨m, _, _, _, rfl, rfl, .of f5, atI_nat (j := 5) rfl, go "dict" (.inr (.inr (.inr (.inr (.inr (.inr rfl)))))) (by decide) (.dK f3)⟩
  | 6, _ => exact ⟨m, _, _, _, rfl, rfl, .of f5, atI_nat (j := 6) rfl, go "int" (.inl rfl) (by decide) (.int _)⟩
  | 7, _ => exact ⟨m, _, _, _, rfl, rfl, .of f5, atI_nat (j := 7) rfl, go "list" (.inr (.inr (.inr (.inr (.inl rfl))))) (by decide) (.lst f4)⟩
def sp_law (K : PySem.W.Frag) : Sp := fun vs H Q _ => ∃ a, ∃ ns : List Int, vs = [.ref a] ∧ SqL K H a (ns.map V.int) ∧ ns.length ≤ 63 ∧ ∀ H', Q (.bl true) H'
theorem ok_law (T : Txt K mg) {f : Addr} {fd : FuncData} (F : Fun K "law" "law" s_law f fd) : FnOk P w K mg base CX0 5 f fd ["_law_script"] (sp_law K) := by
  refine F.ok sc_law (fun vs H Q E h => ?_) (fun cdv A outer s H vs Q E hr h => ?_)
  · obtain ⟨a, ns, rfl, _⟩ := h
    rfl
  · obtain ⟨a, ns, rfl, hS, hlen, q⟩ := h
    refine ⟨_, (pss_cons (ps_set (i := 1) sc_law.nd rfl (Or.inl rfl) (pe_call (ok__law_drawn T) (hr.mono (by decide)) (by rfl) T.g__law_drawn T.F__law_drawn.kp T.b__law_drawn .nil pass0 (pa_cons (pe_call (ok__law_cell_at T) (hr.mono (by decide)) (by rfl) T.g__law_cell_at T.F__law_cell_at.kp T.b__law_cell_at .nil pass0 (pa_cons (pv 0) (pa_cons pe_int pa_nil))) (pa_cons (pe_slice sl_list (pv 0) (po_some pe_int) (po_some pe_int)) pa_nil))))
    (pss_cons (ps_set (i := 2) sc_law.nd rfl (Or.inl rfl) (pe_callTy call_list_of (by rfl) T.n_list (by decide +kernel) (pa_cons (pv 1) pa_nil)))
    (pss_cons (ps_set (i := 3) sc_law.nd rfl (Or.inl rfl) (pe_call (ok_written T) (hr.mono (by decide)) (by rfl) T.g_written T.F_written.kp T.b_written .nil passL (pa_cons (pv 2) pa_nil)))
    (pss_cons (ps_set (i := 4) sc_law.nd rfl (Or.inl rfl) (pe_call (ok__law_text T) (hr.mono (by decide)) (by rfl) T.g__law_text T.F__law_text.kp T.b__law_text .nil pass0 (pa_cons (pv 1) pa_nil)))
    (pss_cons (ps_if (PW.pt (pw_or (pt_not (pt_val (pe_callB call_isi (by rfl) T.n_isinstance (by decide +kernel) (pa_cons (pv 3) (pa_cons (pe_bltn (v := .ty "str") (by rfl) T.n_str (by decide +kernel) rfl) pa_nil))))) (pw_or (pt_cmpR op_ne (pv 3) (pv 4) (nomark _)) (pw_or (pt_cmpR (op_neD hr.units) (pv 2) (pv 1) (nomark _)) (pw_or1 (pt_not (pt_val (pe_call (ok__law_read T) (hr.mono (by decide)) (by rfl) T.g__law_read T.F__law_read.kp T.b__law_read .nil pass0 (pa_cons (pv 4) (pa_cons (pv 1) pa_nil)))))))))) (pss_one (ps_ret pe_bl)) pss_nil)
    (pss_cons (ps_set (i := 5) sc_law.nd rfl (Or.inl rfl) (pe_call (ok__law_spoiled T) (hr.mono (by decide)) (by rfl) T.g__law_spoiled T.F__law_spoiled.kp T.b__law_spoiled .nil pass0 (pa_cons (pv 0) (pa_cons (pv 4) pa_nil))))
    (pss_cons (ps_if (pt_not (pt_val (pe_call (ok__law_read T) (hr.mono (by decide)) (by rfl) T.g__law_read T.F__law_read.kp T.b__law_read .nil pass0 (pa_cons (pv 5) (pa_cons (pe_call (ok__law_due T) (hr.mono (by decide)) (by rfl) T.g__law_due T.F__law_due.kp T.b__law_due .nil pass0 (pa_cons (pv 5) pa_nil)) pa_nil))))) (pss_one (ps_ret pe_bl)) pss_nil)
    (pss_cons (ps_set (i := 6) sc_law.nd rfl (Or.inl rfl) (pe_ix ix_list (pe_lst (pa_cons pe_non (pa_cons pe_int (pa_cons (pe_lst (pa_cons pe_str pa_nil)) (pa_cons (pe_tup (pa_cons pe_str (pa_cons pe_str pa_nil))) (pa_cons pe_bl (pa_cons pe_dnewK (pa_cons pe_int (pa_cons (pe_lst pa_nil) pa_nil))))))))) (pe_op op_mod (pe_op op_fdiv (pe_call (ok__law_cell_at T) (hr.mono (by decide)) (by rfl) T.g__law_cell_at T.F__law_cell_at.kp T.b__law_cell_at .nil pass0 (pa_cons (pv 0) (pa_cons pe_int pa_nil))) pe_int) pe_int) (fun _ _ => rfl)))
    (pss_one (ps_ret (pe_cmpR (op_eqD hr.units) (pe_call (ok__law_kinds T) (hr.mono (by decide)) (by rfl) T.g__law_kinds T.F__law_kinds.kp T.b__law_kinds .nil pass0 (pa_cons (pv 6) pa_nil)) (pe_lst (pa_cons pe_bl (pa_cons pe_bl (pa_cons pe_bl (pa_cons pe_bl (pa_cons pe_bl (pa_cons pe_bl pa_nil))))))) (nomark _)))))))))))), ?_⟩
    have hc : ∀ {σ : L2.St} {H1 : Hp} {E : XK} (k : Nat) (hv : σ[0]? = some (some (.ref a))), Ex H H1 → Ev (tCall (sp__law_cell_at T) [] E (tCons (tVar 0) (tCons (tC (.int (k : Int))) tNil))) σ H1 (.int (cell ns k)) := fun k hv e =>
      ev_call (ea_cons (ev_var hv) (ea_cons ev_c ea_nil)) (spv__law_cell_at T (ex_l e hS))
    have cl : (cutI ns (some 3) (some 43)).length ≤ 40 := cut_most (i := 3) (j := 43)
    have drawn : ∀ (Q1 : VK), (∀ l, Mx.Fm l → (∀ p ∈ l, p < 1000) → l.length ≤ 100 → RetL ((Mx.nat l).map V.int) H Q1) → tCall (sp__law_drawn T) [] E0 (tCons (tCall (sp__law_cell_at T) [] E0 (tCons (tVar 0) (tCons (tC (.int 0)) tNil))) (tCons (tSl (rSlL K) (tVar 0) (tPart (tC (.int 3))) (tPart (tC (.int 43)))) tNil)) [some (.ref a), none, none, none, none, none, none] H Q1 := fun Q1 k => by
      refine hc 0 rfl (Ex.refl _) H (Ex.refl _) _ fun H2 e2 => ?_
      refine el_slI (lo := some 3) (hi := some 43) (ev_var (v := .ref a) rfl) (eo_some ev_c) (eo_some ev_c) hS H2 e2 _ fun s H3 hs e3 h3 => ?_
      exact ⟨_, s, _, rfl, h3, cl, fun l hF hpl hll f H4 nf e4 h4 => k l hF hpl hll f H4 (fresh_back (e2.trans e3) nf) ((e2.trans e3).trans e4) h4⟩
    refine drawn _ fun l hF hpl hll f H1 nf e1 h1 => ?_
    show tSeq _ _ _ ([some (.ref a), some (.ref f), none, none, none, none, none] : L2.St) H1
    have hp4 : ∀ p ∈ l, p < 10000 := fun p hp => by
      have := hpl p hp
      omega
    refine q_asgL (el_list (ev_var rfl) (SqL.of h1)) fun g H2 ng e2 h2 => ?_
    refine q_asg (v := .str (txF l)) (ev_call (ea_cons (ev_var rfl) ea_nil) fun H5 e5 Q5 q5 E5 => ⟨.ref g, true, rfl, fmT_nat (ex_to e5 h2) hF, (fun z => (nomatch z)), fun _ => ⟨g, l, rfl, ex_to e5 h2, by omega, hp4, fun H6 e6 => q5 H6 e6⟩⟩) fun H3 e3 => ?_
    have h1' : H3 f = some (.lst ((Mx.nat l).map V.int)) := ex_to e3 (ex_to e2 h1)
    have h2' : H3 g = some (.lst ((Mx.nat l).map V.int)) := ex_to e3 h2
    refine q_asg (ev_call (ea_cons (ev_var rfl) ea_nil) (spv__law_text T h1' hp4)) fun H4 e4 => ?_
    obtain ⟨tv, tp, tb⟩ := topP_ok (l := l) (n := 1000) hpl (by decide)
    have lt : (txF l).length ≤ 1000 := by rw [len_txF]; omega
    have hf4 : H4 f = some (.lst ((Mx.nat l).map V.int)) := ex_to e4 h1'
    have hg4 : H4 g = some (.lst ((Mx.nat l).map V.int)) := ex_to e4 h2'
    refine q_when (b := false) ?_ (fun hb _ _ => absurd hb (by decide)) (fun hb H5 e5 => ?_)
    · refine et_eq (et_or (a := false) (b := false) ?_ fun _ => et_or (a := false) (b := false) ?_ fun _ => et_or (a := false) (b := false) ?_ fun _ => ?_) rfl
      · exact et_eq (et_not (et_B (ev_isi (ev_var rfl) (TyOf.str (txF l)) (b := true) (by decide +kernel)))) rfl
      · exact et_eq (et_test (ev_op (ev_var rfl) (ev_var rfl) (rv_ne rfl))) (by simp)
      · exact et_eq (et_test (ev_neH (evh_v (ev_var rfl) (hd_ints (SqL.of hg4))) (evh_v (ev_var rfl) (hd_ints (SqL.of hf4))) (by decide))) (by simp)
      · refine et_eq (et_not (et_B (ev_call (z := .bl true) (ea_cons (ev_var rfl) (ea_cons (ev_var rfl) ea_nil)) (spv__law_read T (by omega) (.inr ⟨okT_txF hF, f, rfl, ?_⟩))))) rfl
        rw [plT_txF hF]
        exact hf4
    have eH5 : Ex H H5 := by walk_at "ex"
    refine q_asgS (n := 10000) (evs_call (ea_cons (ev_var rfl) (ea_cons (ev_var rfl) ea_nil)) fun H6 e6 Q6 q6 => ⟨a, ns, txF l, rfl, ex_l (eH5.trans e6) hS, by rw [len_txF]; omega, by omega, fun s H7 e7 hs => q6 s H7 e7 hs⟩) fun s H6 e6 hs => ?_
    refine q_when (b := false) (et_eq (et_not (et_B (b := true) fun H7 e7 Q7 q7 => ?_)) rfl) (fun hb _ _ => absurd hb (by decide)) (fun hb H7 e7 => ?_)
    · refine ⟨.str s, rfl, .str s, rfl, s, rfl, by omega, fun no H9 e9 => ?_, fun ok p H9 hp e9 h9 => ?_⟩
      · exact ⟨s, .non, rfl, by omega, .inl ⟨no, rfl⟩, fun H10 e10 => q7 H10 (e9.trans e10)⟩
      · exact ⟨s, .ref p, rfl, by omega, .inr ⟨ok, p, rfl, h9⟩, fun H10 e10 => q7 H10 (e9.trans e10)⟩
    have eH7 : Ex H H7 := by walk_at "ex"
    refine menu4 (c := cell ns 0 / 32) (fun H8 e8 => ?_) (fun x H8 e8 hx => ?_)
    · exact ev_op (ev_op (hc 0 rfl (eH7.trans e8)) ev_c (rv_I (cdiv (by decide) (by decide)))) ev_c (rv_I (show (0 : Int) < 8 by decide))
    · refine s_ret (ev_last (ev_eqH (evh_L (el_call (ea_cons (ev_var rfl) ea_nil) (spl__law_kinds T (o := none) hx)) (hdAll_bls (kindsOf (okO none)))) (evh_L (el_lst (ea_cons ev_c (ea_cons ev_c (ea_cons ev_c (ea_cons ev_c (ea_cons ev_c (ea_cons ev_c ea_nil)))))) (by decide)) (hdAll_bls [true, true, false, false, false, false])) (by decide)) (by decide)) fun H9 e9 => q H9

end
theorem all_mk {l : PySem.W.OpenLaw} {w : World} {K : PySem.W.Frag} {h : Heap} {mg : Str → Option Value} {fa : Addr} (X : K.In h) (G : h.Ns mainGlobals mg) (hfa : mg "law" = some (.ref fa)) {c_SparseError c_NoNumber c_NoForm c_NoText c_NoStep c_TooLittle f0 f1 f2 f3 f4 f5 f6 f7 f8 f9 f10 f11 f12 f13 f14 : Addr}
    {od0 an0 : Option Addr} {sl0 : Array (Option Value)} {oc0 kV0 dc0 pm0 cd0 ct0 : Value}
    {od1 an1 : Option Addr} {sl1 : Array (Option Value)} {oc1 kV1 dc1 pm1 cd1 ct1 : Value}
    {od2 an2 : Option Addr} {sl2 : Array (Option Value)} {oc2 kV2 dc2 pm2 cd2 ct2 : Value}
    {od3 an3 : Option Addr} {sl3 : Array (Option Value)} {oc3 kV3 dc3 pm3 cd3 ct3 : Value}
    {od4 an4 : Option Addr} {sl4 : Array (Option Value)} {oc4 kV4 dc4 pm4 cd4 ct4 : Value}
    {od5 an5 : Option Addr} {sl5 : Array (Option Value)} {oc5 kV5 dc5 pm5 cd5 ct5 : Value}
    {od6 an6 : Option Addr} {sl6 : Array (Option Value)} {oc6 kV6 dc6 pm6 cd6 ct6 : Value}
    {od7 an7 : Option Addr} {sl7 : Array (Option Value)} {oc7 kV7 dc7 pm7 cd7 ct7 : Value}
    {od8 an8 : Option Addr} {sl8 : Array (Option Value)} {oc8 kV8 dc8 pm8 cd8 ct8 : Value}
    {od9 an9 : Option Addr} {sl9 : Array (Option Value)} {oc9 kV9 dc9 pm9 cd9 ct9 : Value}
    {od10 an10 : Option Addr} {sl10 : Array (Option Value)} {oc10 kV10 dc10 pm10 cd10 ct10 : Value}
    {od11 an11 : Option Addr} {sl11 : Array (Option Value)} {oc11 kV11 dc11 pm11 cd11 ct11 : Value}
    {od12 an12 : Option Addr} {sl12 : Array (Option Value)} {oc12 kV12 dc12 pm12 cd12 ct12 : Value}
    {od13 an13 : Option Addr} {sl13 : Array (Option Value)} {oc13 kV13 dc13 pm13 cd13 ct13 : Value}
    {od14 an14 : Option Addr} {sl14 : Array (Option Value)} {oc14 kV14 dc14 pm14 cd14 ct14 : Value}
    (z_ValueError : PySem.W.nsIn K mainGlobals "ValueError" = some none)
    (z_all : PySem.W.nsIn K mainGlobals "all" = some none)
    (z_bool : PySem.W.nsIn K mainGlobals "bool" = some none)
    (z_enumerate : PySem.W.nsIn K mainGlobals "enumerate" = some none)
    (z_int : PySem.W.nsIn K mainGlobals "int" = some none)
    (z_isinstance : PySem.W.nsIn K mainGlobals "isinstance" = some none)
    (z_len : PySem.W.nsIn K mainGlobals "len" = some none)
    (z_list : PySem.W.nsIn K mainGlobals "list" = some none)
    (z_max : PySem.W.nsIn K mainGlobals "max" = some none)
    (z_range : PySem.W.nsIn K mainGlobals "range" = some none)
    (z_reversed : PySem.W.nsIn K mainGlobals "reversed" = some none)
    (z_str : PySem.W.nsIn K mainGlobals "str" = some none)
    (g_SparseError : PySem.W.nsIn K mainGlobals "SparseError" = some (some (.ref c_SparseError)))
    (g_NoNumber : PySem.W.nsIn K mainGlobals "NoNumber" = some (some (.ref c_NoNumber)))
    (g_NoForm : PySem.W.nsIn K mainGlobals "NoForm" = some (some (.ref c_NoForm)))
    (g_NoText : PySem.W.nsIn K mainGlobals "NoText" = some (some (.ref c_NoText)))
    (g_NoStep : PySem.W.nsIn K mainGlobals "NoStep" = some (some (.ref c_NoStep)))
    (g_TooLittle : PySem.W.nsIn K mainGlobals "TooLittle" = some (some (.ref c_TooLittle)))
    (x_NoText : PySem.W.excIn K c_NoText [.type "ValueError", .type "Exception", .type "BaseException", .type "object"] "ValueError.__new__" = true)
    (k_NoText : PySem.W.keepIn K (.ref c_NoText) = true)
    (b_NoText : PySem.W.subIn K (.ref c_NoText) (.type "BaseException") = some true)
    (t_NoText : PySem.W.typeIn K (.ref c_NoText) = some (.type "type"))
    (ehg_NoText : PySem.W.findIn K (.ref c_NoText) "__getattribute__" = some (some (.builtin "BaseException.__getattribute__")))
    (ehk_NoText : PySem.W.findIn K (.ref c_NoText) "__getattr__" = some none)
    (ehd_NoText : PySem.W.hasDictIn K c_NoText = true)
    (eha_NoText : PySem.W.findIn K (.ref c_NoText) "__class__" = some (some (.builtin "object.__class__")))
    (ehn_NoText : PySem.W.specialIn K (.builtin "object.__class__") "__get__" = some (some (.builtin "getset_descriptor.__get__")))
    (eht_NoText : PySem.W.takesIn K (.builtin "object.__class__") = some true)
    (ehm_NoText : PySem.W.mroIn K c_NoText (.type "object") = some true)
    (s_NoText_NoForm : PySem.W.subIn K (.ref c_NoText) (.ref c_NoForm) = some false)
    (s_NoText_NoNumber : PySem.W.subIn K (.ref c_NoText) (.ref c_NoNumber) = some false)
    (s_NoText_NoStep : PySem.W.subIn K (.ref c_NoText) (.ref c_NoStep) = some false)
    (s_NoText_NoText : PySem.W.subIn K (.ref c_NoText) (.ref c_NoText) = some true)
    (s_NoText_SparseError : PySem.W.subIn K (.ref c_NoText) (.ref c_SparseError) = some true)
    (s_NoText_TooLittle : PySem.W.subIn K (.ref c_NoText) (.ref c_TooLittle) = some false)
    (ne_NoText_NoNumber : c_NoText ≠ c_NoNumber)
    (sv_NoText : PySem.W.subIn K (.ref c_NoText) (.type "ValueError") = some true)
    (ne_NoText_NoForm : c_NoText ≠ c_NoForm)
    (ne_NoText_NoStep : c_NoText ≠ c_NoStep)
    (ne_NoText_TooLittle : c_NoText ≠ c_TooLittle)
    (x_NoForm : PySem.W.excIn K c_NoForm [.type "ValueError", .type "Exception", .type "BaseException", .type "object"] "ValueError.__new__" = true)
    (k_NoForm : PySem.W.keepIn K (.ref c_NoForm) = true)
    (b_NoForm : PySem.W.subIn K (.ref c_NoForm) (.type "BaseException") = some true)
    (t_NoForm : PySem.W.typeIn K (.ref c_NoForm) = some (.type "type"))
    (ehg_NoForm : PySem.W.findIn K (.ref c_NoForm) "__getattribute__" = some (some (.builtin "BaseException.__getattribute__")))
    (ehk_NoForm : PySem.W.findIn K (.ref c_NoForm) "__getattr__" = some none)
    (ehd_NoForm : PySem.W.hasDictIn K c_NoForm = true)
    (eha_NoForm : PySem.W.findIn K (.ref c_NoForm) "__class__" = some (some (.builtin "object.__class__")))
    (ehn_NoForm : PySem.W.specialIn K (.builtin "object.__class__") "__get__" = some (some (.builtin "getset_descriptor.__get__")))
    (eht_NoForm : PySem.W.takesIn K (.builtin "object.__class__") = some true)
    (ehm_NoForm : PySem.W.mroIn K c_NoForm (.type "object") = some true)
    (s_NoForm_NoForm : PySem.W.subIn K (.ref c_NoForm) (.ref c_NoForm) = some true)
    (s_NoForm_NoNumber : PySem.W.subIn K (.ref c_NoForm) (.ref c_NoNumber) = some false)
    (s_NoForm_NoStep : PySem.W.subIn K (.ref c_NoForm) (.ref c_NoStep) = some false)
    (s_NoForm_NoText : PySem.W.subIn K (.ref c_NoForm) (.ref c_NoText) = some false)
    (s_NoForm_SparseError : PySem.W.subIn K (.ref c_NoForm) (.ref c_SparseError) = some true)
    (s_NoForm_TooLittle : PySem.W.subIn K (.ref c_NoForm) (.ref c_TooLittle) = some false)
    (ne_NoForm_NoNumber : c_NoForm ≠ c_NoNumber)
    (sv_NoForm : PySem.W.subIn K (.ref c_NoForm) (.type "ValueError") = some true)
    (ne_NoForm_NoText : c_NoForm ≠ c_NoText)
    (ne_NoForm_NoStep : c_NoForm ≠ c_NoStep)
    (ne_NoForm_TooLittle : c_NoForm ≠ c_TooLittle)
    (xd_NoForm : PySem.W.hasDictIn K c_NoForm = true)
    (xt_NoForm : PySem.W.typeIn K (.ref c_NoForm) = some (.type "type"))
    (xd_NoNumber : PySem.W.hasDictIn K c_NoNumber = true)
    (xt_NoNumber : PySem.W.typeIn K (.ref c_NoNumber) = some (.type "type"))
    (xd_NoStep : PySem.W.hasDictIn K c_NoStep = true)
    (xt_NoStep : PySem.W.typeIn K (.ref c_NoStep) = some (.type "type"))
    (xd_NoText : PySem.W.hasDictIn K c_NoText = true)
    (xt_NoText : PySem.W.typeIn K (.ref c_NoText) = some (.type "type"))
    (xd_SparseError : PySem.W.hasDictIn K c_SparseError = true)
    (xt_SparseError : PySem.W.typeIn K (.ref c_SparseError) = some (.type "type"))
    (xd_TooLittle : PySem.W.hasDictIn K c_TooLittle = true)
    (xt_TooLittle : PySem.W.typeIn K (.ref c_TooLittle) = some (.type "type"))
    (xb_SparseError : PySem.W.subIn K (.ref c_SparseError) (.type "BaseException") = some true)
    (xb_NoText : PySem.W.subIn K (.ref c_NoText) (.type "BaseException") = some true)
    (a0 : PySem.W.nsIn K mainGlobals "is_whole" = some (some (.ref f0)))
    (l0 : K.lookup f0 = some ⟨oc0, od0, .func (PySem.W.fnOf "is_whole" "is_whole" (defArgs s_is_whole) (defBody s_is_whole) (defScope s_is_whole) .none kV0 dc0 pm0 an0 cd0 ct0), sl0⟩)
    (q0 : PySem.W.codeIn K cd0 "is_whole" = true)
    (k0 : PySem.W.keepIn K (.ref f0) = true)
    (a1 : PySem.W.nsIn K mainGlobals "is_form" = some (some (.ref f1)))
    (l1 : K.lookup f1 = some ⟨oc1, od1, .func (PySem.W.fnOf "is_form" "is_form" (defArgs s_is_form) (defBody s_is_form) (defScope s_is_form) .none kV1 dc1 pm1 an1 cd1 ct1), sl1⟩)
    (q1 : PySem.W.codeIn K cd1 "is_form" = true)
    (k1 : PySem.W.keepIn K (.ref f1) = true)
    (a2 : PySem.W.nsIn K mainGlobals "need_form" = some (some (.ref f2)))
    (l2 : K.lookup f2 = some ⟨oc2, od2, .func (PySem.W.fnOf "need_form" "need_form" (defArgs s_need_form) (defBody s_need_form) (defScope s_need_form) .none kV2 dc2 pm2 an2 cd2 ct2), sl2⟩)
    (q2 : PySem.W.codeIn K cd2 "need_form" = true)
    (k2 : PySem.W.keepIn K (.ref f2) = true)
    (a3 : PySem.W.nsIn K mainGlobals "written" = some (some (.ref f3)))
    (l3 : K.lookup f3 = some ⟨oc3, od3, .func (PySem.W.fnOf "written" "written" (defArgs s_written) (defBody s_written) (defScope s_written) .none kV3 dc3 pm3 an3 cd3 ct3), sl3⟩)
    (q3 : PySem.W.codeIn K cd3 "written" = true)
    (k3 : PySem.W.keepIn K (.ref f3) = true)
    (a4 : PySem.W.nsIn K mainGlobals "read" = some (some (.ref f4)))
    (l4 : K.lookup f4 = some ⟨oc4, od4, .func (PySem.W.fnOf "read" "read" (defArgs s_read) (defBody s_read) (defScope s_read) .none kV4 dc4 pm4 an4 cd4 ct4), sl4⟩)
    (q4 : PySem.W.codeIn K cd4 "read" = true)
    (k4 : PySem.W.keepIn K (.ref f4) = true)
    (a5 : PySem.W.nsIn K mainGlobals "_law_cell_at" = some (some (.ref f5)))
    (l5 : K.lookup f5 = some ⟨oc5, od5, .func (PySem.W.fnOf "_law_cell_at" "_law_cell_at" (defArgs s__law_cell_at) (defBody s__law_cell_at) (defScope s__law_cell_at) .none kV5 dc5 pm5 an5 cd5 ct5), sl5⟩)
    (q5 : PySem.W.codeIn K cd5 "_law_cell_at" = true)
    (k5 : PySem.W.keepIn K (.ref f5) = true)
    (a6 : PySem.W.nsIn K mainGlobals "_law_whole" = some (some (.ref f6)))
    (l6 : K.lookup f6 = some ⟨oc6, od6, .func (PySem.W.fnOf "_law_whole" "_law_whole" (defArgs s__law_whole) (defBody s__law_whole) (defScope s__law_whole) .none kV6 dc6 pm6 an6 cd6 ct6), sl6⟩)
    (q6 : PySem.W.codeIn K cd6 "_law_whole" = true)
    (k6 : PySem.W.keepIn K (.ref f6) = true)
    (a7 : PySem.W.nsIn K mainGlobals "_law_drawn" = some (some (.ref f7)))
    (l7 : K.lookup f7 = some ⟨oc7, od7, .func (PySem.W.fnOf "_law_drawn" "_law_drawn" (defArgs s__law_drawn) (defBody s__law_drawn) (defScope s__law_drawn) .none kV7 dc7 pm7 an7 cd7 ct7), sl7⟩)
    (q7 : PySem.W.codeIn K cd7 "_law_drawn" = true)
    (k7 : PySem.W.keepIn K (.ref f7) = true)
    (a8 : PySem.W.nsIn K mainGlobals "_law_text" = some (some (.ref f8)))
    (l8 : K.lookup f8 = some ⟨oc8, od8, .func (PySem.W.fnOf "_law_text" "_law_text" (defArgs s__law_text) (defBody s__law_text) (defScope s__law_text) .none kV8 dc8 pm8 an8 cd8 ct8), sl8⟩)
    (q8 : PySem.W.codeIn K cd8 "_law_text" = true)
    (k8 : PySem.W.keepIn K (.ref f8) = true)
    (a9 : PySem.W.nsIn K mainGlobals "_law_sign" = some (some (.ref f9)))
    (l9 : K.lookup f9 = some ⟨oc9, od9, .func (PySem.W.fnOf "_law_sign" "_law_sign" (defArgs s__law_sign) (defBody s__law_sign) (defScope s__law_sign) .none kV9 dc9 pm9 an9 cd9 ct9), sl9⟩)
    (q9 : PySem.W.codeIn K cd9 "_law_sign" = true)
    (k9 : PySem.W.keepIn K (.ref f9) = true)
    (a10 : PySem.W.nsIn K mainGlobals "_law_spoiled" = some (some (.ref f10)))
    (l10 : K.lookup f10 = some ⟨oc10, od10, .func (PySem.W.fnOf "_law_spoiled" "_law_spoiled" (defArgs s__law_spoiled) (defBody s__law_spoiled) (defScope s__law_spoiled) .none kV10 dc10 pm10 an10 cd10 ct10), sl10⟩)
    (q10 : PySem.W.codeIn K cd10 "_law_spoiled" = true)
    (k10 : PySem.W.keepIn K (.ref f10) = true)
    (a11 : PySem.W.nsIn K mainGlobals "_law_due" = some (some (.ref f11)))
    (l11 : K.lookup f11 = some ⟨oc11, od11, .func (PySem.W.fnOf "_law_due" "_law_due" (defArgs s__law_due) (defBody s__law_due) (defScope s__law_due) .none kV11 dc11 pm11 an11 cd11 ct11), sl11⟩)
    (q11 : PySem.W.codeIn K cd11 "_law_due" = true)
    (k11 : PySem.W.keepIn K (.ref f11) = true)
    (a12 : PySem.W.nsIn K mainGlobals "_law_kinds" = some (some (.ref f12)))
    (l12 : K.lookup f12 = some ⟨oc12, od12, .func (PySem.W.fnOf "_law_kinds" "_law_kinds" (defArgs s__law_kinds) (defBody s__law_kinds) (defScope s__law_kinds) .none kV12 dc12 pm12 an12 cd12 ct12), sl12⟩)
    (q12 : PySem.W.codeIn K cd12 "_law_kinds" = true)
    (k12 : PySem.W.keepIn K (.ref f12) = true)
    (a13 : PySem.W.nsIn K mainGlobals "_law_read" = some (some (.ref f13)))
    (l13 : K.lookup f13 = some ⟨oc13, od13, .func (PySem.W.fnOf "_law_read" "_law_read" (defArgs s__law_read) (defBody s__law_read) (defScope s__law_read) .none kV13 dc13 pm13 an13 cd13 ct13), sl13⟩)
    (q13 : PySem.W.codeIn K cd13 "_law_read" = true)
    (k13 : PySem.W.keepIn K (.ref f13) = true)
    (a14 : PySem.W.nsIn K mainGlobals "law" = some (some (.ref f14)))
    (l14 : K.lookup f14 = some ⟨oc14, od14, .func (PySem.W.fnOf "law" "law" (defArgs s_law) (defBody s_law) (defScope s_law) .none kV14 dc14 pm14 an14 cd14 ct14), sl14⟩)
    (q14 : PySem.W.codeIn K cd14 "law" = true)
    (k14 : PySem.W.keepIn K (.ref f14) = true)
    : ∃ fd : FuncData, (∀ (s : Shared) (v : Value), BindsTo s fd ⟨[v], []⟩ [("_law_script", v)]) ∧ ∀ base : Heap, K.In base → base.Ns mainGlobals mg → FnOk l.prog w K mg base CX0 5 fa fd ["_law_script"] (sp_law K) := by
  have e := hfa.symm.trans (PySem.W.mg_of X G a14)
  cases e
  let T : Txt K mg :=
    { n_ValueError := PySem.W.mg_none_of X G z_ValueError,
      n_all := PySem.W.mg_none_of X G z_all,
      n_bool := PySem.W.mg_none_of X G z_bool,
      n_enumerate := PySem.W.mg_none_of X G z_enumerate,
      n_int := PySem.W.mg_none_of X G z_int,
      n_isinstance := PySem.W.mg_none_of X G z_isinstance,
      n_len := PySem.W.mg_none_of X G z_len,
      n_list := PySem.W.mg_none_of X G z_list,
      n_max := PySem.W.mg_none_of X G z_max,
      n_range := PySem.W.mg_none_of X G z_range,
      n_reversed := PySem.W.mg_none_of X G z_reversed,
      n_str := PySem.W.mg_none_of X G z_str,
      a_SparseError := c_SparseError,
      g_SparseError := PySem.W.mg_of X G g_SparseError,
      a_NoNumber := c_NoNumber,
      g_NoNumber := PySem.W.mg_of X G g_NoNumber,
      a_NoForm := c_NoForm,
      g_NoForm := PySem.W.mg_of X G g_NoForm,
      a_NoText := c_NoText,
      g_NoText := PySem.W.mg_of X G g_NoText,
      a_NoStep := c_NoStep,
      g_NoStep := PySem.W.mg_of X G g_NoStep,
      a_TooLittle := c_TooLittle,
      g_TooLittle := PySem.W.mg_of X G g_TooLittle,
      x_NoText := x_NoText,
      k_NoText := k_NoText,
      b_NoText := b_NoText,
      t_NoText := t_NoText,
      e_NoText := ⟨ehg_NoText, ehk_NoText, b_NoText, ehd_NoText, eha_NoText, ehn_NoText, eht_NoText, ehm_NoText⟩,
      m_NoText_SparseError := PySem.W.exm_ref xb_SparseError xd_SparseError xt_SparseError s_NoText_SparseError,
      m_NoText_NoText := PySem.W.exm_ref xb_NoText xd_NoText xt_NoText s_NoText_NoText,
      i_NoText_NoNumber := kit_own xd_NoNumber xt_NoNumber s_NoText_NoNumber (Or.inr ne_NoText_NoNumber),
      i_NoText_ValueError := kit_val sv_NoText,
      i_NoText_NoForm := kit_own xd_NoForm xt_NoForm s_NoText_NoForm (Or.inr ne_NoText_NoForm),
      i_NoText_NoText := kit_own xd_NoText xt_NoText s_NoText_NoText (Or.inl rfl),
      i_NoText_NoStep := kit_own xd_NoStep xt_NoStep s_NoText_NoStep (Or.inr ne_NoText_NoStep),
      i_NoText_TooLittle := kit_own xd_TooLittle xt_TooLittle s_NoText_TooLittle (Or.inr ne_NoText_TooLittle),
      x_NoForm := x_NoForm,
      k_NoForm := k_NoForm,
      b_NoForm := b_NoForm,
      t_NoForm := t_NoForm,
      e_NoForm := ⟨ehg_NoForm, ehk_NoForm, b_NoForm, ehd_NoForm, eha_NoForm, ehn_NoForm, eht_NoForm, ehm_NoForm⟩,
      m_NoForm_SparseError := PySem.W.exm_ref xb_SparseError xd_SparseError xt_SparseError s_NoForm_SparseError,
      m_NoForm_NoText := PySem.W.exm_ref xb_NoText xd_NoText xt_NoText s_NoForm_NoText,
      i_NoForm_NoNumber := kit_own xd_NoNumber xt_NoNumber s_NoForm_NoNumber (Or.inr ne_NoForm_NoNumber),
      i_NoForm_ValueError := kit_val sv_NoForm,
      i_NoForm_NoForm := kit_own xd_NoForm xt_NoForm s_NoForm_NoForm (Or.inl rfl),
      i_NoForm_NoText := kit_own xd_NoText xt_NoText s_NoForm_NoText (Or.inr ne_NoForm_NoText),
      i_NoForm_NoStep := kit_own xd_NoStep xt_NoStep s_NoForm_NoStep (Or.inr ne_NoForm_NoStep),
      i_NoForm_TooLittle := kit_own xd_TooLittle xt_TooLittle s_NoForm_TooLittle (Or.inr ne_NoForm_TooLittle),
      f_is_whole := f0,
      d_is_whole := _,
      F_is_whole := fun_mk (st := s_is_whole) l0 q0 k0,
      g_is_whole := PySem.W.mg_of X G a0,
      b_is_whole := (fun_mk (st := s_is_whole) l0 q0 k0).binds (ps := ["thing"]) fun _ _ _ _ _ _ us hl => match us, hl with | [_], _ => rfl,
      f_is_form := f1,
      d_is_form := _,
      F_is_form := fun_mk (st := s_is_form) l1 q1 k1,
      g_is_form := PySem.W.mg_of X G a1,
      b_is_form := (fun_mk (st := s_is_form) l1 q1 k1).binds (ps := ["thing"]) fun _ _ _ _ _ _ us hl => match us, hl with | [_], _ => rfl,
      f_need_form := f2,
      d_need_form := _,
      F_need_form := fun_mk (st := s_need_form) l2 q2 k2,
      g_need_form := PySem.W.mg_of X G a2,
      b_need_form := (fun_mk (st := s_need_form) l2 q2 k2).binds (ps := ["thing"]) fun _ _ _ _ _ _ us hl => match us, hl with | [_], _ => rfl,
      f_written := f3,
      d_written := _,
      F_written := fun_mk (st := s_written) l3 q3 k3,
      g_written := PySem.W.mg_of X G a3,
      b_written := (fun_mk (st := s_written) l3 q3 k3).binds (ps := ["form"]) fun _ _ _ _ _ _ us hl => match us, hl with | [_], _ => rfl,
      f_read := f4,
      d_read := _,
      F_read := fun_mk (st := s_read) l4 q4 k4,
      g_read := PySem.W.mg_of X G a4,
      b_read := (fun_mk (st := s_read) l4 q4 k4).binds (ps := ["text"]) fun _ _ _ _ _ _ us hl => match us, hl with | [_], _ => rfl,
      f__law_cell_at := f5,
      d__law_cell_at := _,
      F__law_cell_at := fun_mk (st := s__law_cell_at) l5 q5 k5,
      g__law_cell_at := PySem.W.mg_of X G a5,
      b__law_cell_at := (fun_mk (st := s__law_cell_at) l5 q5 k5).binds (ps := ["_law_script", "_law_k"]) fun _ _ _ _ _ _ us hl => match us, hl with | [_, _], _ => rfl,
      f__law_whole := f6,
      d__law_whole := _,
      F__law_whole := fun_mk (st := s__law_whole) l6 q6 k6,
      g__law_whole := PySem.W.mg_of X G a6,
      b__law_whole := (fun_mk (st := s__law_whole) l6 q6 k6).binds (ps := ["_law_found"]) fun _ _ _ _ _ _ us hl => match us, hl with | [_], _ => rfl,
      f__law_drawn := f7,
      d__law_drawn := _,
      F__law_drawn := fun_mk (st := s__law_drawn) l7 q7 k7,
      g__law_drawn := PySem.W.mg_of X G a7,
      b__law_drawn := (fun_mk (st := s__law_drawn) l7 q7 k7).binds (ps := ["_law_cell", "_law_cells"]) fun _ _ _ _ _ _ us hl => match us, hl with | [_, _], _ => rfl,
      f__law_text := f8,
      d__law_text := _,
      F__law_text := fun_mk (st := s__law_text) l8 q8 k8,
      g__law_text := PySem.W.mg_of X G a8,
      b__law_text := (fun_mk (st := s__law_text) l8 q8 k8).binds (ps := ["_law_form"]) fun _ _ _ _ _ _ us hl => match us, hl with | [_], _ => rfl,
      f__law_sign := f9,
      d__law_sign := _,
      F__law_sign := fun_mk (st := s__law_sign) l9 q9 k9,
      g__law_sign := PySem.W.mg_of X G a9,
      b__law_sign := (fun_mk (st := s__law_sign) l9 q9 k9).binds (ps := ["_law_cell"]) fun _ _ _ _ _ _ us hl => match us, hl with | [_], _ => rfl,
      f__law_spoiled := f10,
      d__law_spoiled := _,
      F__law_spoiled := fun_mk (st := s__law_spoiled) l10 q10 k10,
      g__law_spoiled := PySem.W.mg_of X G a10,
      b__law_spoiled := (fun_mk (st := s__law_spoiled) l10 q10 k10).binds (ps := ["_law_script", "_law_text_here"]) fun _ _ _ _ _ _ us hl => match us, hl with | [_, _], _ => rfl,
      f__law_due := f11,
      d__law_due := _,
      F__law_due := fun_mk (st := s__law_due) l11 q11 k11,
      g__law_due := PySem.W.mg_of X G a11,
      b__law_due := (fun_mk (st := s__law_due) l11 q11 k11).binds (ps := ["_law_text_here"]) fun _ _ _ _ _ _ us hl => match us, hl with | [_], _ => rfl,
      f__law_kinds := f12,
      d__law_kinds := _,
      F__law_kinds := fun_mk (st := s__law_kinds) l12 q12 k12,
      g__law_kinds := PySem.W.mg_of X G a12,
      b__law_kinds := (fun_mk (st := s__law_kinds) l12 q12 k12).binds (ps := ["_law_thing"]) fun _ _ _ _ _ _ us hl => match us, hl with | [_], _ => rfl,
      f__law_read := f13,
      d__law_read := _,
      F__law_read := fun_mk (st := s__law_read) l13 q13 k13,
      g__law_read := PySem.W.mg_of X G a13,
      b__law_read := (fun_mk (st := s__law_read) l13 q13 k13).binds (ps := ["_law_text_here", "_law_due_here"]) fun _ _ _ _ _ _ us hl => match us, hl with | [_, _], _ => rfl }
  exact ⟨_, fun s v => .of_eq rfl, fun base _ _ => ok_law T (fun_mk (st := s_law) l14 q14 k14)⟩

end Kk
open PySem PySem.W PyProof.Rows
set_option maxHeartbeats 0 in
theorem PySem.Challenge.cw_sparsesum_k04_written_and_read_holds : PySem.Challenge.rw_sparsesum_k04_written_and_read.Holds := by
  w_on; o_law; k_head; (case hw => w_witness2)
  k_fill
  refine L2.walk_of (l := PySem.Challenge.rw_sparsesum_k04_written_and_read) (n := 63) (k := 5) (x := "_law_script") (CX := fun _ => L2.CX0) (sp := fun w => Kk.sp_law _) rfl (by decide) rfl ⟨rfl, by decide, by decide⟩ (fun w h Y => PySem.W.kIn_of Y) ?F (fun _ _ a ns hl _ hS => ⟨a, ns, rfl, hS, hl, fun _ => rfl⟩) (fun _ _ _ _ _ h => h)
  case F =>
    intro w mg fa h KX G hmg
    refine' Kk.all_mk KX G hmg ?z_ValueError ?z_all ?z_bool ?z_enumerate ?z_int ?z_isinstance ?z_len ?z_list ?z_max ?z_range ?z_reversed ?z_str ?g_SparseError ?g_NoNumber ?g_NoForm ?g_NoText ?g_NoStep ?g_TooLittle ?x_NoText ?k_NoText ?b_NoText ?t_NoText ?ehg_NoText ?ehk_NoText ?ehd_NoText ?eha_NoText ?ehn_NoText ?eht_NoText ?ehm_NoText ?s_NoText_NoForm ?s_NoText_NoNumber ?s_NoText_NoStep ?s_NoText_NoText ?s_NoText_SparseError ?s_NoText_TooLittle ?ne_NoText_NoNumber ?sv_NoText ?ne_NoText_NoForm ?ne_NoText_NoStep ?ne_NoText_TooLittle ?x_NoForm ?k_NoForm ?b_NoForm ?t_NoForm ?ehg_NoForm ?ehk_NoForm ?ehd_NoForm ?eha_NoForm ?ehn_NoForm ?eht_NoForm ?ehm_NoForm ?s_NoForm_NoForm ?s_NoForm_NoNumber ?s_NoForm_NoStep ?s_NoForm_NoText ?s_NoForm_SparseError ?s_NoForm_TooLittle ?ne_NoForm_NoNumber ?sv_NoForm ?ne_NoForm_NoText ?ne_NoForm_NoStep ?ne_NoForm_TooLittle ?xd_NoForm ?xt_NoForm ?xd_NoNumber ?xt_NoNumber ?xd_NoStep ?xt_NoStep ?xd_NoText ?xt_NoText ?xd_SparseError ?xt_SparseError ?xd_TooLittle ?xt_TooLittle ?xb_SparseError ?xb_NoText ?a0 ?l0 ?q0 ?k0 ?a1 ?l1 ?q1 ?k1 ?a2 ?l2 ?q2 ?k2 ?a3 ?l3 ?q3 ?k3 ?a4 ?l4 ?q4 ?k4 ?a5 ?l5 ?q5 ?k5 ?a6 ?l6 ?q6 ?k6 ?a7 ?l7 ?q7 ?k7 ?a8 ?l8 ?q8 ?k8 ?a9 ?l9 ?q9 ?k9 ?a10 ?l10 ?q10 ?k10 ?a11 ?l11 ?q11 ?k11 ?a12 ?l12 ?q12 ?k12 ?a13 ?l13 ?q13 ?k13 ?a14 ?l14 ?q14 ?k14
    (case z_ValueError => k_is)
    (case z_all => k_is)
    (case z_bool => k_is)
    (case z_enumerate => k_is)
    (case z_int => k_is)
    (case z_isinstance => k_is)
    (case z_len => k_is)
    (case z_list => k_is)
    (case z_max => k_is)
    (case z_range => k_is)
    (case z_reversed => k_is)
    (case z_str => k_is)
    (case g_SparseError => k_is)
    (case g_NoNumber => k_is)
    (case g_NoForm => k_is)
    (case g_NoText => k_is)
    (case g_NoStep => k_is)
    (case g_TooLittle => k_is)
    (case x_NoText => k_exc)
    (case k_NoText => k_is)
    (case b_NoText => k_is)
    (case t_NoText => k_is)
    (case ehg_NoText => k_is)
    (case ehk_NoText => k_is)
    (case ehd_NoText => k_is)
    (case eha_NoText => k_is)
    (case ehn_NoText => k_is)
    (case eht_NoText => k_is)
    (case ehm_NoText => k_is)
    (case s_NoText_NoForm => k_is)
    (case s_NoText_NoNumber => k_is)
    (case s_NoText_NoStep => k_is)
    (case s_NoText_NoText => k_is)
    (case s_NoText_SparseError => k_is)
    (case s_NoText_TooLittle => k_is)
    (case ne_NoText_NoNumber => decide)
    (case sv_NoText => k_is)
    (case ne_NoText_NoForm => decide)
    (case ne_NoText_NoStep => decide)
    (case ne_NoText_TooLittle => decide)
    (case x_NoForm => k_exc)
    (case k_NoForm => k_is)
    (case b_NoForm => k_is)
    (case t_NoForm => k_is)
    (case ehg_NoForm => k_is)
    (case ehk_NoForm => k_is)
    (case ehd_NoForm => k_is)
    (case eha_NoForm => k_is)
    (case ehn_NoForm => k_is)
    (case eht_NoForm => k_is)
    (case ehm_NoForm => k_is)
    (case s_NoForm_NoForm => k_is)
    (case s_NoForm_NoNumber => k_is)
    (case s_NoForm_NoStep => k_is)
    (case s_NoForm_NoText => k_is)
    (case s_NoForm_SparseError => k_is)
    (case s_NoForm_TooLittle => k_is)
    (case ne_NoForm_NoNumber => decide)
    (case sv_NoForm => k_is)
    (case ne_NoForm_NoText => decide)
    (case ne_NoForm_NoStep => decide)
    (case ne_NoForm_TooLittle => decide)
    (case xd_NoForm => k_is)
    (case xt_NoForm => k_is)
    (case xd_NoNumber => k_is)
    (case xt_NoNumber => k_is)
    (case xd_NoStep => k_is)
    (case xt_NoStep => k_is)
    (case xd_NoText => k_is)
    (case xt_NoText => k_is)
    (case xd_SparseError => k_is)
    (case xt_SparseError => k_is)
    (case xd_TooLittle => k_is)
    (case xt_TooLittle => k_is)
    (case xb_SparseError => k_is)
    (case xb_NoText => k_is)
    (case a0 => k_is)
    (case l0 => k_is)
    (case q0 => k_is)
    (case k0 => k_is)
    (case a1 => k_is)
    (case l1 => k_is)
    (case q1 => k_is)
    (case k1 => k_is)
    (case a2 => k_is)
    (case l2 => k_is)
    (case q2 => k_is)
    (case k2 => k_is)
    (case a3 => k_is)
    (case l3 => k_is)
    (case q3 => k_is)
    (case k3 => k_is)
    (case a4 => k_is)
    (case l4 => k_is)
    (case q4 => k_is)
    (case k4 => k_is)
    (case a5 => k_is)
    (case l5 => k_is)
    (case q5 => k_is)
    (case k5 => k_is)
    (case a6 => k_is)
    (case l6 => k_is)
    (case q6 => k_is)
    (case k6 => k_is)
    (case a7 => k_is)
    (case l7 => k_is)
    (case q7 => k_is)
    (case k7 => k_is)
    (case a8 => k_is)
    (case l8 => k_is)
    (case q8 => k_is)
    (case k8 => k_is)
    (case a9 => k_is)
    (case l9 => k_is)
    (case q9 => k_is)
    (case k9 => k_is)
    (case a10 => k_is)
    (case l10 => k_is)
    (case q10 => k_is)
    (case k10 => k_is)
    (case a11 => k_is)
    (case l11 => k_is)
    (case q11 => k_is)
    (case k11 => k_is)
    (case a12 => k_is)
    (case l12 => k_is)
    (case q12 => k_is)
    (case k12 => k_is)
    (case a13 => k_is)
    (case l13 => k_is)
    (case q13 => k_is)
    (case k13 => k_is)
    (case a14 => k_is)
    (case l14 => k_is)
    (case q14 => k_is)
    (case k14 => k_is)
