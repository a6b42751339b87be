import PyProof.Rows.All
import Wide.All
import OpenK.AllK
import Wide.FinOn
import HandS.ForMost
import HandS.ForExc
import HandS.IsInst
import HandS.ExcIs
import HandS.Evl
import HandS.SortKw
import HandS.SortInts
import HandS.SetFor
import HandS.Strs
import HandS.Deep
import HandS.StrMore
import HandS.Wide
import HandS.Rev
import HandS.Defaults
import KE.Datum
import PySem.Challenge.RW_sparsesum_k01_the_row_of_members
set_option Elab.async false
set_option linter.all false
set_option maxRecDepth 100000
set_option maxHeartbeats 4000000

set_option linter.all false
/-! Plain mathematics: no program in sight. -/
namespace Mx
/-- the member at a place -/
def mem : Nat → Int
  | 0 => 1
  | 1 => 2
  | n + 2 => mem n + mem (n + 1)
theorem mem_pos : ∀ n, 0 < mem n ∧ 0 < mem (n + 1)
  | 0 => ⟨by decide, by decide⟩
  | n + 1 => ⟨(mem_pos n).2, by
    show 0 < mem n + mem (n + 1)
    have := mem_pos n
    omega⟩
def row (n : Nat) : List Int := (List.range n).map mem
theorem row_len (n : Nat) : (row n).length = n := by unfold row; rw [List.length_map, List.length_range]
theorem row_succ (n : Nat) : row (n + 1) = row n ++ [mem n] := by unfold row; rw [List.range_succ, List.map_append]; rfl
theorem row_at {n i : Nat} (h : i < n) : (row n)[i]? = some (mem i) := by
  unfold row
  rw [List.getElem?_map, List.getElem?_range h]
  rfl
end Mx

set_option Elab.async false
set_option linter.all false
set_option maxRecDepth 100000
/-! Rules and lemmas of our own over the layer: they speak of no program. -/
namespace Z
open PySem PySem.Spec PyProof.Rows L2 Evl

/-! ### isinstance of the error that a suite holds -/
def rIsX (K : PySem.W.Frag) (cls : Value) (d : Option Addr) (a : Addr) : List V → Hp → VK → Prop := fun xs H Q =>
  ∃ (D : Addr) (c : V) (cv : Value) (b : Bool), cls = .ref D ∧ d = none ∧ ExcC K D ∧ xs = [.ref a, c] ∧ (∀ u, RelV c u → u = cv) ∧ PySem.W.kitOne K (.ref D) cv = some b ∧ Q (.bl b) H
theorem call_isX {X : Cx} {a : Addr} {oe : Obj} {cls : Value} {d : Option Addr} {pn : List (Addr × Obj)} (hz : Zc cls d oe) (hf : ∃ vs, oe.data = .fields vs) :
    CallR (X.suite a ((a, oe) :: pn)) (.builtin "isinstance") (rIsX X.K cls d a) := by
  intro pins s σ H xs us Q I r h
  obtain ⟨D, c, cv, b, rfl, rfl, hC, rfl, hcv, hk, q⟩ := h
  exact call_isE hC hz hf pins s σ H _ us Q I r ⟨c, cv, b, rfl, hcv, hk, q⟩
theorem ev_isX {K : PySem.W.Frag} {σ : L2.St} {H : Hp} {ta tb : TE} {D a : Addr} {c : V} {cv : Value} {b : Bool} (ha : Ev ta σ H (.ref a)) (hb : Ev tb σ H c) (hC : ExcC K D) (hcv : ∀ u, RelV c u → u = cv)
    (hk : PySem.W.kitOne K (.ref D) cv = some b) : Ev (tCB (rIsX K (.ref D) none a) (tCons ta (tCons tb tNil))) σ H (.bl b) := fun H1 e Q q =>
  ha H1 e _ fun H2 e2 => hb H2 (e.trans e2) _ fun H3 e3 => ⟨D, c, cv, b, rfl, rfl, hC, rfl, hcv, hk, q H3 (e2.trans e3)⟩
theorem rel_ref {C : Addr} : ∀ u, RelV (.ref C) u → u = .ref C := fun _ h => h
theorem rel_ty {n : String} : ∀ u, RelV (.ty n) u → u = .type n := fun _ h => h

theorem kit_own {K : PySem.W.Frag} {C D : Addr} {b : Bool} (hd : PySem.W.hasDictIn K D = true) (ht : PySem.W.typeIn K (.ref D) = some (.type "type")) (hs : PySem.W.subIn K (.ref C) (.ref D) = some b) (hne : b = true ∨ C ≠ D) :
    PySem.W.kitOne K (.ref C) (.ref D) = some b := by
  unfold PySem.W.kitOne
  by_cases e : C = D
  · subst e
    rcases hne with h | h
    · subst h
      rw [if_pos (by simp)]
    · exact absurd rfl h
  · rw [if_neg (by simpa using e)]
    obtain ⟨cd, hc, _⟩ := PySem.W.any_some hd
    unfold PySem.W.kitCls
    dsimp only
    rw [if_pos (by rw [hc, ht]; rfl)]
    exact hs
theorem kit_val {K : PySem.W.Frag} {C : Addr} (hs : PySem.W.subIn K (.ref C) (.type "ValueError") = some true) : PySem.W.kitOne K (.ref C) (.type "ValueError") = some true := by
  unfold PySem.W.kitOne
  rw [if_neg (by simp)]
  unfold PySem.W.kitCls
  dsimp only
  rw [if_pos (by decide +kernel)]
  exact hs

/-! ### types of values: what isinstance asks -/
def Ty (K : PySem.W.Frag) (H : Hp) (x : V) (n : String) : Prop := TyOf K H x (.type n)
theorem Ty.mono {K : PySem.W.Frag} {H H' : Hp} {x : V} {n : String} (e : Ex H H') (h : Ty K H x n) : Ty K H' x n := by
  unfold Ty at h ⊢
  generalize e' : Value.type n = t at h
  cases h with
  | ins => cases e'
  | non => exact .non
  | bl x => exact .bl x
  | int i => exact .int i
  | str x => exact .str x
  | flt x => exact .flt x
  | lst h => exact .lst (e _ _ h)
  | frz h => exact .frz (e _ _ h)
  | tup h => exact .tup (e _ _ h)
  | dK h => exact .dK (e _ _ h)
  | dT h => exact .dT (e _ _ h)
theorem ev_isi {K : PySem.W.Frag} {σ : L2.St} {H : Hp} {ta : TE} {x : V} {n m : String} {b : Bool} (ha : Ev ta σ H x) (ty : Ty K H x n) (hk : kitB n m = some b) :
    Ev (tCB (rIsi K) (tCons ta (tCons (tC (.ty m)) tNil))) σ H (.bl b) := fun H1 e Q q =>
  ha H1 e _ fun H2 e2 => ⟨x, .ty m, .type n, .type m, b, rfl, .ty m, .base (ty.mono (e.trans e2)), kit_ty hk, q H2 e2⟩
/-- one of the seven kinds of things that are handed about here -/
def Seven (n : String) : Prop := n = "int" ∨ n = "bool" ∨ n = "NoneType" ∨ n = "str" ∨ n = "list" ∨ n = "tuple" ∨ n = "dict"
def isIntV : V → Bool
  | .int _ => true
  | _ => false
def wholeV : V → Bool
  | .int i => decide (0 ≤ i)
  | _ => false
theorem ty_int {K : PySem.W.Frag} {H : Hp} {x : V} (h : Ty K H x "int") : ∃ i, x = .int i := by
  unfold Ty at h
  generalize e : Value.type "int" = t at h
  cases h with
  | int i => exact ⟨i, rfl⟩
  | ins => cases e
  | _ => exact absurd (Value.type.inj e) (by decide)
theorem ty_ref {K : PySem.W.Frag} {H : Hp} {x : V} {n : String} (h : Ty K H x n) (hn : n ≠ "int") : isIntV x = false ∧ wholeV x = false := by
  unfold Ty at h
  generalize e : Value.type n = t at h
  cases h with
  | int i => exact absurd (Value.type.inj e) hn
  | ins => cases e
  | _ => exact ⟨rfl, rfl⟩
/-- a value of a known kind -/
def Kn (K : PySem.W.Frag) (H : Hp) (x : V) : Prop := ∃ n, Seven n ∧ Ty K H x n
theorem Kn.mono {K : PySem.W.Frag} {H H' : Hp} {x : V} (e : Ex H H') (h : Kn K H x) : Kn K H' x := by
  obtain ⟨n, s, t⟩ := h
  exact ⟨n, s, t.mono e⟩
theorem kn_int {K : PySem.W.Frag} {H : Hp} {i : Int} : Kn K H (.int i) := ⟨"int", .inl rfl, .int i⟩
theorem kn_bl {K : PySem.W.Frag} {H : Hp} {b : Bool} : Kn K H (.bl b) := ⟨"bool", .inr (.inl rfl), .bl b⟩
theorem kn_non {K : PySem.W.Frag} {H : Hp} : Kn K H .non := ⟨"NoneType", .inr (.inr (.inl rfl)), .non⟩
theorem kn_str {K : PySem.W.Frag} {H : Hp} {s : Str} : Kn K H (.str s) := ⟨"str", .inr (.inr (.inr (.inl rfl))), .str s⟩
theorem kn_lst {K : PySem.W.Frag} {H : Hp} {a : Addr} {xs : List V} (h : H a = some (.lst xs)) : Kn K H (.ref a) := ⟨"list", .inr (.inr (.inr (.inr (.inl rfl)))), .lst h⟩
theorem kn_tup {K : PySem.W.Frag} {H : Hp} {a : Addr} {xs : List V} (h : H a = some (.tup xs)) : Kn K H (.ref a) := ⟨"tuple", .inr (.inr (.inr (.inr (.inr (.inl rfl))))), .tup h⟩
theorem kn_dK {K : PySem.W.Frag} {H : Hp} {a : Addr} {xs : List (Key × V)} (h : H a = some (.dK xs)) : Kn K H (.ref a) := ⟨"dict", .inr (.inr (.inr (.inr (.inr (.inr rfl))))), .dK h⟩

/-! ### typed data on the abstract heap -/
open PySem.W (Datum)
class Dt (α : Type) [DecidableEq α] extends Datum α where
  lay : ∀ a : α, (toD a).canLay0 = true
instance : Dt Int where
  lay _ := rfl
instance : Dt Bool where
  lay _ := rfl
theorem layAll {α : Type} [DecidableEq α] [Dt α] : ∀ xs : List α, PyData.canLayAll0 (xs.map Datum.toD) = true
  | [] => rfl
  | x :: xs => by
    rw [List.map_cons, PyData.canLayAll0, Dt.lay x, layAll xs]
    rfl
instance {α : Type} [DecidableEq α] [Dt α] : Dt (List α) where
  lay xs := by
    show (PyData.list (xs.map Datum.toD)).canLay0 = true
    rw [PyData.canLay0]
    exact layAll xs
instance {α β : Type} [DecidableEq α] [Dt α] [DecidableEq β] [Dt β] : Dt (α × β) where
  lay p := by
    show (PyData.tuple [Datum.toD p.1, Datum.toD p.2]).canLay0 = true
    rw [PyData.canLay0, PyData.canLayAll0, PyData.canLayAll0, PyData.canLayAll0, Dt.lay p.1, Dt.lay p.2]
    rfl
theorem shaped_of {α : Type} [DecidableEq α] [Dt α] (hd : Datum.depth α ≤ 64) (a : α) : SeqAt.shaped (Datum.toD a) = true := by
  unfold SeqAt.shaped
  rw [Dt.lay a, decide_eq_true (Nat.le_trans (Datum.depth_le a) hd)]
  rfl
mutual
theorem Dp.ex {K : PySem.W.Frag} {H H' : Hp} (e : Ex H H') : ∀ {v : V} {d : PyData}, Dp K H v d → Dp K H' v d
  | _, _, .non => .non
  | _, _, .bl b => .bl b
  | _, _, .int i => .int i
  | _, _, .str x => .str x
  | _, _, .lst h a => .lst (ex_l e h) (DpAll.ex e a)
  | _, _, .tup h a => .tup (ex_t e h) (DpAll.ex e a)
theorem DpAll.ex {K : PySem.W.Frag} {H H' : Hp} (e : Ex H H') : ∀ {vs : List V} {ds : List PyData}, DpAll K H vs ds → DpAll K H' vs ds
  | _, _, .nil => .nil
  | _, _, .cons a b => .cons (Dp.ex e a) (DpAll.ex e b)
end
/-- v holds x -/
def Hd {α : Type} [DecidableEq α] [Dt α] (K : PySem.W.Frag) (H : Hp) (v : V) (x : α) : Prop := Dp K H v (Datum.toD x)
def HdAll {α : Type} [DecidableEq α] [Dt α] (K : PySem.W.Frag) (H : Hp) (vs : List V) (xs : List α) : Prop := DpAll K H vs (xs.map Datum.toD)
section
variable {α β : Type} [DecidableEq α] [Dt α] [DecidableEq β] [Dt β] {K : PySem.W.Frag} {H H' : Hp} {σ : L2.St} {ta tb : TE} {v u : V}
theorem Hd.ex {x : α} (e : Ex H H') (h : Hd K H v x) : Hd K H' v x := Dp.ex e h
theorem HdAll.ex {vs : List V} {xs : List α} (e : Ex H H') (h : HdAll K H vs xs) : HdAll K H' vs xs := DpAll.ex e h
theorem hd_int {i : Int} : Hd K H (.int i) i := Dp.int i
theorem hd_bl {b : Bool} : Hd K H (.bl b) b := Dp.bl b
theorem hd_lst {a : Addr} {vs : List V} {xs : List α} (h : SqL K H a vs) (hx : HdAll K H vs xs) : Hd K H (.ref a) xs := Dp.lst h hx
theorem hd_pair {a : Addr} {x y : V} {p : α × β} (h : SqT K H a [x, y]) (h1 : Hd K H x p.1) (h2 : Hd K H y p.2) : Hd K H (.ref a) p := Dp.tup h (.cons h1 (.cons h2 .nil))
theorem hdAll_nil : HdAll K H [] ([] : List α) := DpAll.nil
theorem hdAll_cons {x : α} {vs : List V} {xs : List α} (h : Hd K H v x) (hs : HdAll K H vs xs) : HdAll K H (v :: vs) (x :: xs) := DpAll.cons h hs
theorem hdAll_app {vs us : List V} {xs ys : List α} (h : HdAll K H vs xs) (hs : HdAll K H us ys) : HdAll K H (vs ++ us) (xs ++ ys) := by
  induction xs generalizing vs with
  | nil => cases h; exact hs
  | cons x xs ih => cases h with
    | cons a b => exact hdAll_cons a (ih b)
theorem hdAll_ints : ∀ ns : List Int, HdAll K H (ns.map V.int) ns
  | [] => .nil
  | n :: ns => .cons (.int n) (hdAll_ints ns)
theorem hdAll_bls : ∀ bs : List Bool, HdAll K H (bs.map V.bl) bs
  | [] => .nil
  | b :: bs => .cons (.bl b) (hdAll_bls bs)
theorem hdAll_of_ints : ∀ {vs : List V} {ns : List Int}, HdAll K H vs ns → vs = ns.map V.int
  | _, [], h => by cases h; rfl
  | _, n :: ns, h => by
    cases h with
    | cons a b =>
      cases a
      rw [hdAll_of_ints b]
      rfl
theorem hd_ints {a : Addr} {ns : List Int} (h : SqL K H a (ns.map V.int)) : Hd K H (.ref a) ns := hd_lst h (hdAll_ints ns)
theorem hd_lst_inv {xs : List α} (h : Hd K H v xs) : ∃ a vs, v = .ref a ∧ SqL K H a vs ∧ HdAll K H vs xs := by
  unfold Hd at h
  generalize e : (Datum.toD xs) = d at h
  cases h with
  | lst h1 h2 =>
    have e2 := PyData.list.inj e
    subst e2
    exact ⟨_, _, rfl, h1, h2⟩
  | _ => cases e
theorem hd_ints_inv {ns : List Int} (h : Hd K H v ns) : ∃ a, v = .ref a ∧ SqL K H a (ns.map V.int) := by
  obtain ⟨a, vs, rfl, h1, h2⟩ := hd_lst_inv h
  rw [hdAll_of_ints h2] at h1
  exact ⟨a, rfl, h1⟩
theorem hd_pair_inv {p : α × β} (h : Hd K H v p) : ∃ a x y, v = .ref a ∧ SqT K H a [x, y] ∧ Hd K H x p.1 ∧ Hd K H y p.2 := by
  unfold Hd at h
  generalize e : (Datum.toD p) = d at h
  cases h with
  | tup h1 h2 =>
    have e2 := PyData.tuple.inj e
    subst e2
    cases h2 with
    | cons g1 g2 => cases g2 with
      | cons g3 g4 => cases g4; exact ⟨_, _, _, rfl, h1, g1, g3⟩
  | _ => cases e
theorem hdAll_len {vs : List V} {xs : List α} (h : HdAll K H vs xs) : vs.length = xs.length := by
  induction xs generalizing vs with
  | nil => cases h; rfl
  | cons x xs ih => cases h with
    | cons a b => rw [List.length_cons, List.length_cons, ih b]
theorem hdAll_at {vs : List V} {xs : List α} (h : HdAll K H vs xs) {i : Nat} {x : α} (e : xs[i]? = some x) : ∃ v, vs[i]? = some v ∧ Hd K H v x := by
  induction xs generalizing vs i with
  | nil => simp at e
  | cons y ys ih => cases h with
    | cons a b =>
      cases i with
      | zero =>
        simp at e
        subst e
        exact ⟨_, rfl, a⟩
      | succ i => exact ih b (by simpa using e)
/-- an expression that gives something that holds x -/
def EvH (K : PySem.W.Frag) (te : TE) (σ : L2.St) (H : Hp) (x : α) : Prop := ∀ H1, Ex H H1 → ∀ Q : VK, (∀ v H2, Ex H1 H2 → Hd K H2 v x → Q v H2) → te σ H1 Q
theorem evh_v {x : α} {te : TE} (h : Ev te σ H v) (hv : Hd K H v x) : EvH K te σ H x := fun H1 e Q q => h H1 e Q fun H2 e2 => q v H2 e2 (hv.ex (e.trans e2))
theorem evh_L {vs : List V} {xs : List α} {te : TE} (h : EvL te σ H vs) (hv : HdAll K H vs xs) : EvH K te σ H xs := fun H1 e Q q => h H1 e Q fun p H2 _ e2 hp => q _ H2 e2 (hd_lst (.of hp) (hv.ex (e.trans e2)))
theorem evh_ints {ns : List Int} {te : TE} (h : EvL te σ H (ns.map V.int)) : EvH K te σ H ns := evh_L h (hdAll_ints ns)
theorem evh_eq {x y : α} {te : TE} (h : EvH K te σ H x) (e : x = y) : EvH K te σ H y := e ▸ h
theorem EvH.mono {x : α} {te : TE} (e : Ex H H') (h : EvH K te σ H x) : EvH K te σ H' x := fun H1 a Q q => h H1 (e.trans a) Q q
theorem ev_eqH {x y : α} (ha : EvH K ta σ H x) (hb : EvH K tb σ H y) (hd : Datum.depth α ≤ 64) : Ev (tOp (rEqD K) ta tb) σ H (.bl (decide (x = y))) := fun H1 e Q q =>
  ha H1 e _ fun v H2 e2 hv => hb H2 (e.trans e2) _ fun u H3 e3 hu => ⟨_, _, hv.ex e3, hu, shaped_of hd x, shaped_of hd y, by rw [Datum.eqv]; exact q H3 (e2.trans e3)⟩
theorem ev_neH {x y : α} (ha : EvH K ta σ H x) (hb : EvH K tb σ H y) (hd : Datum.depth α ≤ 64) : Ev (tOp (rNeD K) ta tb) σ H (.bl (!decide (x = y))) := fun H1 e Q q =>
  ha H1 e _ fun v H2 e2 hv => hb H2 (e.trans e2) _ fun u H3 e3 hu => ⟨_, _, hv.ex e3, hu, shaped_of hd x, shaped_of hd y, by rw [Datum.eqv]; exact q H3 (e2.trans e3)⟩
end
/-- a promise's way back with something that holds x -/
def RetH {α : Type} [DecidableEq α] [Dt α] (K : PySem.W.Frag) (x : α) (H : Hp) (Q : VK) : Prop := ∀ v H2, Ex H H2 → Hd K H2 v x → Q v H2

/-! ### lists put together -/
section
variable {H : Hp} {σ : L2.St} {ta tb : TE}
theorem el_cat {l : Addr} {xs ys : List V} (ha : Ev ta σ H (.ref l)) (hl : H l = some (.lst xs)) (hb : EvL tb σ H ys) (hz : xs.length + ys.length ≤ 100000) : EvL (tOp rCat ta tb) σ H (xs ++ ys) := fun H1 e Q q =>
  ha H1 e _ fun H2 e2 => hb H2 (e.trans e2) _ fun p H3 _ e3 h3 => ⟨l, p, xs, ys, rfl, rfl, e3 _ _ (e2 _ _ (e _ _ hl)), h3, sz_of hz, fun r hr => q r _ (fresh_back (e2.trans e3) hr) ((e2.trans e3).trans (Ex.new hr)) upd_same⟩
theorem el_catV {l m : Addr} {xs ys : List V} (ha : Ev ta σ H (.ref l)) (hl : H l = some (.lst xs)) (hb : Ev tb σ H (.ref m)) (hm : H m = some (.lst ys)) (hz : xs.length + ys.length ≤ 100000) : EvL (tOp rCat ta tb) σ H (xs ++ ys) := fun H1 e Q q =>
  ha H1 e _ fun H2 e2 => hb H2 (e.trans e2) _ fun H3 e3 => ⟨l, m, xs, ys, rfl, rfl, e3 _ _ (e2 _ _ (e _ _ hl)), e3 _ _ (e2 _ _ (e _ _ hm)), sz_of hz, fun r hr => q r _ (fresh_back (e2.trans e3) hr) ((e2.trans e3).trans (Ex.new hr)) upd_same⟩
theorem el_catLL {xs ys : List V} (ha : EvL ta σ H xs) (hb : EvL tb σ H ys) (hz : xs.length + ys.length ≤ 100000) : EvL (tOp rCat ta tb) σ H (xs ++ ys) := fun H1 e Q q =>
  ha H1 e _ fun l H2 _ e2 hl => hb H2 (e.trans e2) _ fun p H3 _ e3 h3 => ⟨l, p, xs, ys, rfl, rfl, e3 _ _ hl, h3, sz_of hz, fun r hr => q r _ (fresh_back (e2.trans e3) hr) ((e2.trans e3).trans (Ex.new hr)) upd_same⟩
end

/-! ### small steps -/
theorem hd_blsL {K : PySem.W.Frag} {H : Hp} {a : Addr} {bs : List Bool} (h : H a = some (.lst (bs.map V.bl))) : Hd K H (.ref a) bs := hd_lst (.of h) (hdAll_bls bs)
theorem ev_last {te : TE} {σ : L2.St} {H : Hp} {b : Bool} (h : Ev te σ H (.bl b)) (e : b = true) : Ev te σ H (.bl true) := e ▸ h
theorem ints_at {ns : List Int} {i : Nat} {z : Int} (h : ns[i]? = some z) : (ns.map V.int)[i]? = some (.int z) := by
  rw [List.getElem?_map, h]
  rfl
theorem ex_to {H H' : Hp} {a : Addr} {o : HO} (e : Ex H H') (h : H a = some o) : H' a = some o := e a o h
theorem cpow {i j : Int} (h1 : 0 ≤ j) (h2 : j ≤ 1000000) (h3 : i.natAbs < 2 ^ 64) : CPow i j := ⟨h1, h2, h3⟩
theorem cdiv {i j : Int} (h1 : 0 < j) (h2 : j < 1073741824) : CDiv i j := ⟨h1, h2⟩
theorem upd_ex {H H' : Hp} {p : Addr} {o : HO} (e : Ex H H') (h : H p = none) : Ex H (upd H' p o) := Ex.mut e h
/-- a value has the answer that is wished -/
theorem ev_eq {te : TE} {σ : L2.St} {H : Hp} {v w : V} (h : Ev te σ H v) (e : v = w) : Ev te σ H w := e ▸ h
theorem et_eq {tt : TT} {σ : L2.St} {H : Hp} {b c : Bool} (h : EvT tt σ H b) (e : b = c) : EvT tt σ H c := e ▸ h
end Z

namespace Kk
open PySem PySem.Spec PyProof.Rows L2 Evl Z
open PySem.W (Datum)
local macro_rules | `(tactic| walk_at "ex") => `(tactic| first | exact Ex.refl _ | assumption | (refine' Ex.trans ?a ?b; (case b => assumption); (case a => walk_at "ex")))
local macro_rules | `(tactic| walk_at "sq") => `(tactic| first | assumption | exact SqL.of (by assumption) | exact SqL.of upd_same | (refine' ex_l ?e ?h; (case h => assumption); (case e => walk_at "ex")) | (refine' SqL.of (ex_to ?e ?h); (case h => assumption); (case e => walk_at "ex")))
local macro_rules | `(tactic| walk_at "at") => `(tactic| first | assumption | exact upd_same | (refine' ex_to ?e ?h; (case h => assumption); (case e => walk_at "ex")))
local macro_rules | `(tactic| walk_at "rv") => `(tactic| first | exact rv_I0 | exact rv_I (cdiv (by decide) (by decide)) | exact rv_I (show (0 : Int) < _ by decide) | exact rv_I (cpow (by decide) (by decide) (by decide)) | exact rv_eq rfl | exact rv_ne rfl | exact ru_neg)
local macro_rules | `(tactic| walk_at "ev") => `(tactic| first | exact ev_c | exact ev_var rfl | (refine' ev_op ?a ?b ?c; (case a => walk_at "ev"); (case b => walk_at "ev"); (case c => walk_at "rv")) | (refine' ev_un ?a ?c; (case a => walk_at "ev"); (case c => walk_at "rv")) | (refine' ev_len ?a ?c; (case a => walk_at "ev"); (case c => walk_at "sq")))
local macro_rules | `(tactic| walk_at "et") => `(tactic| first | (refine' et_test ?a; (case a => walk_at "ev")) | (refine' et_B ?a; (case a => walk_at "ev")) | (refine' et_not ?a; (case a => walk_at "et")))

def topS (i : Nat) : Stmt := PySem.Challenge.pw_sparsesum_k01_the_row_of_members.main.body.getD i (.Pass ⟨0, 0, 0, 0⟩)
abbrev s_is_whole : Stmt := topS 8
abbrev N_is_whole : List Str := ["thing"]
theorem sc_is_whole : FnScope N_is_whole ["thing"] (defScope s_is_whole) := ⟨rfl, rfl, rfl, by decide +kernel, rfl, by decide +kernel, by decide +kernel⟩
abbrev s_members : Stmt := topS 9
abbrev N_members : List Str := ["many", "row", "one", "other"]
theorem sc_members : FnScope N_members ["many"] (defScope s_members) := ⟨rfl, rfl, rfl, by decide +kernel, rfl, by decide +kernel, by decide +kernel⟩
abbrev s_member : Stmt := topS 10
abbrev N_member : List Str := ["place"]
theorem sc_member : FnScope N_member ["place"] (defScope s_member) := ⟨rfl, rfl, rfl, by decide +kernel, rfl, by decide +kernel, by decide +kernel⟩
abbrev s__law_cell_at : Stmt := topS 12
abbrev N__law_cell_at : List Str := ["_law_script", "_law_k"]
theorem sc__law_cell_at : FnScope N__law_cell_at ["_law_script", "_law_k"] (defScope s__law_cell_at) := ⟨rfl, rfl, rfl, by decide +kernel, rfl, by decide +kernel, by decide +kernel⟩
abbrev s__law_whole : Stmt := topS 13
abbrev N__law_whole : List Str := ["_law_found"]
theorem sc__law_whole : FnScope N__law_whole ["_law_found"] (defScope s__law_whole) := ⟨rfl, rfl, rfl, by decide +kernel, rfl, by decide +kernel, by decide +kernel⟩
abbrev s__law_refused : Stmt := topS 14
abbrev N__law_refused : List Str := ["_law_thing", "_law_many", "_law_kinds", "e"]
theorem sc__law_refused : FnScope N__law_refused ["_law_thing", "_law_many"] (defScope s__law_refused) := ⟨rfl, rfl, rfl, by decide +kernel, rfl, by decide +kernel, by decide +kernel⟩
abbrev s__law_named : Stmt := topS 15
abbrev N__law_named : List Str := ["_law_thing", "_law_refused_here"]
theorem sc__law_named : FnScope N__law_named ["_law_thing"] (defScope s__law_named) := ⟨rfl, rfl, rfl, by decide +kernel, rfl, by decide +kernel, by decide +kernel⟩
abbrev s__law_row : Stmt := topS 16
abbrev N__law_row : List Str := ["_law_found", "_law_many", "_law_k"]
theorem sc__law_row : FnScope N__law_row ["_law_found", "_law_many"] (defScope s__law_row) := ⟨rfl, rfl, rfl, by decide +kernel, rfl, by decide +kernel, by decide +kernel⟩
abbrev s_law : Stmt := topS 17
abbrev N_law : List Str := ["_law_script", "_law_place", "_law_row_here", "_law_k", "_law_found", "_law_cell", "_law_odd"]
theorem sc_law : FnScope N_law ["_law_script"] (defScope s_law) := ⟨rfl, rfl, rfl, by decide +kernel, rfl, by decide +kernel, by decide +kernel⟩
/-- what the top has written -/
structure Txt (K : PySem.W.Frag) (mg : Str → Option Value) where
  n_ValueError : mg "ValueError" = none
  n_bool : mg "bool" = none
  n_int : mg "int" = none
  n_isinstance : mg "isinstance" = none
  n_len : mg "len" = none
  n_list : mg "list" = none
  n_range : mg "range" = none
  a_SparseError : Addr
  g_SparseError : mg "SparseError" = some (.ref a_SparseError)
  a_NoNumber : Addr
  g_NoNumber : mg "NoNumber" = some (.ref a_NoNumber)
  a_NoForm : Addr
  g_NoForm : mg "NoForm" = some (.ref a_NoForm)
  a_NoText : Addr
  g_NoText : mg "NoText" = some (.ref a_NoText)
  a_NoStep : Addr
  g_NoStep : mg "NoStep" = some (.ref a_NoStep)
  a_TooLittle : Addr
  g_TooLittle : mg "TooLittle" = some (.ref a_TooLittle)
  x_NoNumber : PySem.W.excIn K a_NoNumber [.type "ValueError", .type "Exception", .type "BaseException", .type "object"] "ValueError.__new__" = true
  k_NoNumber : PySem.W.keepIn K (.ref a_NoNumber) = true
  b_NoNumber : PySem.W.subIn K (.ref a_NoNumber) (.type "BaseException") = some true
  t_NoNumber : PySem.W.typeIn K (.ref a_NoNumber) = some (.type "type")
  e_NoNumber : ExcC K a_NoNumber
  m_NoNumber_SparseError : PySem.W.exmOne K (.ref a_NoNumber) (.ref a_SparseError) = some true
  m_NoNumber_NoNumber : PySem.W.exmOne K (.ref a_NoNumber) (.ref a_NoNumber) = some true
  i_NoNumber_NoNumber : PySem.W.kitOne K (.ref a_NoNumber) (.ref a_NoNumber) = some true
  i_NoNumber_ValueError : PySem.W.kitOne K (.ref a_NoNumber) (.type "ValueError") = some true
  i_NoNumber_NoForm : PySem.W.kitOne K (.ref a_NoNumber) (.ref a_NoForm) = some false
  i_NoNumber_NoText : PySem.W.kitOne K (.ref a_NoNumber) (.ref a_NoText) = some false
  i_NoNumber_NoStep : PySem.W.kitOne K (.ref a_NoNumber) (.ref a_NoStep) = some false
  i_NoNumber_TooLittle : PySem.W.kitOne K (.ref a_NoNumber) (.ref a_TooLittle) = some false
  f_is_whole : Addr
  d_is_whole : FuncData
  F_is_whole : Fun K "is_whole" "is_whole" s_is_whole f_is_whole d_is_whole
  g_is_whole : mg "is_whole" = some (.ref f_is_whole)
  b_is_whole : Binds K d_is_whole ["thing"] []
  f_members : Addr
  d_members : FuncData
  F_members : Fun K "members" "members" s_members f_members d_members
  g_members : mg "members" = some (.ref f_members)
  b_members : Binds K d_members ["many"] []
  f_member : Addr
  d_member : FuncData
  F_member : Fun K "member" "member" s_member f_member d_member
  g_member : mg "member" = some (.ref f_member)
  b_member : Binds K d_member ["place"] []
  f__law_cell_at : Addr
  d__law_cell_at : FuncData
  F__law_cell_at : Fun K "_law_cell_at" "_law_cell_at" s__law_cell_at f__law_cell_at d__law_cell_at
  g__law_cell_at : mg "_law_cell_at" = some (.ref f__law_cell_at)
  b__law_cell_at : Binds K d__law_cell_at ["_law_script", "_law_k"] []
  f__law_whole : Addr
  d__law_whole : FuncData
  F__law_whole : Fun K "_law_whole" "_law_whole" s__law_whole f__law_whole d__law_whole
  g__law_whole : mg "_law_whole" = some (.ref f__law_whole)
  b__law_whole : Binds K d__law_whole ["_law_found"] []
  f__law_refused : Addr
  d__law_refused : FuncData
  F__law_refused : Fun K "_law_refused" "_law_refused" s__law_refused f__law_refused d__law_refused
  g__law_refused : mg "_law_refused" = some (.ref f__law_refused)
  b__law_refused : Binds K d__law_refused ["_law_thing", "_law_many"] []
  f__law_named : Addr
  d__law_named : FuncData
  F__law_named : Fun K "_law_named" "_law_named" s__law_named f__law_named d__law_named
  g__law_named : mg "_law_named" = some (.ref f__law_named)
  b__law_named : Binds K d__law_named ["_law_thing"] []
  f__law_row : Addr
  d__law_row : FuncData
  F__law_row : Fun K "_law_row" "_law_row" s__law_row f__law_row d__law_row
  g__law_row : mg "_law_row" = some (.ref f__law_row)
  b__law_row : Binds K d__law_row ["_law_found", "_law_many"] []

section
variable {P : Program} {w : World} {K : PySem.W.Frag} {mg : Str → Option Value} {base : Heap}

/-! is_whole -/
def sp_is_whole (T : Txt K mg) : Sp := fun vs H Q _ => ∃ x, vs = [x] ∧ Kn K H x ∧ RetV (.bl (wholeV x)) H Q
theorem spv_is_whole (T : Txt K mg) {x : V} {H : Hp} (hk : Kn K H x) : SpV (sp_is_whole T) [x] H (.bl (wholeV x)) := fun H1 e Q q E => ⟨x, rfl, hk.mono e, fun H2 e2 => q H2 e2⟩
theorem ok_is_whole (T : Txt K mg) : FnOk P w K mg base CX0 1 T.f_is_whole T.d_is_whole ["thing"] (sp_is_whole T) := by
  refine T.F_is_whole.ok sc_is_whole (fun vs H Q E h => ?_) (fun cdv A outer s H vs Q E hr h => ?_)
  · obtain ⟨x, rfl, _⟩ := h
    rfl
  · obtain ⟨x, rfl, ⟨n, hn, ht⟩, q⟩ := h
    refine ⟨_, (pss_one (ps_ret (pe_and (pe_callB call_isi (by rfl) T.n_isinstance (by decide +kernel) (pa_cons (pv 0) (pa_cons (pe_bltn (v := .ty "int") (by rfl) T.n_int (by decide +kernel) rfl) pa_nil))) (pe_and (pe_not (pe_callB call_isi (by rfl) T.n_isinstance (by decide +kernel) (pa_cons (pv 0) (pa_cons (pe_bltn (v := .ty "bool") (by rfl) T.n_bool (by decide +kernel) rfl) pa_nil)))) (pe_one (pe_cmpR op_ge (pv 0) pe_int (nomark _))))))), ?_⟩
    refine s_ret ?_ q
    by_cases e : n = "int"
    · subst e
      obtain ⟨i, rfl⟩ := ty_int ht
      exact ev_eq (ev_andV (ev_isi (ev_var rfl) ht (b := true) (by decide +kernel)) fun _ => ev_andV (ev_notV (ev_isi (ev_var rfl) ht (b := false) (by decide +kernel))) fun _ => by walk_at "ev") (by simp [wholeV])
    · rw [(ty_ref ht e).2]
      by_cases e2 : n = "bool"
      · subst e2
        exact ev_eq (ev_andV (ev_isi (ev_var rfl) ht (b := true) (by decide +kernel)) fun _ => ev_andV (b := false) (ev_notV (ev_isi (ev_var rfl) ht (b := true) (by decide +kernel))) (fun h => absurd h (by decide))) rfl
      · have hb : kitB n "int" = some false := by
          rcases hn with rfl | rfl | rfl | rfl | rfl | rfl | rfl
          · exact absurd rfl e
          · exact absurd rfl e2
          all_goals decide +kernel
        exact ev_eq (ev_andV (b := false) (ev_isi (ev_var rfl) ht hb) (fun h => absurd h (by decide))) rfl

/-! members -/
def sp_members (T : Txt K mg) : Sp := fun vs H Q E => ∃ x, vs = [x] ∧ Kn K H x ∧ (wholeV x = false → ∀ H', Ex H H' → E (.ref T.a_NoNumber) none H') ∧ ∀ n : Nat, x = .int n → n ≤ 5000 ∧ RetL ((Mx.row n).map V.int) H Q
theorem spl_members (T : Txt K mg) {n : Nat} {H : Hp} (hn : n ≤ 5000) : SpL (sp_members T) [.int n] H ((Mx.row n).map V.int) := fun H1 e Q q E =>
  ⟨_, rfl, kn_int, fun h => by simp [wholeV] at h, fun m hm => by
    have e : n = m := Int.ofNat.inj (V.int.inj hm)
    subst e
    exact ⟨hn, fun p H2 hp e2 h2 => q p H2 hp e2 h2⟩⟩
theorem ok_members (T : Txt K mg) : FnOk P w K mg base (L2.CX P w) 2 T.f_members T.d_members ["many"] (sp_members T) := by
  refine T.F_members.okX sc_members (fun vs H Q E h => ?_) (fun cdv A outer s H vs Q E hr h => ?_)
  · obtain ⟨x, rfl, _⟩ := h
    rfl
  · obtain ⟨x, rfl, hk, qE, qV⟩ := h
    refine ⟨_, (pss_cons (ps_if (pt_not (pt_val (pe_call (ok_is_whole T) (hr.mono (by decide)) (by rfl) T.g_is_whole T.F_is_whole.kp T.b_is_whole .nil pass0 (pa_cons (pv 0) pa_nil)))) (pss_one (ps_raise rfl (takes_of rfl rfl rfl rfl) (pmk_own PySem.F.excBase_ValueError T.x_NoNumber T.g_NoNumber T.k_NoNumber (raises_own T.b_NoNumber T.t_NoNumber) rfl))) pss_nil)
    (pss_cons (ps_set (i := 1) sc_members.nd rfl (Or.inl rfl) (pe_lst pa_nil))
    (pss_cons (ps_set (i := 2) sc_members.nd rfl (Or.inl rfl) pe_int)
    (pss_cons (ps_set (i := 3) sc_members.nd rfl (Or.inl rfl) pe_int)
    (pss_cons (ps_while (passes_of rfl) (pt_cmpR op_lt (pe_callB call_len_seq (by rfl) T.n_len (by decide +kernel) (pa_cons (pv 1) pa_nil)) (pv 0) (nomark _)) (pss_cons (ps_expr (pe_bm PySem.F.plainAttrs_list PySem.F.slot_list_append PySem.F.type_list_append mt_append (pv 1) (pa_cons (pv 2) pa_nil)))
    (pss_one (ps_par (i := 2) (j := 3) (by rfl) sc_members.nd rfl rfl (by decide) rfl rfl (pa_cons (pv 3) (pa_cons (pe_op op_add (pv 2) (pv 3)) pa_nil)) (by rfl)))))
    (pss_one (ps_ret (pv 1)))))))), ?_⟩
    refine q_when (b := !wholeV x) ?_ (fun hb H1 e1 => ?_) (fun hb H1 e1 => ?_)
    · exact et_not (et_B (ev_call (ea_cons (ev_var rfl) ea_nil) (spv_is_whole T hk)))
    · exact qE (by simpa using hb) H1 e1
    · have hx : ∃ n : Nat, x = .int n := by
        cases x <;> simp [wholeV] at hb
        rename_i i
        exact ⟨i.toNat, by rw [Int.toNat_of_nonneg hb]⟩
      obtain ⟨n, rfl⟩ := hx
      obtain ⟨hn, q⟩ := qV n rfl
      refine q_asgL (el_lst ea_nil (by decide)) fun r H2 hr e2 h2 => ?_
      refine q_asg ev_c fun H3 e3 => ?_
      refine q_asg ev_c fun H4 e4 => ?_
      have nr : H r = none := fresh_back e1 hr
      refine q_while (fun m σ' H' => ∃ i, m + i = n ∧ σ' = [some (.int n), some (.ref r), some (.int (Mx.mem i)), some (.int (Mx.mem (i + 1)))] ∧ Ex H H' ∧ H' r = some (.lst ((Mx.row i).map V.int))) n ⟨0, rfl, rfl, by walk_at "ex", by walk_at "at"⟩ ?_
      rintro m σ' H' ⟨i, hm, rfl, eH, hR⟩
      refine ⟨decide ((i : Int) < n), ?_, fun hb2 H5 e5 => ?_, fun hb2 H5 e5 => ?_⟩
      · exact et_eq (by walk_at "et") (by rw [List.length_map, Mx.row_len])
      · have hi : i < n := by
          have := of_decide_eq_true hb2
          omega
        refine ⟨fun σ2 H2 => ∃ j, m - 1 + j = n ∧ σ2 = [some (.int n), some (.ref r), some (.int (Mx.mem j)), some (.int (Mx.mem (j + 1)))] ∧ Ex H H2 ∧ H2 r = some (.lst ((Mx.row j).map V.int)), fun σ2 H2 hW => ⟨m - 1, by omega, hW⟩, ?_⟩
        refine q_app (ex_to e5 hR) (ev_var rfl) (ev_var rfl) (by rw [List.length_map, Mx.row_len]; omega) fun H6 e6 => ?_
        refine ⟨_, rfl, _, rfl, _, rfl, _, _, rfl, rfl, _, _, rfl, i + 1, by omega, rfl, ?_, ?_⟩
        · exact Ex.mut (by walk_at "ex") nr
        · rw [upd_same, Mx.row_succ, List.map_append]
          rfl
      · have hi : i = n := by
          have := of_decide_eq_false hb2
          omega
        subst hi
        exact s_ret (ev_var rfl) fun H6 e6 => q r H6 nr (by walk_at "ex") (ex_to e6 (ex_to e5 hR))

/-! member -/
def sp_member (T : Txt K mg) : Sp := fun vs H Q E => ∃ x, vs = [x] ∧ Kn K H x ∧ (wholeV x = false → ∀ H', Ex H H' → E (.ref T.a_NoNumber) none H') ∧ ∀ n : Nat, x = .int n → n ≤ 4000 ∧ RetV (.int (Mx.mem n)) H Q
theorem spv_member (T : Txt K mg) {n : Nat} {H : Hp} (hn : n ≤ 4000) : SpV (sp_member T) [.int n] H (.int (Mx.mem n)) := fun H1 e Q q E =>
  ⟨_, rfl, kn_int, fun h => by simp [wholeV] at h, fun m hm => by
    have e : n = m := Int.ofNat.inj (V.int.inj hm)
    subst e
    exact ⟨hn, fun H2 e2 => q H2 e2⟩⟩
theorem ok_member (T : Txt K mg) : FnOk P w K mg base (L2.CX P w) 3 T.f_member T.d_member ["place"] (sp_member T) := by
  refine T.F_member.okX sc_member (fun vs H Q E h => ?_) (fun cdv A outer s H vs Q E hr h => ?_)
  · obtain ⟨x, rfl, _⟩ := h
    rfl
  · obtain ⟨x, rfl, hk, qE, qV⟩ := h
    refine ⟨_, (pss_cons (ps_if (pt_not (pt_val (pe_call (ok_is_whole T) (hr.mono (by decide)) (by rfl) T.g_is_whole T.F_is_whole.kp T.b_is_whole .nil pass0 (pa_cons (pv 0) pa_nil)))) (pss_one (ps_raise rfl (takes_of rfl rfl rfl rfl) (pmk_own PySem.F.excBase_ValueError T.x_NoNumber T.g_NoNumber T.k_NoNumber (raises_own T.b_NoNumber T.t_NoNumber) rfl))) pss_nil)
    (pss_one (ps_ret (pe_ix ix_list (pe_call (ok_members T) (hr.mono (by decide)) (by rfl) T.g_members T.F_members.kp T.b_members .nil (passes_call (takes_of rfl rfl rfl rfl) (fun _ _ _ _ h => h)) (pa_cons (pe_op op_add (pv 0) pe_int) pa_nil)) (pv 0) (fun _ _ => rfl))))), ?_⟩
    refine q_when (b := !wholeV x) ?_ (fun hb H1 e1 => ?_) (fun hb H1 e1 => ?_)
    · exact et_not (et_B (ev_call (ea_cons (ev_var rfl) ea_nil) (spv_is_whole T hk)))
    · exact qE (by simpa using hb) H1 e1
    · have hx : ∃ n : Nat, x = .int n := by
        cases x <;> simp [wholeV] at hb
        rename_i i
        exact ⟨i.toNat, by rw [Int.toNat_of_nonneg hb]⟩
      obtain ⟨n, rfl⟩ := hx
      obtain ⟨hn, q⟩ := qV n rfl
      exact s_ret (ev_opL1 (el_call (ea_cons (ev_eq (w := .int ((n + 1 : Nat) : Int)) (by walk_at "ev") rfl) ea_nil) (spl_members T (n := n + 1) (by omega))) (fun _ _ => ev_var rfl) (fun p H2 h2 _ => rv_ixL (SqL.of h2) (atI_nat (ints_at (Mx.row_at (Nat.lt_succ_self n)))))) fun H2 e2 => q H2 (e1.trans e2)

/-! _law_cell_at: a cell of the script, else 0 -/
def cell (ns : List Int) (k : Nat) : Int := ns.getD k 0
def sp__law_cell_at (T : Txt K mg) : Sp := fun vs H Q _ => ∃ a ns, ∃ k : Nat, vs = [.ref a, .int k] ∧ SqL K H a (ns.map V.int) ∧ RetV (.int (cell ns k)) H Q
theorem spv__law_cell_at (T : Txt K mg) {a : Addr} {ns : List Int} {H : Hp} {k : Nat} (hS : SqL K H a (ns.map V.int)) : SpV (sp__law_cell_at T) [.ref a, .int k] H (.int (cell ns k)) := fun H1 e Q q E => ⟨a, ns, k, rfl, ex_l e hS, fun H2 e2 => q H2 e2⟩
theorem ok__law_cell_at (T : Txt K mg) : FnOk P w K mg base CX0 1 T.f__law_cell_at T.d__law_cell_at ["_law_script", "_law_k"] (sp__law_cell_at T) := by
  refine T.F__law_cell_at.ok sc__law_cell_at (fun vs H Q E h => ?_) (fun cdv A outer s H vs Q E hr h => ?_)
  · obtain ⟨a, ns, k, rfl, _⟩ := h
    rfl
  · obtain ⟨a, ns, k, rfl, hS, q⟩ := h
    refine ⟨_, (pss_cons (ps_if (pt_cmpR op_lt (pv 1) (pe_callB call_len_seq (by rfl) T.n_len (by decide +kernel) (pa_cons (pv 0) pa_nil)) (nomark _)) (pss_one (ps_ret (pe_ix ix_list (pv 0) (pv 1) (fun _ _ => rfl)))) pss_nil)
    (pss_one (ps_ret pe_int))), ?_⟩
    refine q_when (b := decide ((k : Int) < ns.length)) ?_ (fun hb H1 e1 => ?_) (fun hb H1 e1 => ?_)
    · exact et_eq (by walk_at "et") (by rw [List.length_map])
    · have hk : k < ns.length := by
        have := of_decide_eq_true hb
        omega
      have g : (ns.map V.int)[k]? = some (.int (cell ns k)) := by
        unfold cell
        rw [List.getElem?_map, List.getElem?_eq_getElem hk, List.getD_eq_getElem?_getD, List.getElem?_eq_getElem hk]
        rfl
      exact s_ret (ev_op (ev_var rfl) (ev_var rfl) (rv_ixL (ex_l e1 hS) (atI_nat g))) fun H2 e2 => q H2 (e1.trans e2)
    · have hk : ¬ k < ns.length := by
        have := of_decide_eq_false hb
        omega
      have g : cell ns k = 0 := by
        unfold cell
        rw [List.getD_eq_getElem?_getD, List.getElem?_eq_none (by omega)]
        rfl
      rw [g] at q
      exact s_ret ev_c fun H2 e2 => q H2 (e1.trans e2)

/-! _law_whole -/
def sp__law_whole (T : Txt K mg) : Sp := fun vs H Q _ => ∃ x, vs = [x] ∧ Kn K H x ∧ RetV (.bl (isIntV x)) H Q
theorem spv__law_whole (T : Txt K mg) {x : V} {H : Hp} (hk : Kn K H x) : SpV (sp__law_whole T) [x] H (.bl (isIntV x)) := fun H1 e Q q E => ⟨x, rfl, hk.mono e, fun H2 e2 => q H2 e2⟩
theorem spv__law_whole_int (T : Txt K mg) {i : Int} {H : Hp} : SpV (sp__law_whole T) [.int i] H (.bl true) := spv__law_whole T kn_int
theorem ok__law_whole (T : Txt K mg) : FnOk P w K mg base CX0 1 T.f__law_whole T.d__law_whole ["_law_found"] (sp__law_whole T) := by
  refine T.F__law_whole.ok sc__law_whole (fun vs H Q E h => ?_) (fun cdv A outer s H vs Q E hr h => ?_)
  · obtain ⟨x, rfl, _⟩ := h
    rfl
  · obtain ⟨x, rfl, ⟨n, hn, ht⟩, q⟩ := h
    refine ⟨_, (pss_one (ps_ret (pe_and (pe_callB call_isi (by rfl) T.n_isinstance (by decide +kernel) (pa_cons (pv 0) (pa_cons (pe_bltn (v := .ty "int") (by rfl) T.n_int (by decide +kernel) rfl) pa_nil))) (pe_one (pe_not (pe_callB call_isi (by rfl) T.n_isinstance (by decide +kernel) (pa_cons (pv 0) (pa_cons (pe_bltn (v := .ty "bool") (by rfl) T.n_bool (by decide +kernel) rfl) pa_nil)))))))), ?_⟩
    refine s_ret ?_ q
    by_cases e : n = "int"
    · subst e
      obtain ⟨i, rfl⟩ := ty_int ht
      exact ev_eq (ev_andV (ev_isi (ev_var rfl) ht (b := true) (by decide +kernel)) fun _ => ev_notV (ev_isi (ev_var rfl) ht (b := false) (by decide +kernel))) rfl
    · rw [(ty_ref ht e).1]
      by_cases e2 : n = "bool"
      · subst e2
        exact ev_eq (ev_andV (ev_isi (ev_var rfl) ht (b := true) (by decide +kernel)) fun _ => ev_notV (ev_isi (ev_var rfl) ht (b := true) (by decide +kernel))) rfl
      · have hb : kitB n "int" = some false := by
          rcases hn with rfl | rfl | rfl | rfl | rfl | rfl | rfl
          · exact absurd rfl e
          · exact absurd rfl e2
          all_goals decide +kernel
        exact ev_eq (ev_andV (b := false) (ev_isi (ev_var rfl) ht hb) (fun h => absurd h (by decide))) rfl

/-! _law_refused -/
def sp__law_refused (T : Txt K mg) : Sp := fun vs H Q _ => ∃ x b, vs = [x, .bl b] ∧ Kn K H x ∧ wholeV x = false ∧ RetV (.bl true) H Q
theorem spv__law_refused (T : Txt K mg) {x : V} {b : Bool} {H : Hp} (hk : Kn K H x) (hw : wholeV x = false) : SpV (sp__law_refused T) [x, .bl b] H (.bl true) := fun H1 e Q q E => ⟨x, b, rfl, hk.mono e, hw, fun H2 e2 => q H2 e2⟩
theorem ok__law_refused (T : Txt K mg) : FnOk P w K mg base CX0 4 T.f__law_refused T.d__law_refused ["_law_thing", "_law_many"] (sp__law_refused T) := by
  refine T.F__law_refused.ok sc__law_refused (fun vs H Q E h => ?_) (fun cdv A outer s H vs Q E hr h => ?_)
  · obtain ⟨x, b, rfl, _⟩ := h
    rfl
  · obtain ⟨x, b, rfl, hk, hw, q⟩ := h
    refine ⟨_, (pss_cons (ps_set (i := 2) sc__law_refused.nd rfl (Or.inl rfl) (pe_lst pa_nil))
    (pss_cons (ps_try_as (i := 3) rfl rfl sc__law_refused.nd rfl rfl ⟨rfl, by decide, Or.inl T.g_SparseError⟩ takes0 (fun W pn xe tk po => (pss_one (ps_if (pt_val (pv 1)) (pss_one (ps_expr (pe_callS (ok_members T) (hr.mono (by decide)) (by rfl) T.g_members T.F_members.kp T.b_members (fun σ => passAt tk σ) (pa_cons (pv 0) pa_nil)))) (pss_one (ps_expr (pe_callS (ok_member T) (hr.mono (by decide)) (by rfl) T.g_member T.F_member.kp T.b_member (fun σ => passAt tk σ) (pa_cons (pv 0) pa_nil)))))))
     (fun a oe cls d pn hz hf => (pss_cons (ps_set (i := 2) sc__law_refused.nd rfl (Or.inl rfl) (pe_lst (pa_cons (pe_callB (call_isX hz hf) (by rfl) T.n_isinstance (by decide +kernel) (pa_cons (pv 3) (pa_cons (pe_glob (v := .ref T.a_NoNumber) (by rfl) T.g_NoNumber rfl) pa_nil))) (pa_cons (pe_callB (call_isX hz hf) (by rfl) T.n_isinstance (by decide +kernel) (pa_cons (pv 3) (pa_cons (pe_bltn (v := .ty "ValueError") (by rfl) T.n_ValueError (by decide +kernel) rfl) pa_nil))) (pa_cons (pe_callB (call_isX hz hf) (by rfl) T.n_isinstance (by decide +kernel) (pa_cons (pv 3) (pa_cons (pe_glob (v := .ref T.a_NoForm) (by rfl) T.g_NoForm rfl) pa_nil))) pa_nil)))))
    (pss_one (ps_set (i := 2) sc__law_refused.nd rfl (Or.inl rfl) (pe_op op_cat (pv 2) (pe_lst (pa_cons (pe_callB (call_isX hz hf) (by rfl) T.n_isinstance (by decide +kernel) (pa_cons (pv 3) (pa_cons (pe_glob (v := .ref T.a_NoText) (by rfl) T.g_NoText rfl) pa_nil))) (pa_cons (pe_callB (call_isX hz hf) (by rfl) T.n_isinstance (by decide +kernel) (pa_cons (pv 3) (pa_cons (pe_glob (v := .ref T.a_NoStep) (by rfl) T.g_NoStep rfl) pa_nil))) (pa_cons (pe_callB (call_isX hz hf) (by rfl) T.n_isinstance (by decide +kernel) (pa_cons (pv 3) (pa_cons (pe_glob (v := .ref T.a_TooLittle) (by rfl) T.g_TooLittle rfl) pa_nil))) pa_nil))))))))))
    (pss_one (ps_ret (pe_cmpR (op_eqD hr.units) (pv 2) (pe_lst (pa_cons pe_bl (pa_cons pe_bl (pa_cons pe_bl (pa_cons pe_bl (pa_cons pe_bl (pa_cons pe_bl pa_nil))))))) (nomark _)))))), ?_⟩
    refine q_asgL (el_lst ea_nil (by decide)) fun l H1 hl e1 h1 => ?_
    refine s_if (b := b) (et_B (ev_var rfl)) ?_ ?_
    all_goals
      intro hb H2 e2
      refine ⟨x, rfl, x, rfl, hk.mono (e1.trans e2), fun _ H' e' => ?_, fun n hn => by rw [hn] at hw; simp [wholeV] at hw⟩
      refine ⟨true, T.m_NoNumber_SparseError, fun _ ad na => ?_, fun z => nomatch z⟩
      refine q_asgL (el_lst (ea_cons (ev_isX (ev_var rfl) ev_c T.e_NoNumber rel_ref T.i_NoNumber_NoNumber) (ea_cons (ev_isX (ev_var rfl) ev_c T.e_NoNumber rel_ty T.i_NoNumber_ValueError) (ea_cons (ev_isX (ev_var rfl) ev_c T.e_NoNumber rel_ref T.i_NoNumber_NoForm) ea_nil))) (by decide)) fun l3 H3 hl3 e3 h3 => ?_
      refine s_asgL (el_cat (ev_var rfl) h3 (el_lst (ea_cons (ev_isX (ev_var rfl) ev_c T.e_NoNumber rel_ref T.i_NoNumber_NoText) (ea_cons (ev_isX (ev_var rfl) ev_c T.e_NoNumber rel_ref T.i_NoNumber_NoStep) (ea_cons (ev_isX (ev_var rfl) ev_c T.e_NoNumber rel_ref T.i_NoNumber_TooLittle) ea_nil))) (by decide)) (by decide)) fun l4 H4 hl4 e4 h4 => ?_
      exact s_ret (ev_last (ev_eqH (evh_v (ev_var rfl) (hd_blsL (bs := [true, true, false, false, false, false]) h4)) (evh_L (el_lst (ea_cons ev_c (ea_cons ev_c (ea_cons ev_c (ea_cons ev_c (ea_cons ev_c (ea_cons ev_c ea_nil)))))) (by decide)) (hdAll_bls [true, true, false, false, false, false])) (by decide)) (by decide)) fun H5 e5 => q H5 (by walk_at "ex")

/-! _law_named -/
def sp__law_named (T : Txt K mg) : Sp := fun vs H Q _ => ∃ x, vs = [x] ∧ Kn K H x ∧ wholeV x = false ∧ RetV (.bl true) H Q
theorem spv__law_named (T : Txt K mg) {x : V} {H : Hp} (hk : Kn K H x) (hw : wholeV x = false) : SpV (sp__law_named T) [x] H (.bl true) := fun H1 e Q q E => ⟨x, rfl, hk.mono e, hw, fun H2 e2 => q H2 e2⟩
theorem ok__law_named (T : Txt K mg) : FnOk P w K mg base CX0 4 T.f__law_named T.d__law_named ["_law_thing"] (sp__law_named T) := by
  refine T.F__law_named.ok sc__law_named (fun vs H Q E h => ?_) (fun cdv A outer s H vs Q E hr h => ?_)
  · obtain ⟨x, rfl, _⟩ := h
    rfl
  · obtain ⟨x, rfl, hk, hw, q⟩ := h
    refine ⟨_, (pss_cons (ps_set (i := 1) sc__law_named.nd rfl (Or.inl rfl) pe_bl)
    (pss_cons (ps_try_only rfl rfl ⟨rfl, by decide, Or.inl T.g_NoNumber⟩ takes0 (fun W pn xe tk po => (pss_one (ps_expr (pe_callS (ok_member T) (hr.mono (by decide)) (by rfl) T.g_member T.F_member.kp T.b_member (fun σ => passAt tk σ) (pa_cons (pv 0) pa_nil)))))
     (fun a oe cls d pn hz hf => (pss_one (ps_set (i := 1) sc__law_named.nd rfl (Or.inl rfl) pe_bl))))
    (pss_one (ps_ret (pv 1))))), ?_⟩
    refine q_asg ev_c fun H1 e1 => ?_
    refine ⟨x, rfl, x, rfl, hk.mono e1, fun _ H' e' => ?_, fun n hn => by rw [hn] at hw; simp [wholeV] at hw⟩
    refine ⟨true, T.m_NoNumber_NoNumber, fun _ ad na => ?_, fun z => nomatch z⟩
    refine s_asg ev_c fun H3 e3 => ?_
    exact s_ret (ev_var rfl) fun H5 e5 => q H5 (by walk_at "ex")

/-! _law_row -/
def sp__law_row (T : Txt K mg) : Sp := fun vs H Q _ => ∃ a, ∃ m : Nat, vs = [.ref a, .int m] ∧ H a = some (.lst ((Mx.row m).map V.int)) ∧ m ≤ 5000 ∧ RetV (.bl true) H Q
theorem ok__law_row (T : Txt K mg) : FnOk P w K mg base CX0 2 T.f__law_row T.d__law_row ["_law_found", "_law_many"] (sp__law_row T) := by
  refine T.F__law_row.ok sc__law_row (fun vs H Q E h => ?_) (fun cdv A outer s H vs Q E hr h => ?_)
  · obtain ⟨a, m, rfl, _⟩ := h
    rfl
  · obtain ⟨a, m, rfl, hA, hm, q⟩ := h
    have hS : SqL K H a ((Mx.row m).map V.int) := SqL.of hA
    refine ⟨_, (pss_cons (ps_if (PW.pt (pw_or (pt_not (pt_val (pe_callB call_isi (by rfl) T.n_isinstance (by decide +kernel) (pa_cons (pv 0) (pa_cons (pe_bltn (v := .ty "list") (by rfl) T.n_list (by decide +kernel) rfl) pa_nil))))) (pw_or1 (pt_cmpR op_ne (pe_callB call_len_seq (by rfl) T.n_len (by decide +kernel) (pa_cons (pv 0) pa_nil)) (pv 1) (nomark _))))) (pss_one (ps_ret pe_bl)) pss_nil)
    (pss_cons (ps_for PassesOwn.never rfl (pi_range1 (by rfl) T.n_range (pa_cons (pv 1) pa_nil)) (pg_name (i := 2) sc__law_row.nd rfl (Or.inl rfl)) (pss_cons (ps_if (pt_not (pt_val (pe_call (ok__law_whole T) (hr.mono (by decide)) (by rfl) T.g__law_whole T.F__law_whole.kp T.b__law_whole .nil pass0 (pa_cons (pe_ix ix_list (pv 0) (pv 2) (fun _ _ => rfl)) pa_nil)))) (pss_one (ps_ret pe_bl)) pss_nil)
    (pss_cons (ps_if (PW.pt (pw_and (pt_cmpR op_lt (pv 2) pe_int (nomark _)) (pw_and1 (pt_cmpR op_ne (pe_ix ix_list (pv 0) (pv 2) (fun _ _ => rfl)) (pe_op op_add (pv 2) pe_int) (nomark _))))) (pss_one (ps_ret pe_bl)) pss_nil)
    (pss_one (ps_if (PW.pt (pw_and (pt_cmpR op_gt (pv 2) pe_int (nomark _)) (pw_and1 (pt_cmpR op_ne (pe_ix ix_list (pv 0) (pv 2) (fun _ _ => rfl)) (pe_op op_add (pe_ix ix_list (pv 0) (pe_op op_sub (pv 2) pe_int) (fun _ _ => rfl)) (pe_ix ix_list (pv 0) (pe_op op_sub (pv 2) pe_int) (fun _ _ => rfl))) (nomark _))))) (pss_one (ps_ret pe_bl)) pss_nil)))))
    (pss_one (ps_ret pe_bl)))), ?_⟩
    refine q_when (b := false) ?_ (fun hb H1 e1 => absurd hb (by decide)) (fun hb H1 e1 => ?_)
    · refine et_eq (et_or (a := false) (b := false) ?_ fun _ => ?_) rfl
      · exact et_eq (et_not (et_B (ev_isi (ev_var rfl) (TyOf.lst hA) (b := true) (by decide +kernel)))) rfl
      · exact et_eq (by walk_at "et") (by rw [List.length_map, Mx.row_len]; simp)
    refine q_forR1 (ea_cons (ev_var rfl) ea_nil) ⟨by omega, by omega⟩ (fun i σ' H' => ∃ y, σ' = [some (.ref a), some (.int m), y] ∧ Ex H H') (fun H2 e2 => ⟨_, rfl, by walk_at "ex"⟩) ?_ ?_
    · rintro i σ' H' hi ⟨y, rfl, eH⟩
      have hi : i < m := by omega
      have hA' : SqL K H' a ((Mx.row m).map V.int) := ex_l eH hS
      have g : ∀ {j : Nat}, j < m → ((Mx.row m).map V.int)[j]? = some (.int (Mx.mem j)) := fun hj => ints_at (Mx.row_at hj)
      refine q_when (b := false) ?_ (fun hb H1 e1 => absurd hb (by decide)) (fun hb H2 e2 => ?_)
      · exact et_eq (et_not (et_B (ev_call (ea_cons (ev_op (ev_var rfl) (ev_var rfl) (rv_ixL hA' (atI_nat (g hi)))) ea_nil) (spv__law_whole_int T)))) rfl
      refine q_when (b := false) ?_ (fun hb H1 e1 => absurd hb (by decide)) (fun hb H3 e3 => ?_)
      · refine et_eq (et_and (a := decide ((i : Int) < 2)) (b := false) (by walk_at "et") fun ha => ?_) (Bool.and_false _)
        refine et_eq (et_test (ev_op (ev_op (ev_var rfl) (ev_var rfl) (rv_ixL (ex_l e2 hA') (atI_nat (g hi)))) (by walk_at "ev") (rv_ne rfl))) ?_
        have h2 : i < 2 := by
          have := of_decide_eq_true ha
          omega
        have e : Mx.mem i = (i : Int) + 1 := by
          match i, h2 with
          | 0, _ => rfl
          | 1, _ => rfl
        rw [e]
        simp
      refine s_when (b := false) ?_ (fun hb H1 e1 => absurd hb (by decide)) (fun hb H4 e4 => ⟨_, rfl, by walk_at "ex"⟩)
      · refine et_eq (et_and (a := decide (1 < (i : Int))) (b := false) (by walk_at "et") fun ha => ?_) (Bool.and_false _)
        have h2 : 2 ≤ i := by
          have := of_decide_eq_true ha
          omega
        have hA3 := ex_l e3 (ex_l e2 hA')
        refine et_eq (et_test (ev_op (ev_op (ev_var rfl) (ev_var rfl) (rv_ixL hA3 (atI_nat (g hi)))) (ev_op (ev_op (ev_var rfl) (by walk_at "ev") (rv_ixL hA3 (at_of (j := i - 1) (by omega) (g (by omega))))) (ev_op (ev_var rfl) (by walk_at "ev") (rv_ixL hA3 (at_of (j := i - 2) (by omega) (g (by omega))))) rv_I0) (rv_ne rfl))) ?_
        obtain ⟨j, rfl⟩ : ∃ j, i = j + 2 := ⟨i - 2, by omega⟩
        have e : Mx.mem (j + 2) = Mx.mem (j + 2 - 1) + Mx.mem (j + 2 - 2) := by
          show Mx.mem j + Mx.mem (j + 1) = Mx.mem (j + 1) + Mx.mem j
          omega
        rw [e]
        simp
    · rintro σ' H' ⟨y, rfl, eH⟩
      exact s_ret ev_c fun H2 e2 => q H2 (eH.trans e2)

/-! the law -/
def sp_law (K : PySem.W.Frag) : Sp := fun vs H Q _ => ∃ a, ∃ ns : List Int, vs = [.ref a] ∧ SqL K H a (ns.map V.int) ∧ ns.length ≤ 63 ∧ ∀ H', Q (.bl true) H'
theorem ok_law (T : Txt K mg) {f : Addr} {fd : FuncData} (F : Fun K "law" "law" s_law f fd) : FnOk P w K mg base CX0 5 f fd ["_law_script"] (sp_law K) := by
  refine F.ok sc_law (fun vs H Q E h => ?_) (fun cdv A outer s H vs Q E hr h => ?_)
  · obtain ⟨a, ns, rfl, _⟩ := h
    rfl
  · obtain ⟨a, ns, rfl, hS, hlen, q⟩ := h
    refine ⟨_, (pss_cons (ps_set (i := 1) sc_law.nd rfl (Or.inl rfl) (pe_op op_mod (pe_op op_fdiv (pe_call (ok__law_cell_at T) (hr.mono (by decide)) (by rfl) T.g__law_cell_at T.F__law_cell_at.kp T.b__law_cell_at .nil pass0 (pa_cons (pv 0) (pa_cons pe_int pa_nil))) pe_int) pe_int))
    (pss_cons (ps_if (pt_cmpR op_eq (pe_op op_mod (pe_call (ok__law_cell_at T) (hr.mono (by decide)) (by rfl) T.g__law_cell_at T.F__law_cell_at.kp T.b__law_cell_at .nil pass0 (pa_cons (pv 0) (pa_cons pe_int pa_nil))) pe_int) pe_int (nomark _)) (pss_one (ps_set (i := 1) sc_law.nd rfl (Or.inl rfl) (pe_op op_mod (pe_op op_fdiv (pe_call (ok__law_cell_at T) (hr.mono (by decide)) (by rfl) T.g__law_cell_at T.F__law_cell_at.kp T.b__law_cell_at .nil pass0 (pa_cons (pv 0) (pa_cons pe_int pa_nil))) pe_int) pe_int))) pss_nil)
    (pss_cons (ps_set (i := 2) sc_law.nd rfl (Or.inl rfl) (pe_call (ok_members T) (hr.mono (by decide)) (by rfl) T.g_members T.F_members.kp T.b_members .nil passL (pa_cons (pe_op op_add (pv 1) pe_int) pa_nil)))
    (pss_cons (ps_if (PW.pt (pw_or (pt_not (pt_val (pe_call (ok__law_row T) (hr.mono (by decide)) (by rfl) T.g__law_row T.F__law_row.kp T.b__law_row .nil pass0 (pa_cons (pv 2) (pa_cons (pe_op op_add (pv 1) pe_int) pa_nil))))) (pw_or1 (pt_not (pt_val (pe_call (ok__law_row T) (hr.mono (by decide)) (by rfl) T.g__law_row T.F__law_row.kp T.b__law_row .nil pass0 (pa_cons (pe_call (ok_members T) (hr.mono (by decide)) (by rfl) T.g_members T.F_members.kp T.b_members .nil passL (pa_cons (pe_op op_mod (pv 1) pe_int) pa_nil)) (pa_cons (pe_op op_mod (pv 1) pe_int) pa_nil)))))))) (pss_one (ps_ret pe_bl)) pss_nil)
    (pss_cons (ps_for PassesOwn.never rfl (pi_range1 (by rfl) T.n_range (pa_cons pe_int pa_nil)) (pg_name (i := 3) sc_law.nd rfl (Or.inl rfl)) (pss_cons (ps_set (i := 4) sc_law.nd rfl (Or.inl rfl) (pe_call (ok_member T) (hr.mono (by decide)) (by rfl) T.g_member T.F_member.kp T.b_member .nil passL (pa_cons (pe_op op_add (pv 1) (pv 3)) pa_nil)))
    (pss_one (ps_if (PW.pt (pw_or (pt_not (pt_val (pe_call (ok__law_whole T) (hr.mono (by decide)) (by rfl) T.g__law_whole T.F__law_whole.kp T.b__law_whole .nil pass0 (pa_cons (pv 4) pa_nil)))) (pw_or1 (pt_cmpR op_ne (pv 4) (pe_ix ix_list (pv 2) (pe_op op_add (pv 1) (pv 3)) (fun _ _ => rfl)) (nomark _))))) (pss_one (ps_ret pe_bl)) pss_nil))))
    (pss_cons (ps_set (i := 5) sc_law.nd rfl (Or.inl rfl) (pe_call (ok__law_cell_at T) (hr.mono (by decide)) (by rfl) T.g__law_cell_at T.F__law_cell_at.kp T.b__law_cell_at .nil pass0 (pa_cons (pv 0) (pa_cons pe_int pa_nil))))
    (pss_cons (ps_set (i := 6) sc_law.nd rfl (Or.inl rfl) (pe_ix ix_list (pe_lst (pa_cons (pe_op op_sub (pe_un un_neg pe_int) (pe_op op_mod (pe_op op_fdiv (pv 5) pe_int) (pe_op op_pow pe_int pe_int))) (pa_cons pe_bl (pa_cons pe_bl (pa_cons pe_non (pa_cons pe_str (pa_cons (pe_lst (pa_cons pe_int pa_nil)) (pa_cons (pe_tup (pa_cons pe_int pa_nil)) (pa_cons pe_dnewK pa_nil))))))))) (pe_op op_mod (pv 5) pe_int) (fun _ _ => rfl)))
    (pss_one (ps_ret (pe_and (pe_call (ok__law_refused T) (hr.mono (by decide)) (by rfl) T.g__law_refused T.F__law_refused.kp T.b__law_refused .nil pass0 (pa_cons (pv 6) (pa_cons pe_bl pa_nil))) (pe_and (pe_call (ok__law_refused T) (hr.mono (by decide)) (by rfl) T.g__law_refused T.F__law_refused.kp T.b__law_refused .nil pass0 (pa_cons (pv 6) (pa_cons pe_bl pa_nil))) (pe_one (pe_call (ok__law_named T) (hr.mono (by decide)) (by rfl) T.g__law_named T.F__law_named.kp T.b__law_named .nil pass0 (pa_cons (pv 6) pa_nil)))))))))))))), ?_⟩
    -- the place
    have hc : ∀ {σ : L2.St} {H1 : Hp} {E : XK} (k : Nat) (hv : σ[0]? = some (some (.ref a))), Ex H H1 → Ev (tCall (sp__law_cell_at T) [] E (tCons (tVar 0) (tCons (tC (.int (k : Int))) tNil))) σ H1 (.int (cell ns k)) := fun k hv e =>
      ev_call (ea_cons (ev_var hv) (ea_cons ev_c ea_nil)) (spv__law_cell_at T (ex_l e hS))
    refine q_asg (ev_op (ev_op (hc 0 rfl (Ex.refl H)) ev_c (rv_I (cdiv (by decide) (by decide)))) ev_c (rv_I (by decide))) fun H1 e1 => ?_
    obtain ⟨p, hp, hp2⟩ : ∃ p : Nat, (if cell ns 0 % 4 = 1 then cell ns 0 / 4 % 998 else cell ns 0 / 4 % 61) = (p : Int) ∧ p ≤ 997 := by
      refine ⟨(if cell ns 0 % 4 = 1 then cell ns 0 / 4 % 998 else cell ns 0 / 4 % 61).toNat, ?_, ?_⟩ <;> split <;> omega
    refine q_ifAsg (b := decide (cell ns 0 % 4 = 1)) (v := .int (p : Int)) ?_ (fun hb => ?_) (fun hb => ?_) fun H2 e2 => ?_
    · exact et_eq (et_test (ev_op (ev_op (hc 0 rfl e1) ev_c (rv_I (by decide))) ev_c (rv_eq rfl))) (by simp)
    · rw [if_pos (of_decide_eq_true hb)] at hp
      exact ev_eq (ev_op (ev_op (hc 0 rfl e1) ev_c (rv_I (cdiv (by decide) (by decide)))) ev_c (rv_I (by decide))) (by rw [hp])
    · rw [if_neg (of_decide_eq_false hb)] at hp
      show [some (V.ref a), some (V.int p), none, none, none, none, none] = [some (V.ref a), some (V.int (cell ns 0 / 4 % 61)), none, none, none, none, none]
      rw [hp]
    -- the row
    refine q_asgL (el_call (ea_cons (ev_eq (w := .int ((p + 3 : Nat) : Int)) (by walk_at "ev") rfl) ea_nil) (spl_members T (n := p + 3) (by omega))) fun r H3 hr e3 h3 => ?_
    refine q_when (b := false) ?_ (fun hb H4 e4 => absurd hb (by decide)) (fun hb H4 e4 => ?_)
    · refine et_eq (et_or (a := false) (b := false) ?_ fun _ => ?_) rfl
      · refine et_eq (et_not (et_B (ev_call (z := .bl true) (ea_cons (ev_var rfl) (ea_cons (ev_eq (w := .int ((p + 3 : Nat) : Int)) (by walk_at "ev") rfl) ea_nil)) ?_))) rfl
        exact fun H1 e Q q E => ⟨r, p + 3, rfl, ex_to e h3, by omega, fun H2 e2 => q H2 e2⟩
      · intro H1 e Q q
        refine el_call (ea_cons (ev_eq (w := .int ((p % 3 : Nat) : Int)) (ev_op (ev_var rfl) ev_c (rv_I (by decide))) rfl) ea_nil) (spl_members T (n := p % 3) (by omega)) H1 e _ fun l H2 hl e2 h2 => ?_
        refine ea_cons (ev_eq (w := .int ((p % 3 : Nat) : Int)) (ev_op (ev_var rfl) ev_c (rv_I (by decide))) rfl) ea_nil H2 (Ex.refl _) _ fun H5 e5 => ?_
        exact ⟨l, p % 3, rfl, ex_to e5 h2, by omega, fun H6 e6 => ⟨true, rfl, q H6 ((e2.trans e5).trans e6)⟩⟩
    -- the members
    refine q_forR1 (n := 3) (ea_cons ev_c ea_nil) (by decide) (fun i σ' H' => ∃ y z, σ' = [some (.ref a), some (.int (p : Int)), some (.ref r), y, z, none, none] ∧ Ex H H' ∧ H' r = some (.lst ((Mx.row (p + 3)).map V.int))) (fun H5 e5 => ⟨_, _, rfl, by walk_at "ex", by walk_at "at"⟩) ?_ ?_
    · rintro i σ' H' hi ⟨y, z, rfl, eH, hR⟩
      have hi : i < 3 := by omega
      refine q_asg (ev_call (ea_cons (ev_eq (w := .int ((p + i : Nat) : Int)) (by walk_at "ev") rfl) ea_nil) (spv_member T (by omega))) fun H5 e5 => ?_
      refine s_when (b := false) ?_ (fun hb H6 e6 => absurd hb (by decide)) (fun hb H6 e6 => ⟨_, _, rfl, by walk_at "ex", by walk_at "at"⟩)
      refine et_eq (et_or (a := false) (b := false) ?_ fun _ => ?_) rfl
      · exact et_eq (et_not (et_B (ev_call (ea_cons (ev_var rfl) ea_nil) (spv__law_whole_int T)))) rfl
      · exact et_eq (et_test (ev_op (ev_var rfl) (ev_op (ev_var rfl) (ev_eq (w := .int ((p + i : Nat) : Int)) (by walk_at "ev") rfl) (rv_ixL (SqL.of (ex_to e5 hR)) (atI_nat (ints_at (Mx.row_at (by omega)))))) (rv_ne rfl))) (by simp)
    · rintro σ' H' ⟨y, z, rfl, eH, hR⟩
      -- the other thing
      refine q_asg (hc 1 rfl eH) fun H5 e5 => ?_
      generalize cell ns 1 = c
      have fin : ∀ (x : V) (H6 : Hp), Kn K H6 x → wholeV x = false → tRet (tAndV (tCall (sp__law_refused T) [] E0 (tCons (tVar 6) (tCons (tC (.bl true)) tNil))) (tAndV (tCall (sp__law_refused T) [] E0 (tCons (tVar 6) (tCons (tC (.bl false)) tNil))) (tCall (sp__law_named T) [] E0 (tCons (tVar 6) tNil)))) { nx := fun _ H' => Q .non H', rt := Q } [some (.ref a), some (.int (p : Int)), some (.ref r), y, z, some (.int c), some x] H6 := fun x H6 hk hw => by
        refine s_ret (ev_last (ev_andV (ev_call (ea_cons (ev_var rfl) (ea_cons ev_c ea_nil)) (spv__law_refused T hk hw)) fun _ => ev_andV (ev_call (ea_cons (ev_var rfl) (ea_cons ev_c ea_nil)) (spv__law_refused T hk hw)) fun _ => ev_call (ea_cons (ev_var rfl) ea_nil) (spv__law_named T hk hw)) rfl) fun H7 e7 => q H7
      obtain ⟨j, hj, hj2⟩ : ∃ j : Nat, c % 8 = (j : Int) ∧ j < 8 := ⟨(c % 8).toNat, by omega, by omega⟩
      have hneg : wholeV (.int (-1 - c / 8 % 10 ^ 30)) = false := by
        simp only [wholeV, decide_eq_false_iff_not]
        have : 0 ≤ c / 8 % 10 ^ 30 := Int.emod_nonneg _ (by decide)
        omega
      -- the menu
      refine ev_op (ev_un ev_c ru_neg) (ev_op (ev_op (ev_var (v := .int c) rfl) ev_c (rv_I (cdiv (by decide) (by decide)))) (ev_op ev_c ev_c (rv_I (cpow (by decide) (by decide) (by decide)))) (rv_I (by decide))) rv_I0 H5 (Ex.refl _) _ fun H6 e6 => ?_
      refine ⟨by decide, fun l2 hl2 => ?_⟩
      refine ⟨by decide, fun t ht => ?_⟩
      refine fun d hd => ?_
      refine ⟨(show 8 ≤ sizeLine by decide), fun m hm => ?_⟩
      refine ev_op (ev_var (v := .int c) rfl) ev_c (rv_I (by decide)) _ (Ex.refl _) _ fun H7 e7 => ?_
      have f2 := ex_to e7 (ex_to (Ex.new hm) (ex_to (Ex.new hd) (ex_to (Ex.new ht) (upd_same (H := H6) (a := l2) (o := .lst [.int 2])))))
      have f3 := ex_to e7 (ex_to (Ex.new hm) (ex_to (Ex.new hd) (upd_same (a := t) (o := .tup [.int 2]))))
      have f4 := ex_to e7 (ex_to (Ex.new hm) (upd_same (a := d) (o := .dK [])))
      have f5 := ex_to e7 (upd_same (a := m))
      rw [hj]
      match j, hj2 with
      | 0, _ => exact ⟨m, _, _, _, rfl, rfl, .of f5, atI_nat (j := 0) rfl, fin _ H7 kn_int hneg⟩
      | 1, _ => exact ⟨m, _, _, _, rfl, rfl, .of f5, atI_nat (j := 1) rfl, fin _ H7 kn_bl rfl⟩
      | 2, _ => exact ⟨m, _, _, _, rfl, rfl, .of f5, atI_nat (j := 2) rfl, fin _ H7 kn_bl rfl⟩
      | 3, _ => exact ⟨m, _, _, _, rfl, rfl, .of f5, atI_nat (j := 3) rfl, fin _ H7 kn_non rfl⟩
      | 4, _ => exact ⟨m, _, _, _, rfl, rfl, .of f5, atI_nat (j := 4) rfl, fin _ H7 kn_str rfl⟩
      | 5, _ => exact ⟨m, _, _, _, rfl, rfl, .of f5, atI_nat (j := 5) rfl, fin _ H7 (kn_lst f2) rfl⟩
      | 6, _ => exact ⟨m, _, _, _, rfl, rfl, .of f5, atI_nat (j := 6) rfl, fin _ H7 (kn_tup f3) rfl⟩
      | 7, _ => exact ⟨m, _, _, _, rfl, rfl, .of f5, atI_nat (j := 7) rfl, fin _ H7 (kn_dK f4) rfl⟩

end
theorem all_mk {l : PySem.W.OpenLaw} {w : World} {K : PySem.W.Frag} {h : Heap} {mg : Str → Option Value} {fa : Addr} (X : K.In h) (G : h.Ns mainGlobals mg) (hfa : mg "law" = some (.ref fa)) {c_SparseError c_NoNumber c_NoForm c_NoText c_NoStep c_TooLittle f0 f1 f2 f3 f4 f5 f6 f7 f8 : Addr}
    {od0 an0 : Option Addr} {sl0 : Array (Option Value)} {oc0 kV0 dc0 pm0 cd0 ct0 : Value}
    {od1 an1 : Option Addr} {sl1 : Array (Option Value)} {oc1 kV1 dc1 pm1 cd1 ct1 : Value}
    {od2 an2 : Option Addr} {sl2 : Array (Option Value)} {oc2 kV2 dc2 pm2 cd2 ct2 : Value}
    {od3 an3 : Option Addr} {sl3 : Array (Option Value)} {oc3 kV3 dc3 pm3 cd3 ct3 : Value}
    {od4 an4 : Option Addr} {sl4 : Array (Option Value)} {oc4 kV4 dc4 pm4 cd4 ct4 : Value}
    {od5 an5 : Option Addr} {sl5 : Array (Option Value)} {oc5 kV5 dc5 pm5 cd5 ct5 : Value}
    {od6 an6 : Option Addr} {sl6 : Array (Option Value)} {oc6 kV6 dc6 pm6 cd6 ct6 : Value}
    {od7 an7 : Option Addr} {sl7 : Array (Option Value)} {oc7 kV7 dc7 pm7 cd7 ct7 : Value}
    {od8 an8 : Option Addr} {sl8 : Array (Option Value)} {oc8 kV8 dc8 pm8 cd8 ct8 : Value}
    (z_ValueError : PySem.W.nsIn K mainGlobals "ValueError" = some none)
    (z_bool : PySem.W.nsIn K mainGlobals "bool" = some none)
    (z_int : PySem.W.nsIn K mainGlobals "int" = some none)
    (z_isinstance : PySem.W.nsIn K mainGlobals "isinstance" = some none)
    (z_len : PySem.W.nsIn K mainGlobals "len" = some none)
    (z_list : PySem.W.nsIn K mainGlobals "list" = some none)
    (z_range : PySem.W.nsIn K mainGlobals "range" = some none)
    (g_SparseError : PySem.W.nsIn K mainGlobals "SparseError" = some (some (.ref c_SparseError)))
    (g_NoNumber : PySem.W.nsIn K mainGlobals "NoNumber" = some (some (.ref c_NoNumber)))
    (g_NoForm : PySem.W.nsIn K mainGlobals "NoForm" = some (some (.ref c_NoForm)))
    (g_NoText : PySem.W.nsIn K mainGlobals "NoText" = some (some (.ref c_NoText)))
    (g_NoStep : PySem.W.nsIn K mainGlobals "NoStep" = some (some (.ref c_NoStep)))
    (g_TooLittle : PySem.W.nsIn K mainGlobals "TooLittle" = some (some (.ref c_TooLittle)))
    (x_NoNumber : PySem.W.excIn K c_NoNumber [.type "ValueError", .type "Exception", .type "BaseException", .type "object"] "ValueError.__new__" = true)
    (k_NoNumber : PySem.W.keepIn K (.ref c_NoNumber) = true)
    (b_NoNumber : PySem.W.subIn K (.ref c_NoNumber) (.type "BaseException") = some true)
    (t_NoNumber : PySem.W.typeIn K (.ref c_NoNumber) = some (.type "type"))
    (ehg_NoNumber : PySem.W.findIn K (.ref c_NoNumber) "__getattribute__" = some (some (.builtin "BaseException.__getattribute__")))
    (ehk_NoNumber : PySem.W.findIn K (.ref c_NoNumber) "__getattr__" = some none)
    (ehd_NoNumber : PySem.W.hasDictIn K c_NoNumber = true)
    (eha_NoNumber : PySem.W.findIn K (.ref c_NoNumber) "__class__" = some (some (.builtin "object.__class__")))
    (ehn_NoNumber : PySem.W.specialIn K (.builtin "object.__class__") "__get__" = some (some (.builtin "getset_descriptor.__get__")))
    (eht_NoNumber : PySem.W.takesIn K (.builtin "object.__class__") = some true)
    (ehm_NoNumber : PySem.W.mroIn K c_NoNumber (.type "object") = some true)
    (s_NoNumber_NoForm : PySem.W.subIn K (.ref c_NoNumber) (.ref c_NoForm) = some false)
    (s_NoNumber_NoNumber : PySem.W.subIn K (.ref c_NoNumber) (.ref c_NoNumber) = some true)
    (s_NoNumber_NoStep : PySem.W.subIn K (.ref c_NoNumber) (.ref c_NoStep) = some false)
    (s_NoNumber_NoText : PySem.W.subIn K (.ref c_NoNumber) (.ref c_NoText) = some false)
    (s_NoNumber_SparseError : PySem.W.subIn K (.ref c_NoNumber) (.ref c_SparseError) = some true)
    (s_NoNumber_TooLittle : PySem.W.subIn K (.ref c_NoNumber) (.ref c_TooLittle) = some false)
    (sv_NoNumber : PySem.W.subIn K (.ref c_NoNumber) (.type "ValueError") = some true)
    (ne_NoNumber_NoForm : c_NoNumber ≠ c_NoForm)
    (ne_NoNumber_NoText : c_NoNumber ≠ c_NoText)
    (ne_NoNumber_NoStep : c_NoNumber ≠ c_NoStep)
    (ne_NoNumber_TooLittle : c_NoNumber ≠ c_TooLittle)
    (xd_NoForm : PySem.W.hasDictIn K c_NoForm = true)
    (xt_NoForm : PySem.W.typeIn K (.ref c_NoForm) = some (.type "type"))
    (xd_NoNumber : PySem.W.hasDictIn K c_NoNumber = true)
    (xt_NoNumber : PySem.W.typeIn K (.ref c_NoNumber) = some (.type "type"))
    (xd_NoStep : PySem.W.hasDictIn K c_NoStep = true)
    (xt_NoStep : PySem.W.typeIn K (.ref c_NoStep) = some (.type "type"))
    (xd_NoText : PySem.W.hasDictIn K c_NoText = true)
    (xt_NoText : PySem.W.typeIn K (.ref c_NoText) = some (.type "type"))
    (xd_SparseError : PySem.W.hasDictIn K c_SparseError = true)
    (xt_SparseError : PySem.W.typeIn K (.ref c_SparseError) = some (.type "type"))
    (xd_TooLittle : PySem.W.hasDictIn K c_TooLittle = true)
    (xt_TooLittle : PySem.W.typeIn K (.ref c_TooLittle) = some (.type "type"))
    (xb_SparseError : PySem.W.subIn K (.ref c_SparseError) (.type "BaseException") = some true)
    (xb_NoNumber : PySem.W.subIn K (.ref c_NoNumber) (.type "BaseException") = some true)
    (a0 : PySem.W.nsIn K mainGlobals "is_whole" = some (some (.ref f0)))
    (l0 : K.lookup f0 = some ⟨oc0, od0, .func (PySem.W.fnOf "is_whole" "is_whole" (defArgs s_is_whole) (defBody s_is_whole) (defScope s_is_whole) .none kV0 dc0 pm0 an0 cd0 ct0), sl0⟩)
    (q0 : PySem.W.codeIn K cd0 "is_whole" = true)
    (k0 : PySem.W.keepIn K (.ref f0) = true)
    (a1 : PySem.W.nsIn K mainGlobals "members" = some (some (.ref f1)))
    (l1 : K.lookup f1 = some ⟨oc1, od1, .func (PySem.W.fnOf "members" "members" (defArgs s_members) (defBody s_members) (defScope s_members) .none kV1 dc1 pm1 an1 cd1 ct1), sl1⟩)
    (q1 : PySem.W.codeIn K cd1 "members" = true)
    (k1 : PySem.W.keepIn K (.ref f1) = true)
    (a2 : PySem.W.nsIn K mainGlobals "member" = some (some (.ref f2)))
    (l2 : K.lookup f2 = some ⟨oc2, od2, .func (PySem.W.fnOf "member" "member" (defArgs s_member) (defBody s_member) (defScope s_member) .none kV2 dc2 pm2 an2 cd2 ct2), sl2⟩)
    (q2 : PySem.W.codeIn K cd2 "member" = true)
    (k2 : PySem.W.keepIn K (.ref f2) = true)
    (a3 : PySem.W.nsIn K mainGlobals "_law_cell_at" = some (some (.ref f3)))
    (l3 : K.lookup f3 = some ⟨oc3, od3, .func (PySem.W.fnOf "_law_cell_at" "_law_cell_at" (defArgs s__law_cell_at) (defBody s__law_cell_at) (defScope s__law_cell_at) .none kV3 dc3 pm3 an3 cd3 ct3), sl3⟩)
    (q3 : PySem.W.codeIn K cd3 "_law_cell_at" = true)
    (k3 : PySem.W.keepIn K (.ref f3) = true)
    (a4 : PySem.W.nsIn K mainGlobals "_law_whole" = some (some (.ref f4)))
    (l4 : K.lookup f4 = some ⟨oc4, od4, .func (PySem.W.fnOf "_law_whole" "_law_whole" (defArgs s__law_whole) (defBody s__law_whole) (defScope s__law_whole) .none kV4 dc4 pm4 an4 cd4 ct4), sl4⟩)
    (q4 : PySem.W.codeIn K cd4 "_law_whole" = true)
    (k4 : PySem.W.keepIn K (.ref f4) = true)
    (a5 : PySem.W.nsIn K mainGlobals "_law_refused" = some (some (.ref f5)))
    (l5 : K.lookup f5 = some ⟨oc5, od5, .func (PySem.W.fnOf "_law_refused" "_law_refused" (defArgs s__law_refused) (defBody s__law_refused) (defScope s__law_refused) .none kV5 dc5 pm5 an5 cd5 ct5), sl5⟩)
    (q5 : PySem.W.codeIn K cd5 "_law_refused" = true)
    (k5 : PySem.W.keepIn K (.ref f5) = true)
    (a6 : PySem.W.nsIn K mainGlobals "_law_named" = some (some (.ref f6)))
    (l6 : K.lookup f6 = some ⟨oc6, od6, .func (PySem.W.fnOf "_law_named" "_law_named" (defArgs s__law_named) (defBody s__law_named) (defScope s__law_named) .none kV6 dc6 pm6 an6 cd6 ct6), sl6⟩)
    (q6 : PySem.W.codeIn K cd6 "_law_named" = true)
    (k6 : PySem.W.keepIn K (.ref f6) = true)
    (a7 : PySem.W.nsIn K mainGlobals "_law_row" = some (some (.ref f7)))
    (l7 : K.lookup f7 = some ⟨oc7, od7, .func (PySem.W.fnOf "_law_row" "_law_row" (defArgs s__law_row) (defBody s__law_row) (defScope s__law_row) .none kV7 dc7 pm7 an7 cd7 ct7), sl7⟩)
    (q7 : PySem.W.codeIn K cd7 "_law_row" = true)
    (k7 : PySem.W.keepIn K (.ref f7) = true)
    (a8 : PySem.W.nsIn K mainGlobals "law" = some (some (.ref f8)))
    (l8 : K.lookup f8 = some ⟨oc8, od8, .func (PySem.W.fnOf "law" "law" (defArgs s_law) (defBody s_law) (defScope s_law) .none kV8 dc8 pm8 an8 cd8 ct8), sl8⟩)
    (q8 : PySem.W.codeIn K cd8 "law" = true)
    (k8 : PySem.W.keepIn K (.ref f8) = true)
    : ∃ fd : FuncData, (∀ (s : Shared) (v : Value), BindsTo s fd ⟨[v], []⟩ [("_law_script", v)]) ∧ ∀ base : Heap, K.In base → base.Ns mainGlobals mg → FnOk l.prog w K mg base CX0 5 fa fd ["_law_script"] (sp_law K) := by
  have e := hfa.symm.trans (PySem.W.mg_of X G a8)
  cases e
  let T : Txt K mg :=
    { n_ValueError := PySem.W.mg_none_of X G z_ValueError,
      n_bool := PySem.W.mg_none_of X G z_bool,
      n_int := PySem.W.mg_none_of X G z_int,
      n_isinstance := PySem.W.mg_none_of X G z_isinstance,
      n_len := PySem.W.mg_none_of X G z_len,
      n_list := PySem.W.mg_none_of X G z_list,
      n_range := PySem.W.mg_none_of X G z_range,
      a_SparseError := c_SparseError,
      g_SparseError := PySem.W.mg_of X G g_SparseError,
      a_NoNumber := c_NoNumber,
      g_NoNumber := PySem.W.mg_of X G g_NoNumber,
      a_NoForm := c_NoForm,
      g_NoForm := PySem.W.mg_of X G g_NoForm,
      a_NoText := c_NoText,
      g_NoText := PySem.W.mg_of X G g_NoText,
      a_NoStep := c_NoStep,
      g_NoStep := PySem.W.mg_of X G g_NoStep,
      a_TooLittle := c_TooLittle,
      g_TooLittle := PySem.W.mg_of X G g_TooLittle,
      x_NoNumber := x_NoNumber,
      k_NoNumber := k_NoNumber,
      b_NoNumber := b_NoNumber,
      t_NoNumber := t_NoNumber,
      e_NoNumber := ⟨ehg_NoNumber, ehk_NoNumber, b_NoNumber, ehd_NoNumber, eha_NoNumber, ehn_NoNumber, eht_NoNumber, ehm_NoNumber⟩,
      m_NoNumber_SparseError := PySem.W.exm_ref xb_SparseError xd_SparseError xt_SparseError s_NoNumber_SparseError,
      m_NoNumber_NoNumber := PySem.W.exm_ref xb_NoNumber xd_NoNumber xt_NoNumber s_NoNumber_NoNumber,
      i_NoNumber_NoNumber := kit_own xd_NoNumber xt_NoNumber s_NoNumber_NoNumber (Or.inl rfl),
      i_NoNumber_ValueError := kit_val sv_NoNumber,
      i_NoNumber_NoForm := kit_own xd_NoForm xt_NoForm s_NoNumber_NoForm (Or.inr ne_NoNumber_NoForm),
      i_NoNumber_NoText := kit_own xd_NoText xt_NoText s_NoNumber_NoText (Or.inr ne_NoNumber_NoText),
      i_NoNumber_NoStep := kit_own xd_NoStep xt_NoStep s_NoNumber_NoStep (Or.inr ne_NoNumber_NoStep),
      i_NoNumber_TooLittle := kit_own xd_TooLittle xt_TooLittle s_NoNumber_TooLittle (Or.inr ne_NoNumber_TooLittle),
      f_is_whole := f0,
      d_is_whole := _,
      F_is_whole := fun_mk (st := s_is_whole) l0 q0 k0,
      g_is_whole := PySem.W.mg_of X G a0,
      b_is_whole := (fun_mk (st := s_is_whole) l0 q0 k0).binds (ps := ["thing"]) fun _ _ _ _ _ _ us hl => match us, hl with | [_], _ => rfl,
      f_members := f1,
      d_members := _,
      F_members := fun_mk (st := s_members) l1 q1 k1,
      g_members := PySem.W.mg_of X G a1,
      b_members := (fun_mk (st := s_members) l1 q1 k1).binds (ps := ["many"]) fun _ _ _ _ _ _ us hl => match us, hl with | [_], _ => rfl,
      f_member := f2,
      d_member := _,
      F_member := fun_mk (st := s_member) l2 q2 k2,
      g_member := PySem.W.mg_of X G a2,
      b_member := (fun_mk (st := s_member) l2 q2 k2).binds (ps := ["place"]) fun _ _ _ _ _ _ us hl => match us, hl with | [_], _ => rfl,
      f__law_cell_at := f3,
      d__law_cell_at := _,
      F__law_cell_at := fun_mk (st := s__law_cell_at) l3 q3 k3,
      g__law_cell_at := PySem.W.mg_of X G a3,
      b__law_cell_at := (fun_mk (st := s__law_cell_at) l3 q3 k3).binds (ps := ["_law_script", "_law_k"]) fun _ _ _ _ _ _ us hl => match us, hl with | [_, _], _ => rfl,
      f__law_whole := f4,
      d__law_whole := _,
      F__law_whole := fun_mk (st := s__law_whole) l4 q4 k4,
      g__law_whole := PySem.W.mg_of X G a4,
      b__law_whole := (fun_mk (st := s__law_whole) l4 q4 k4).binds (ps := ["_law_found"]) fun _ _ _ _ _ _ us hl => match us, hl with | [_], _ => rfl,
      f__law_refused := f5,
      d__law_refused := _,
      F__law_refused := fun_mk (st := s__law_refused) l5 q5 k5,
      g__law_refused := PySem.W.mg_of X G a5,
      b__law_refused := (fun_mk (st := s__law_refused) l5 q5 k5).binds (ps := ["_law_thing", "_law_many"]) fun _ _ _ _ _ _ us hl => match us, hl with | [_, _], _ => rfl,
      f__law_named := f6,
      d__law_named := _,
      F__law_named := fun_mk (st := s__law_named) l6 q6 k6,
      g__law_named := PySem.W.mg_of X G a6,
      b__law_named := (fun_mk (st := s__law_named) l6 q6 k6).binds (ps := ["_law_thing"]) fun _ _ _ _ _ _ us hl => match us, hl with | [_], _ => rfl,
      f__law_row := f7,
      d__law_row := _,
      F__law_row := fun_mk (st := s__law_row) l7 q7 k7,
      g__law_row := PySem.W.mg_of X G a7,
      b__law_row := (fun_mk (st := s__law_row) l7 q7 k7).binds (ps := ["_law_found", "_law_many"]) fun _ _ _ _ _ _ us hl => match us, hl with | [_, _], _ => rfl }
  exact ⟨_, fun s v => .of_eq rfl, fun base _ _ => ok_law T (fun_mk (st := s_law) l8 q8 k8)⟩

end Kk
open PySem PySem.W PyProof.Rows
set_option maxHeartbeats 0 in
theorem PySem.Challenge.cw_sparsesum_k01_the_row_of_members_holds : PySem.Challenge.rw_sparsesum_k01_the_row_of_members.Holds := by
  w_on; o_law; k_head; (case hw => w_witness2)
  k_fill
  refine L2.walk_of (l := PySem.Challenge.rw_sparsesum_k01_the_row_of_members) (n := 63) (k := 5) (x := "_law_script") (CX := fun _ => L2.CX0) (sp := fun w => Kk.sp_law _) rfl (by decide) rfl ⟨rfl, by decide, by decide⟩ (fun w h Y => PySem.W.kIn_of Y) ?F (fun _ _ a ns hl _ hS => ⟨a, ns, rfl, hS, hl, fun _ => rfl⟩) (fun _ _ _ _ _ h => h)
  case F =>
    intro w mg fa h KX G hmg
    refine' Kk.all_mk KX G hmg ?z_ValueError ?z_bool ?z_int ?z_isinstance ?z_len ?z_list ?z_range ?g_SparseError ?g_NoNumber ?g_NoForm ?g_NoText ?g_NoStep ?g_TooLittle ?x_NoNumber ?k_NoNumber ?b_NoNumber ?t_NoNumber ?ehg_NoNumber ?ehk_NoNumber ?ehd_NoNumber ?eha_NoNumber ?ehn_NoNumber ?eht_NoNumber ?ehm_NoNumber ?s_NoNumber_NoForm ?s_NoNumber_NoNumber ?s_NoNumber_NoStep ?s_NoNumber_NoText ?s_NoNumber_SparseError ?s_NoNumber_TooLittle ?sv_NoNumber ?ne_NoNumber_NoForm ?ne_NoNumber_NoText ?ne_NoNumber_NoStep ?ne_NoNumber_TooLittle ?xd_NoForm ?xt_NoForm ?xd_NoNumber ?xt_NoNumber ?xd_NoStep ?xt_NoStep ?xd_NoText ?xt_NoText ?xd_SparseError ?xt_SparseError ?xd_TooLittle ?xt_TooLittle ?xb_SparseError ?xb_NoNumber ?a0 ?l0 ?q0 ?k0 ?a1 ?l1 ?q1 ?k1 ?a2 ?l2 ?q2 ?k2 ?a3 ?l3 ?q3 ?k3 ?a4 ?l4 ?q4 ?k4 ?a5 ?l5 ?q5 ?k5 ?a6 ?l6 ?q6 ?k6 ?a7 ?l7 ?q7 ?k7 ?a8 ?l8 ?q8 ?k8
    (case z_ValueError => k_is)
    (case z_bool => k_is)
    (case z_int => k_is)
    (case z_isinstance => k_is)
    (case z_len => k_is)
    (case z_list => k_is)
    (case z_range => k_is)
    (case g_SparseError => k_is)
    (case g_NoNumber => k_is)
    (case g_NoForm => k_is)
    (case g_NoText => k_is)
    (case g_NoStep => k_is)
    (case g_TooLittle => k_is)
    (case x_NoNumber => k_exc)
    (case k_NoNumber => k_is)
    (case b_NoNumber => k_is)
    (case t_NoNumber => k_is)
    (case ehg_NoNumber => k_is)
    (case ehk_NoNumber => k_is)
    (case ehd_NoNumber => k_is)
    (case eha_NoNumber => k_is)
    (case ehn_NoNumber => k_is)
    (case eht_NoNumber => k_is)
    (case ehm_NoNumber => k_is)
    (case s_NoNumber_NoForm => k_is)
    (case s_NoNumber_NoNumber => k_is)
    (case s_NoNumber_NoStep => k_is)
    (case s_NoNumber_NoText => k_is)
    (case s_NoNumber_SparseError => k_is)
    (case s_NoNumber_TooLittle => k_is)
    (case sv_NoNumber => k_is)
    (case ne_NoNumber_NoForm => decide)
    (case ne_NoNumber_NoText => decide)
    (case ne_NoNumber_NoStep => decide)
    (case ne_NoNumber_TooLittle => decide)
    (case xd_NoForm => k_is)
    (case xt_NoForm => k_is)
    (case xd_NoNumber => k_is)
    (case xt_NoNumber => k_is)
    (case xd_NoStep => k_is)
    (case xt_NoStep => k_is)
    (case xd_NoText => k_is)
    (case xt_NoText => k_is)
    (case xd_SparseError => k_is)
    (case xt_SparseError => k_is)
    (case xd_TooLittle => k_is)
    (case xt_TooLittle => k_is)
    (case xb_SparseError => k_is)
    (case xb_NoNumber => k_is)
    (case a0 => k_is)
    (case l0 => k_is)
    (case q0 => k_is)
    (case k0 => k_is)
    (case a1 => k_is)
    (case l1 => k_is)
    (case q1 => k_is)
    (case k1 => k_is)
    (case a2 => k_is)
    (case l2 => k_is)
    (case q2 => k_is)
    (case k2 => k_is)
    (case a3 => k_is)
    (case l3 => k_is)
    (case q3 => k_is)
    (case k3 => k_is)
    (case a4 => k_is)
    (case l4 => k_is)
    (case q4 => k_is)
    (case k4 => k_is)
    (case a5 => k_is)
    (case l5 => k_is)
    (case q5 => k_is)
    (case k5 => k_is)
    (case a6 => k_is)
    (case l6 => k_is)
    (case q6 => k_is)
    (case k6 => k_is)
    (case a7 => k_is)
    (case l7 => k_is)
    (case q7 => k_is)
    (case k7 => k_is)
    (case a8 => k_is)
    (case l8 => k_is)
    (case q8 => k_is)
    (case k8 => k_is)
