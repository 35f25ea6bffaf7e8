import PyProof.Rows.All
import Wide.All
import OpenK.AllK
import Wide.FinOn
import Open.SpecLaws
import KE.OsGo
import HandS.ForSpec
import HandS.Comp
import HandS.Iter
import HandS.SortRule
import HandS.SortInts
import HandS.TupLe
import HandS.SetFor
import PySem.Challenge.RW_roomstays_s04_lockers
set_option Elab.async false
set_option linter.all false
set_option maxRecDepth 100000
set_option maxHeartbeats 4000000
namespace Rs
open Ks439

/-! ### the stays told by numbers -/
theorem len_staysOf : ∀ nl : List Nat, (staysOf nl).length = nl.length / 2
  | [] => rfl
  | [a] => by show 0 = (0 + 1) / 2; rfl
  | a :: b :: r => by
    show (staysOf r).length + 1 = (r.length + 1 + 1) / 2
    rw [len_staysOf r]; omega
theorem get_staysOf : ∀ (nl : List Nat) (i : Nat), i < nl.length / 2 → (staysOf nl)[i]? = some ⟨nl.getD (2 * i) 0, nl.getD (2 * i + 1) 0⟩
  | [], i, h => by simp at h
  | [_], i, h => by simp at h
  | a :: b :: r, 0, _ => rfl
  | a :: b :: r, i + 1, h => by
    have h' : i < r.length / 2 := by simp only [List.length_cons] at h; omega
    show (staysOf r)[i]? = _
    rw [get_staysOf r i h']
    have e1 : 2 * (i + 1) = 2 * i + 1 + 1 := by omega
    rw [e1]
    rfl
theorem stay_staysOf {nl : List Nat} {i : Nat} (h : i < nl.length / 2) : stay (staysOf nl) i = ⟨nl.getD (2 * i) 0, nl.getD (2 * i + 1) 0⟩ := by
  unfold stay
  rw [List.getD_eq_getElem?_getD, get_staysOf nl i h]
  rfl
theorem all_range {α : Type} (p : α → Bool) (d : α) : ∀ l : List α, l.all p = (List.range l.length).all fun i => p (l.getD i d)
  | [] => rfl
  | a :: r => by
    rw [List.length_cons, List.range_succ_eq_map, List.all_cons, List.all_cons, List.all_map, all_range p d r]
    rfl
/-- whether numbers tell stays -/
def ok (nl : List Nat) : Bool := nl.length % 2 == 0 && decide ((staysOf nl).length ≤ ASKS) && (staysOf nl).all (fun x => decide (x.from_ < x.to_) && decide (x.to_ ≤ HOURS))
theorem given_ok (nl : List Nat) (b : Bool) (f : List Stay → Ans) : given nl b f = if (b && ok nl) = true then f (staysOf nl) else no (-22) := by
  unfold given ok
  simp only [Bool.and_assoc]
theorem ok_odd {nl : List Nat} (h : ¬ nl.length % 2 = 0) : ok nl = false := by
  unfold ok
  have : (nl.length % 2 == 0) = false := by simpa using h
  rw [this]; rfl
theorem ok_long {nl : List Nat} (h : 20 < nl.length) (h2 : nl.length % 2 = 0) : ok nl = false := by
  unfold ok
  have : decide ((staysOf nl).length ≤ ASKS) = false := by
    rw [decide_eq_false_iff_not, len_staysOf]
    show ¬ nl.length / 2 ≤ 10
    omega
  rw [this, Bool.and_false]; rfl
theorem ok_all {nl : List Nat} (h : nl.length % 2 = 0) (h2 : nl.length ≤ 20) : ok nl = ((List.range (nl.length / 2)).map fun i => decide (nl.getD (2 * i) 0 < nl.getD (2 * i + 1) 0) && decide (nl.getD (2 * i + 1) 0 ≤ 24)).all id := by
  unfold ok
  have e1 : (nl.length % 2 == 0) = true := by simpa using h
  have e2 : decide ((staysOf nl).length ≤ ASKS) = true := by
    rw [decide_eq_true_eq, len_staysOf]
    show nl.length / 2 ≤ 10
    omega
  rw [e1, e2, Bool.and_self, Bool.true_and, all_range _ ⟨0, 0⟩, len_staysOf, List.all_map]
  have key : ∀ i ∈ List.range (nl.length / 2), (fun i => decide (((staysOf nl).getD i ⟨0, 0⟩).from_ < ((staysOf nl).getD i ⟨0, 0⟩).to_) && decide (((staysOf nl).getD i ⟨0, 0⟩).to_ ≤ HOURS)) i = (id ∘ fun i => decide (nl.getD (2 * i) 0 < nl.getD (2 * i + 1) 0) && decide (nl.getD (2 * i + 1) 0 ≤ 24)) i := by
    intro i hi
    have e : (staysOf nl).getD i ⟨0, 0⟩ = ⟨nl.getD (2 * i) 0, nl.getD (2 * i + 1) 0⟩ := stay_staysOf (List.mem_range.mp hi)
    simp only [e, Function.comp_apply, id]
    rfl
  rw [Bool.eq_iff_iff, List.all_eq_true, List.all_eq_true]
  exact ⟨fun q i hi => (key i hi).symm.trans (q i hi), fun q i hi => (key i hi).trans (q i hi)⟩
theorem ok_facts {nl : List Nat} (h : ok nl = true) : nl.length % 2 = 0 ∧ nl.length ≤ 20 := by
  by_cases h1 : nl.length % 2 = 0
  · by_cases h2 : 20 < nl.length
    · rw [ok_long h2 h1] at h; cases h
    · exact ⟨h1, by omega⟩
  · rw [ok_odd h1] at h; cases h

/-! ### the order in which they ask -/
def le (l : List Stay) (i j : Nat) : Prop := (stay l i).from_ < (stay l j).from_ ∨ ((stay l i).from_ = (stay l j).from_ ∧ i ≤ j)
theorem put_perm (l : List Stay) (i : Nat) : ∀ r : List Nat, (put l i r).Perm (i :: r)
  | [] => List.Perm.refl _
  | j :: r => by
    unfold put
    split
    · exact List.Perm.refl _
    · exact ((put_perm l i r).cons j).trans (List.Perm.swap i j r)
theorem put_sorted (l : List Stay) (i : Nat) : ∀ r : List Nat, r.Pairwise (le l) → (put l i r).Pairwise (le l)
  | [], _ => by unfold put; exact List.pairwise_singleton _ _
  | j :: r, h => by
    unfold put
    obtain ⟨h1, h2⟩ := List.pairwise_cons.mp h
    split
    · rename_i c
      refine List.pairwise_cons.mpr ⟨fun a ha => ?_, h⟩
      rcases List.mem_cons.mp ha with rfl | ha
      · unfold le; omega
      · have := h1 a ha
        unfold le at *; omega
    · rename_i c
      refine List.pairwise_cons.mpr ⟨fun a ha => ?_, put_sorted l i r h2⟩
      rcases List.mem_cons.mp ((put_perm l i r).mem_iff.mp ha) with rfl | ha
      · unfold le; omega
      · exact h1 a ha
theorem fold_put (l : List Stay) : ∀ is : List Nat, (is.foldr (put l) []).Perm is ∧ (is.foldr (put l) []).Pairwise (le l)
  | [] => ⟨List.Perm.refl _, List.Pairwise.nil⟩
  | i :: r => by
    obtain ⟨h1, h2⟩ := fold_put l r
    exact ⟨(put_perm l i _).trans (h1.cons i), put_sorted l i _ h2⟩
theorem inOrder_perm (l : List Stay) : (inOrder l).Perm (List.range l.length) := (fold_put l _).1
theorem inOrder_unique {l : List Stay} {is : List Nat} (hp : is.Perm (List.range l.length)) (hs : is.Pairwise (le l)) : is = inOrder l := by
  refine List.Perm.eq_of_pairwise (le := le l) (fun a b _ _ h1 h2 => ?_) hs (fold_put l _).2 (hp.trans (inOrder_perm l).symm)
  unfold le at *; omega
theorem inOrder_lt {l : List Stay} {i : Nat} (h : i ∈ inOrder l) : i < l.length := List.mem_range.mp ((inOrder_perm l).mem_iff.mp h)
theorem inOrder_nodup (l : List Stay) : (inOrder l).Nodup := (inOrder_perm l).symm.nodup List.nodup_range
theorem inOrder_len (l : List Stay) : (inOrder l).length = l.length := by rw [(inOrder_perm l).length_eq, List.length_range]

/-! ### one more of a list -/
theorem take_more {α : Type} {l : List α} {i : Nat} {x : α} (h : l[i]? = some x) : l.take (i + 1) = l.take i ++ [x] := by
  rw [List.take_add_one, h]; rfl
theorem fold_more {α β : Type} {f : β → α → β} {b : β} {l : List α} {i : Nat} {x : α} (h : l[i]? = some x) : (l.take (i + 1)).foldl f b = f ((l.take i).foldl f b) x := by
  rw [take_more h, List.foldl_append]; rfl

/-! ### who's let in -/
/-- those let in, one behind another -/
def lin (l : List Stay) (c : Nat) : List Nat := (inOrder l).foldl (step l c) []
theorem longest_mem {l : List Stay} {s : List Nat} {j : Nat} (h : longest l s = some j) : j ∈ s := by
  cases s with
  | nil => cases h
  | cons a r =>
    have key : ∀ (r : List Nat) (b : Nat), r.foldl (fun b i => if (stay l b).to_ < (stay l i).to_ ∨ ((stay l b).to_ = (stay l i).to_ ∧ b < i) then i else b) b ∈ b :: r := by
      intro r
      induction r with
      | nil => intro b; exact List.mem_cons_self
      | cons x r ih =>
        intro b
        rw [List.foldl_cons]
        split
        · exact List.mem_cons_of_mem _ (ih x)
        · rcases List.mem_cons.mp (ih b) with e | m
          · rw [e]; exact List.mem_cons_self
          · exact List.mem_cons_of_mem _ (List.mem_cons_of_mem _ m)
    have e := Option.some.inj h
    rw [← e]
    exact key r a
/-- what a turn does, told by its two ways -/
theorem step_fits {l : List Stay} {c : Nat} {s : List Nat} {i : Nat} (h : ((s ++ [i]).filter (there l (stay l i).from_)).length ≤ c) : step l c s i = s ++ [i] := by
  unfold step
  exact if_pos h
theorem step_out {l : List Stay} {c : Nat} {s : List Nat} {i j : Nat} (h : ¬ ((s ++ [i]).filter (there l (stay l i).from_)).length ≤ c) (hj : longest l ((s ++ [i]).filter (there l (stay l i).from_)) = some j) : step l c s i = (s ++ [i]).filter fun k => k != j := by
  unfold step
  show (if _ then _ else _) = _
  rw [if_neg h, hj]
theorem longest_some {l : List Stay} {s : List Nat} (h : s ≠ []) : ∃ j, longest l s = some j := by
  cases s with
  | nil => exact absurd rfl h
  | cons a r => exact ⟨_, rfl⟩
theorem step_sub {l : List Stay} {c : Nat} {s : List Nat} {i : Nat} : (step l c s i).Sublist (s ++ [i]) := by
  by_cases h : ((s ++ [i]).filter (there l (stay l i).from_)).length ≤ c
  · rw [step_fits h]; exact List.Sublist.refl _
  · have ne : (s ++ [i]).filter (there l (stay l i).from_) ≠ [] := by
      intro e; rw [e] at h; exact h (Nat.zero_le _)
    obtain ⟨j, hj⟩ := longest_some (l := l) ne
    rw [step_out h hj]
    exact List.filter_sublist
theorem fold_sub (l : List Stay) (c : Nat) : ∀ (is s : List Nat), (is.foldl (step l c) s).Sublist (s ++ is)
  | [], s => by rw [List.append_nil]; exact List.Sublist.refl _
  | i :: r, s => by
    rw [List.foldl_cons]
    have h1 := fold_sub l c r (step l c s i)
    have h2 : (step l c s i ++ r).Sublist ((s ++ [i]) ++ r) := List.Sublist.append step_sub (List.Sublist.refl _)
    rw [List.append_assoc] at h2
    exact h1.trans h2
theorem part_sub (l : List Stay) (c i : Nat) : (((inOrder l).take i).foldl (step l c) []).Sublist (inOrder l) := by
  have h := fold_sub l c ((inOrder l).take i) []
  rw [List.nil_append] at h
  exact h.trans (List.take_sublist _ _)
theorem part_lt {l : List Stay} {c i k : Nat} (h : k ∈ ((inOrder l).take i).foldl (step l c) []) : k < l.length := inOrder_lt ((part_sub l c i).mem h)
theorem part_len (l : List Stay) (c i : Nat) : (((inOrder l).take i).foldl (step l c) []).length ≤ l.length := by
  have h := (part_sub l c i).length_le
  rw [inOrder_len] at h
  exact h
theorem lin_sub (l : List Stay) (c : Nat) : (lin l c).Sublist (inOrder l) := by
  have h := fold_sub l c (inOrder l) []
  rwa [List.nil_append] at h
theorem lin_nodup (l : List Stay) (c : Nat) : (lin l c).Nodup := (lin_sub l c).nodup (inOrder_nodup l)
theorem lin_lt {l : List Stay} {c k : Nat} (h : k ∈ lin l c) : k < l.length := inOrder_lt ((lin_sub l c).mem h)
theorem letIn_lin (l : List Stay) (c : Nat) : letIn l c = (List.range l.length).filter fun i => (lin l c).contains i := rfl
theorem lin_perm (l : List Stay) (c : Nat) : (lin l c).Perm (letIn l c) := by
  rw [letIn_lin]
  refine (List.perm_ext_iff_of_nodup (lin_nodup l c) (List.nodup_range.filter _)).mpr fun a => ?_
  rw [List.mem_filter, List.mem_range]
  constructor
  · intro h
    exact ⟨lin_lt h, by simpa using h⟩
  · intro h
    simpa using h.2
theorem letIn_sorted {l : List Stay} {c : Nat} {ns : List Int} (hp : ns.Perm ((lin l c).map fun (n : Nat) => (n : Int))) (hs : ns.Pairwise (· ≤ ·)) : ns = (letIn l c).map fun (n : Nat) => (n : Int) := by
  refine List.Perm.eq_of_pairwise (le := (· ≤ ·)) (fun a b _ _ h1 h2 => Int.le_antisymm h1 h2) hs ?_ (hp.trans ((lin_perm l c).map _))
  rw [List.pairwise_map, letIn_lin]
  refine List.Pairwise.filter _ ?_
  exact List.Pairwise.imp (fun h => Int.ofNat_le.mpr (Nat.le_of_lt h)) List.pairwise_lt_range
theorem letIn_len (l : List Stay) (c : Nat) : (letIn l c).length = (lin l c).length := (lin_perm l c).length_eq.symm

/-! ### the peak -/
theorem fold_max : ∀ (L : List Nat) (b : Nat), (L.foldl max b = b ∨ L.foldl max b ∈ L) ∧ b ≤ L.foldl max b ∧ ∀ x ∈ L, x ≤ L.foldl max b
  | [], b => ⟨.inl rfl, Nat.le_refl _, fun _ h => by cases h⟩
  | a :: r, b => by
    rw [List.foldl_cons]
    obtain ⟨h1, h2, h3⟩ := fold_max r (max b a)
    refine ⟨?_, by omega, fun x hx => ?_⟩
    · rcases h1 with h1 | h1
      · rw [h1]
        by_cases c : a ≤ b
        · left; omega
        · right; rw [show max b a = a by omega]; exact List.mem_cons_self
      · right; exact List.mem_cons_of_mem _ h1
    · rcases List.mem_cons.mp hx with rfl | hx
      · omega
      · exact h3 x hx
/-- the most of some that are there in any hour -/
def top (l : List Stay) (s : List Nat) : Nat := ((List.range HOURS).map (count l s)).foldl max 0
theorem top_of {l : List Stay} {s : List Nat} {m : Int} (h1 : m ∈ (List.range 24).map fun h => ((count l s h : Nat) : Int)) (h2 : ∀ x ∈ (List.range 24).map fun h => ((count l s h : Nat) : Int), x ≤ m) : m = (top l s : Nat) := by
  obtain ⟨h, hh, e⟩ := List.mem_map.mp h1
  obtain ⟨q1, _, q3⟩ := fold_max ((List.range HOURS).map (count l s)) 0
  have a : count l s h ≤ top l s := q3 _ (List.mem_map.mpr ⟨h, hh, rfl⟩)
  have b : top l s ≤ count l s h := by
    rcases q1 with q1 | q1
    · show List.foldl max 0 _ ≤ _
      rw [q1]; exact Nat.zero_le _
    · obtain ⟨h', hh', e'⟩ := List.mem_map.mp q1
      have z := h2 _ (List.mem_map.mpr ⟨h', hh', rfl⟩)
      rw [← e] at z
      have z' : count l s h' ≤ count l s h := Int.ofNat_le.mp z
      show List.foldl max 0 _ ≤ _
      rw [← e']; exact z'
  omega
theorem top_peak (l : List Stay) : top l (List.range l.length) = peak l := rfl
theorem top_le (l : List Stay) (s : List Nat) (c : Nat) : decide (((top l s : Nat) : Int) ≤ (c : Int)) = allowed l c s := by
  obtain ⟨q1, _, q3⟩ := fold_max ((List.range HOURS).map (count l s)) 0
  rw [Bool.eq_iff_iff, decide_eq_true_eq]
  unfold allowed
  rw [List.all_eq_true]
  constructor
  · intro h x hx
    have z : count l s x ≤ top l s := q3 _ (List.mem_map.mpr ⟨x, hx, rfl⟩)
    rw [decide_eq_true_eq]; omega
  · intro h
    rcases q1 with q1 | q1
    · have e : top l s = 0 := q1
      rw [e]; omega
    · obtain ⟨x, hx, e⟩ := List.mem_map.mp q1
      have z := h x hx
      rw [decide_eq_true_eq] at z
      have e : count l s x = top l s := e
      omega

/-! ### some, different numbers of stays -/
/-- whether some are refused, as the specification says it -/
def bad (n : Nat) (x : List Nat) : Prop := x.any (fun i => decide (n ≤ i)) = true ∨ (List.range x.length).any (fun i => (List.range x.length).any fun j => i != j && x.getD i 0 == x.getD j 0) = true
instance (n : Nat) (x : List Nat) : Decidable (bad n x) := by unfold bad; infer_instance
theorem getD_in {x : List Nat} {i : Nat} (h : i < x.length) : x.getD i 0 = x[i] := by
  rw [List.getD_eq_getElem?_getD, List.getElem?_eq_getElem h]; rfl
theorem nodup_no {x : List Nat} : x.Nodup ↔ (List.range x.length).any (fun i => (List.range x.length).any fun j => i != j && x.getD i 0 == x.getD j 0) = false := by
  rw [List.nodup_iff_pairwise_ne, List.pairwise_iff_getElem, Bool.eq_false_iff, ne_eq, List.any_eq_true]
  constructor
  · rintro h ⟨i, hi, q⟩
    rw [List.any_eq_true] at q
    obtain ⟨j, hj, q⟩ := q
    rw [List.mem_range] at hi hj
    rw [Bool.and_eq_true] at q
    have n : i ≠ j := by simpa using q.1
    have e : x.getD i 0 = x.getD j 0 := by simpa using q.2
    rw [getD_in hi, getD_in hj] at e
    rcases Nat.lt_or_gt_of_ne n with c | c
    · exact h i j hi hj c e
    · exact h j i hj hi c e.symm
  · intro h i j hi hj c e
    refine h ⟨i, List.mem_range.mpr hi, ?_⟩
    rw [List.any_eq_true]
    refine ⟨j, List.mem_range.mpr hj, ?_⟩
    rw [getD_in hi, getD_in hj, e]
    simp
    omega
theorem bad_iff (n : Nat) (x : List Nat) : bad n x ↔ ¬ ((∀ i ∈ x, i < n) ∧ x.Nodup) := by
  unfold bad
  rw [nodup_no, List.any_eq_true]
  constructor
  · rintro (⟨i, hi, q⟩ | q) ⟨h1, h2⟩
    · have := h1 i hi
      rw [decide_eq_true_eq] at q; omega
    · rw [q] at h2; cases h2
  · intro h
    by_cases h1 : ∀ i ∈ x, i < n
    · right
      cases e : (List.range x.length).any (fun i => (List.range x.length).any fun j => i != j && x.getD i 0 == x.getD j 0) with
      | true => rfl
      | false => exact absurd ⟨h1, e⟩ h
    · left
      rw [Classical.not_forall] at h1
      obtain ⟨i, h1⟩ := h1
      rw [Classical.not_imp] at h1
      exact ⟨i, h1.1, by rw [decide_eq_true_eq]; omega⟩
/-- what are_different answers -/
def diff (n : Nat) (x : List Nat) : Bool := if (x.map fun i => decide (i < n)).all id = true then !((x.map fun i => decide (1 < x.count i)).any id) else false
theorem diff_bad (n : Nat) (x : List Nat) : diff n x = !decide (bad n x) := by
  have e : decide (bad n x) = !decide ((∀ i ∈ x, i < n) ∧ x.Nodup) := by
    rw [Bool.eq_iff_iff, decide_eq_true_eq, bad_iff, Bool.not_eq_true', decide_eq_false_iff_not]
  rw [e, Bool.not_not]
  unfold diff
  by_cases h1 : ∀ i ∈ x, i < n
  · have a : (x.map fun i => decide (i < n)).all id = true := by
      rw [List.all_map, List.all_eq_true]
      intro i hi
      simpa using h1 i hi
    rw [if_pos a]
    by_cases h2 : x.Nodup
    · rw [decide_eq_true (show (∀ i ∈ x, i < n) ∧ x.Nodup from ⟨h1, h2⟩), Bool.not_eq_true', Bool.eq_false_iff, ne_eq, List.any_map, List.any_eq_true]
      rintro ⟨i, hi, q⟩
      have z := List.nodup_iff_count.mp h2 i
      simp at q
      omega
    · rw [decide_eq_false (show ¬ ((∀ i ∈ x, i < n) ∧ x.Nodup) from fun q => h2 q.2), Bool.not_eq_false', List.any_map, List.any_eq_true]
      rw [List.nodup_iff_count, Classical.not_forall] at h2
      obtain ⟨i, hi⟩ := h2
      refine ⟨i, ?_, ?_⟩
      · exact List.count_pos_iff.mp (by omega)
      · simp; omega
  · have a : ¬ (x.map fun i => decide (i < n)).all id = true := by
      rw [List.all_map, List.all_eq_true]
      intro q
      exact h1 fun i hi => by simpa using q i hi
    rw [if_neg a, decide_eq_false (show ¬ ((∀ i ∈ x, i < n) ∧ x.Nodup) from fun q => h1 q.1)]

/-! ### lockers -/
/-- the least number from 0 on that isn't among some -/
def least (t : List Nat) (n : Nat) : Prop := n ∉ t ∧ ∀ k, k < n → k ∈ t
theorem among_le {t : List Nat} {n : Nat} (h : ∀ k, k < n → k ∈ t) : n ≤ t.length := by
  have z := List.Nodup.length_le_of_subset (l₁ := List.range n) (l₂ := t) List.nodup_range (fun k hk => h k (List.mem_range.mp hk))
  rwa [List.length_range] at z
theorem least_find {t : List Nat} {n m : Nat} {p : Nat → Bool} (h : least t n) (hm : t.length ≤ m) (hp : ∀ k, p k = decide (k ∉ t)) : ((List.range (m + 1)).find? p).getD 0 = n := by
  have e : (List.range (m + 1)).find? p = some n := by
    refine List.find?_range_eq_some.mpr ⟨by rw [hp]; exact decide_eq_true h.1, List.mem_range.mpr ?_, fun j hj => ?_⟩
    · have := among_le h.2
      omega
    · rw [hp, decide_eq_false (fun q => q (h.2 j hj))]; rfl
  rw [e]; rfl
/-- the lockers given to the first of them -/
def got (l : List Stay) (i : Nat) : List (Nat × Nat) := ((inOrder l).take i).foldl (fun got i => got ++ [(i, free l got i)]) []
theorem got_fst (l : List Stay) : ∀ (is : List Nat) (g : List (Nat × Nat)), (is.foldl (fun got i => got ++ [(i, free l got i)]) g).map (·.1) = g.map (·.1) ++ is
  | [], g => by rw [List.append_nil]; rfl
  | i :: r, g => by
    rw [List.foldl_cons, got_fst l r, List.map_append, List.append_assoc]
    rfl
theorem got_keys (l : List Stay) (i : Nat) : (got l i).map (·.1) = (inOrder l).take i := got_fst l _ []
theorem got_more {l : List Stay} {i k : Nat} (h : (inOrder l)[i]? = some k) : got l (i + 1) = got l i ++ [(k, free l (got l i) k)] := fold_more h
theorem got_all (l : List Stay) : got l (inOrder l).length = lockers l := by
  unfold got
  rw [List.take_length]
  rfl
/-- the locker of a stay, if it has one -/
def lk (g : List (Nat × Nat)) (k : Nat) : Option Nat := (g.find? fun p => p.1 == k).map (·.2)
theorem lk_new {g : List (Nat × Nat)} {k v : Nat} (h : k ∉ g.map (·.1)) : lk (g ++ [(k, v)]) k = some v := by
  unfold lk
  have e : g.find? (fun p => p.1 == k) = none := by
    rw [List.find?_eq_none]
    intro p hp q
    exact h (List.mem_map.mpr ⟨p, hp, by simpa using q⟩)
  rw [List.find?_append, e]
  simp
theorem lk_old {g : List (Nat × Nat)} {k j v : Nat} (h : j ≠ k) : lk (g ++ [(k, v)]) j = lk g j := by
  unfold lk
  rw [List.find?_append]
  have e : [(k, v)].find? (fun p => p.1 == j) = none := by
    rw [List.find?_eq_none]
    intro p hp q
    rw [List.mem_singleton] at hp
    subst hp
    exact h (eq_of_beq (show (k == j) = true from q)).symm
  rw [e, Option.or_none]
theorem lk_mem {g : List (Nat × Nat)} {k : Nat} (h : k ∈ g.map (·.1)) : ∃ v, lk g k = some v := by
  unfold lk
  cases e : g.find? (fun p => p.1 == k) with
  | none =>
    rw [List.find?_eq_none] at e
    obtain ⟨p, hp, q⟩ := List.mem_map.mp h
    exact absurd (by simpa using q) (e p hp)
  | some p => exact ⟨p.2, rfl⟩
theorem lk_of {g : List (Nat × Nat)} (nd : (g.map (·.1)).Nodup) {p : Nat × Nat} (h : p ∈ g) : lk g p.1 = some p.2 := by
  unfold lk
  induction g with
  | nil => cases h
  | cons a r ih =>
    rw [List.map_cons, List.nodup_cons] at nd
    rw [List.find?_cons]
    rcases List.mem_cons.mp h with rfl | h
    · simp
    · have n : (a.1 == p.1) = false := by
        rw [beq_eq_false_iff_ne]
        intro e
        exact nd.1 (List.mem_map.mpr ⟨p, h, e.symm⟩)
      rw [n]
      exact ih nd.2 h
theorem lockerOf_lk (l : List Stay) (k : Nat) : lockerOf l k = (lk (lockers l) k).getD 0 := by
  unfold lockerOf lk
  cases (lockers l).find? fun g => g.1 == k <;> rfl
/-- the numbers of lockers that those who are there have -/
def taken (l : List Stay) (g : List (Nat × Nat)) (h : Nat) : List Nat := ((g.map (·.1)).filter (there l h)).map fun k => (lk g k).getD 0
theorem taken_len (l : List Stay) (g : List (Nat × Nat)) (h : Nat) : (taken l g h).length ≤ g.length := by
  unfold taken
  rw [List.length_map]
  refine Nat.le_trans (List.length_filter_le _ _) ?_
  rw [List.length_map]
  exact Nat.le_refl _
theorem free_least {l : List Stay} {g : List (Nat × Nat)} {i n : Nat} (nd : (g.map (·.1)).Nodup) (h : least (taken l g (stay l i).from_) n) : free l g i = n := by
  unfold free
  refine least_find h (taken_len l g _) fun k => ?_
  have e : (g.any fun p => p.2 == k && there l (stay l i).from_ p.1) = decide (k ∈ taken l g (stay l i).from_) := by
    rw [Bool.eq_iff_iff, decide_eq_true_eq, List.any_eq_true]
    unfold taken
    rw [List.mem_map]
    constructor
    · rintro ⟨p, hp, q⟩
      rw [Bool.and_eq_true] at q
      refine ⟨p.1, List.mem_filter.mpr ⟨List.mem_map.mpr ⟨p, hp, rfl⟩, q.2⟩, ?_⟩
      rw [lk_of nd hp]
      simpa using q.1
    · rintro ⟨a, ha, q⟩
      obtain ⟨h1, h2⟩ := List.mem_filter.mp ha
      obtain ⟨p, hp, rfl⟩ := List.mem_map.mp h1
      refine ⟨p, hp, ?_⟩
      rw [lk_of nd hp] at q
      rw [Bool.and_eq_true]
      exact ⟨by simpa using q, h2⟩
  rw [e]
  simp
end Rs
namespace Rs
open PySem PySem.Spec PyProof.Rows L2
open PySem.W (Codec)
/-! ### the text by places -/
def topS (i : Nat) : Stmt := PySem.Challenge.pw_roomstays_s04_lockers.main.body.getD i (.Pass ⟨0, 0, 0, 0⟩)
abbrev sInit : Stmt := inClass (topS 3) 0
abbrev sHas : Stmt := inClass (topS 3) 1
abbrev sAre : Stmt := topS 4
abbrev sOf : Stmt := topS 5
abbrev sThere : Stmt := topS 7
/-! ### the heap -/
theorem lk_here {k : Str} {v : V} {r : List (Str × V)} : List.lookup k ((k, v) :: r) = some v := by
  have e : (k == k) = true := beq_self_eq_true k
  simp only [List.lookup, e]
theorem lk_past {k g : Str} {v : V} {r : List (Str × V)} (h : (k == g) = false) : List.lookup k ((g, v) :: r) = List.lookup k r := by
  simp only [List.lookup, h]
theorem put_past {f g : Str} {v x : V} {r : List (Str × V)} (h : ¬ g = f) : putF f v ((g, x) :: r) = (g, x) :: putF f v r := if_neg h
theorem same_upd {H : Hp} {p : Addr} {o : HO} (h : H p = none) : Same H (upd H p o) := fun b x e => by
  rw [upd_ne (ne_of_none e h)]
  exact e
/-- what was tracked ahead of a thing's making stands when that thing is written anew -/
theorem same_put {H H' : Hp} {p : Addr} {o : HO} (s : Same H H') (h : H p = none) : Same H (upd H' p o) := fun b x e => by
  rw [upd_ne (ne_of_none e h)]
  exact s b x e
/-- a stay's own: its number, its hour, the one up to which -/
def sF (k : Nat) (s : Ks439.Stay) : List (Str × V) := [("number", .int (k : Int)), ("begin", .int (s.from_ : Int)), ("end", .int (s.to_ : Int))]
theorem sF_number (k : Nat) (s : Ks439.Stay) : (sF k s).lookup ("number" : Str) = some (.int (k : Int)) := lk_here
theorem sF_begin (k : Nat) (s : Ks439.Stay) : (sF k s).lookup ("begin" : Str) = some (.int (s.from_ : Int)) := (lk_past (by decide +kernel)).trans lk_here
theorem sF_end (k : Nat) (s : Ks439.Stay) : (sF k s).lookup ("end" : Str) = some (.int (s.to_ : Int)) := (lk_past (by decide +kernel)).trans ((lk_past (by decide +kernel)).trans lk_here)
theorem sF_has (k : Nat) (s : Ks439.Stay) : (sF k s).lookup ("has" : Str) = none := (lk_past (by decide +kernel)).trans ((lk_past (by decide +kernel)).trans ((lk_past (by decide +kernel)).trans rfl))
theorem sF_new (k : Nat) (s : Ks439.Stay) : putF "end" (.int (s.to_ : Int)) (putF "begin" (.int (s.from_ : Int)) (putF "number" (.int (k : Int)) [])) = sF k s := by
  have e1 : putF "number" (.int (k : Int)) [] = [(("number" : Str), V.int (k : Int))] := rfl
  have e2 : putF "begin" (.int (s.from_ : Int)) [(("number" : Str), V.int (k : Int))] = [(("number" : Str), V.int (k : Int)), ("begin", .int (s.from_ : Int))] := (put_past (by decide +kernel)).trans rfl
  rw [e1, e2]
  exact (put_past (by decide +kernel)).trans (congrArg _ ((put_past (by decide +kernel)).trans rfl))
/-- the stays l stand, one by one, at A -/
structure Wd (C : Addr) (H : Hp) (A : Nat → Addr) (l : List Ks439.Stay) : Prop where
  at_ : ∀ i, i < l.length → ∃ dx, H (A i) = some (.ins C dx (sF i (Ks439.stay l i)))
  few : l.length ≤ 10
theorem Wd.same {C : Addr} {H H' : Hp} {A : Nat → Addr} {l : List Ks439.Stay} (W : Wd C H A l) (s : Same H H') : Wd C H' A l := ⟨fun i h => by
  obtain ⟨dx, e⟩ := W.at_ i h
  exact ⟨dx, s _ _ e⟩, W.few⟩
/-- stays by their numbers -/
def rf (A : Nat → Addr) (is : List Nat) : List V := is.map fun i => V.ref (A i)
/-- numbers -/
def vI (ns : List Nat) : List V := ns.map fun (n : Nat) => V.int (n : Int)
theorem rf_at {A : Nat → Addr} {is : List Nat} {j : Nat} {x : V} (h : (rf A is)[j]? = some x) : ∃ i, is[j]? = some i ∧ x = V.ref (A i) := by
  unfold rf at h
  rw [List.getElem?_map] at h
  cases e : is[j]? with
  | none => rw [e] at h; cases h
  | some i => rw [e] at h; exact ⟨i, rfl, (Option.some.inj h).symm⟩
theorem vI_at {is : List Nat} {j : Nat} {x : V} (h : (vI is)[j]? = some x) : ∃ i, is[j]? = some i ∧ x = V.int (i : Int) := by
  unfold vI at h
  rw [List.getElem?_map] at h
  cases e : is[j]? with
  | none => rw [e] at h; cases h
  | some i => rw [e] at h; exact ⟨i, rfl, (Option.some.inj h).symm⟩
theorem rf_len (A : Nat → Addr) (is : List Nat) : (rf A is).length = is.length := List.length_map ..
theorem vI_len (is : List Nat) : (vI is).length = is.length := List.length_map ..
theorem mem_at {is : List Nat} {j i : Nat} (h : is[j]? = some i) : i ∈ is := List.mem_of_getElem? h
theorem rf_snoc (B : Nat → Addr) (i : Nat) (t : Addr) : rf (fun j => if j = i then t else B j) (List.range (i + 1)) = rf B (List.range i) ++ [V.ref t] := by
  unfold rf
  rw [List.range_succ, List.map_append]
  have e : (List.range i).map (fun j => V.ref (if j = i then t else B j)) = (List.range i).map fun j => V.ref (B j) := List.map_congr_left fun j hj => by
    rw [if_neg (Nat.ne_of_lt (List.mem_range.mp hj))]
  show (List.range i).map (fun j => V.ref (if j = i then t else B j)) ++ [V.ref (if i = i then t else B i)] = _
  rw [e, if_pos rfl]
theorem nats_of {hi : Int} : ∀ {ns : List Int}, ns.all (PySem.W.Codec.inInt 0 hi) = true → vI (Ks439Neutral.nats ns) = ns.map V.int ∧ (Ks439Neutral.nats ns).length = ns.length
  | [], _ => ⟨rfl, rfl⟩
  | z :: r, h => by
    rw [List.all_cons, Bool.and_eq_true] at h
    obtain ⟨h1, h2⟩ := nats_of h.2
    have z0 := (PySem.W.Codec.inInt_iff.mp h.1).1
    refine ⟨?_, congrArg (· + 1) h2⟩
    show V.int (z.toNat : Int) :: vI (Ks439Neutral.nats r) = V.int z :: r.map V.int
    rw [h1, Int.toNat_of_nonneg z0]
/-- an answer of rows, as values -/
theorem rows_out (l : List Nat) : (Ks439Neutral.out (Ks439.rows l)).map V.int = V.int (l.length : Nat) :: vI l := by
  show V.int _ :: (l.map Int.ofNat).map V.int = _
  rw [List.map_map]
  rfl
/-! ### rules whose reading names K, for a comprehension's block -/
theorem pe_fldK {X : Cx} (K : PySem.W.Frag) {e : Expr} {f : Str} {pos : Pos} {ta : TE} (hK : X.K = K) (h : PE X e ta) (hb : attributeBase e f X.env (eval e X.env) = eval e X.env) : PE X (.Attribute e f pos) (tFld K ta f) := by
  subst hK
  exact pe_fld h hb
theorem pg_tupK {X : Cx} (K : PySem.W.Frag) {es : List Expr} {k : Nat} {pos : Pos} {t : TGs} {n : Nat} (hK : X.K = K) (hc : X.calm = true) (h : PGs X es t) (hn : (assignEach es X.env).length = n) (hst : (assignEach es X.env).findIdx? (·.1) = none) : PG X (.Tuple es k pos) (gTup K n t) := by
  subst hK
  exact pg_tup hc h hn hst
/-- len of a list or tuple -/
def rLenK (K : PySem.W.Frag) : List V → Hp → VK → Prop := fun xs H Q => ∃ p ys, xs = [.ref p] ∧ (SqL K H p ys ∨ SqT K H p ys) ∧ Q (.int ys.length) H
theorem call_lenK {X : Cx} (K : PySem.W.Frag) (hK : X.K = K) : CallR X (.builtin "len") (rLenK K) := by
  subst hK
  exact call_len_seq
theorem yes_mk {σ : L2.St} {H : Hp} {Q : Bool → Hp → Prop} (h : Q true H) : tYes σ H Q := h
/-! ### the promises -/
def spInit (C : Addr) : Sp := fun vs H Q _ => ∃ (p dx : Addr) (k : Nat) (s : Ks439.Stay), vs = [.ref p, .int (k : Int), .int (s.from_ : Int), .int (s.to_ : Int)] ∧ H p = some (.ins C dx []) ∧
  ∀ H' : Hp, (∃ dx, H' p = some (.ins C dx (sF k s))) → (∀ b o, H b = some o → b ≠ p → H' b = some o) → Q .non H'
def spHas (C : Addr) : Sp := fun vs H Q _ => ∃ (a dx : Addr) (k : Nat) (s : Ks439.Stay) (h : Nat), vs = [.ref a, .int (h : Int)] ∧ H a = some (.ins C dx (sF k s)) ∧ Q (.bl (decide (s.from_ ≤ h) && decide (h < s.to_))) H
def spThere (K : PySem.W.Frag) (C : Addr) : Sp := fun vs H Q _ => ∃ (a : Addr) (A : Nat → Addr) (l : List Ks439.Stay) (is : List Nat) (h : Nat), vs = [.ref a, .int (h : Int)] ∧ SqL K H a (rf A is) ∧ Wd C H A l ∧ (∀ i ∈ is, i < l.length) ∧ is.length ≤ 1000 ∧
  ∀ (H' : Hp) (p : Addr), Same H H' → H p = none → H' p = some (.lst (rf A (is.filter (Ks439.there l h)))) → Q (.ref p) H'
/-- what the top has written -/
structure Txt (K : PySem.W.Frag) (mg : Str → Option Value) (C : Addr) : Prop where
  cl : Cls K C
  nN : NoAttr K C "number"
  nB : NoAttr K C "begin"
  nE : NoAttr K C "end"
  mgC : mg "Stay" = some (.ref C)
  len : mg "len" = none
  range : mg "range" = none
  all : mg "all" = none
section
variable {P : Program} {w : World} {K : PySem.W.Frag} {mg : Str → Option Value} {base : Heap} {C : Addr}
theorem scI : FnScope ["self", "number", "begin", "end"] ["self", "number", "begin", "end"] (defScope sInit) := ⟨rfl, rfl, rfl, by decide +kernel, rfl, by decide +kernel, by decide +kernel⟩
theorem ok_init {f : Addr} {fd : FuncData} (F : Fun K "__init__" "Stay.__init__" sInit f fd) (T : Txt K mg C) : FnOk P w K mg base CX0 1 f fd ["self", "number", "begin", "end"] (spInit C) := by
  refine F.ok scI (fun vs H Q E h => ?_) (fun cdv A outer s H vs Q E hr h => ?_)
  · obtain ⟨p, dx, k, s, rfl, _⟩ := h
    rfl
  · obtain ⟨p, dx, k, s, rfl, hp, q⟩ := h
    refine ⟨_, pss_cons (ps_fld (pv 0) (pv 1) rfl) (pss_cons (ps_fld (pv 0) (pv 2) rfl) (pss_one (ps_fld (pv 0) (pv 3) rfl))), ?_⟩
    refine ⟨_, rfl, _, rfl, p, C, dx, [], rfl, hp, T.cl, T.nN, (by show 0 < 1000; decide), ?_⟩
    refine ⟨_, rfl, _, rfl, p, C, dx, _, rfl, upd_same, T.cl, T.nB, (by show 1 < 1000; decide), ?_⟩
    refine ⟨_, rfl, _, rfl, p, C, dx, _, rfl, upd_same, T.cl, T.nE, (by show 2 < 1000; decide), ?_⟩
    exact q _ ⟨dx, Eq.trans upd_same (congrArg (fun q => some (HO.ins C dx q)) (sF_new k s))⟩ fun b o e hb => by
      rw [upd_ne hb, upd_ne hb, upd_ne hb]
      exact e
theorem scH : FnScope ["self", "hour"] ["self", "hour"] (defScope sHas) := ⟨rfl, rfl, rfl, by decide +kernel, rfl, by decide +kernel, by decide +kernel⟩
theorem le_nat (a b : Nat) : decide ((a : Int) ≤ (b : Int)) = decide (a ≤ b) := by
  rw [Bool.eq_iff_iff, decide_eq_true_eq, decide_eq_true_eq]; omega
theorem lt_nat (a b : Nat) : decide ((a : Int) < (b : Int)) = decide (a < b) := by
  rw [Bool.eq_iff_iff, decide_eq_true_eq, decide_eq_true_eq]; omega
theorem ok_has {f : Addr} {fd : FuncData} (F : Fun K "has" "Stay.has" sHas f fd) (T : Txt K mg C) : FnOk P w K mg base CX0 1 f fd ["self", "hour"] (spHas C) := by
  refine F.ok scH (fun vs H Q E h => ?_) (fun cdv A outer s H vs Q E hr h => ?_)
  · obtain ⟨p, dx, k, s, h, rfl, _⟩ := h
    rfl
  · obtain ⟨p, dx, k, s, h, rfl, hp, q⟩ := h
    refine ⟨_, pss_one (ps_ret (pe_chain op_le op_lt (pe_fld (pv 0) rfl) (pv 1) (pe_fld (pv 0) rfl))), ?_⟩
    refine ⟨_, rfl, p, C, dx, _, _, rfl, hp, T.cl, T.nB, sF_begin k s, _, rfl, _, _, rfl, rfl, _, rfl, ?_⟩
    rw [le_nat]
    by_cases c : s.from_ ≤ h
    · rw [decide_eq_true c] at q ⊢
      refine iteT ?_
      refine ⟨_, rfl, p, C, dx, _, _, rfl, hp, T.cl, T.nE, sF_end k s, _, _, rfl, rfl, ?_⟩
      show Q (V.bl (decide ((h : Int) < (s.to_ : Int)))) H
      rw [lt_nat]
      rw [Bool.true_and] at q
      exact q
    · rw [decide_eq_false c] at q ⊢
      exact iteF q
theorem scT : FnScope ["stays", "hour", "stay"] ["stays", "hour"] (defScope sThere) := ⟨rfl, rfl, rfl, by decide +kernel, rfl, by decide +kernel, by decide +kernel⟩
theorem ok_there {f fH : Addr} {fd fdH : FuncData} (F : Fun K "there" "there" sThere f fd) (T : Txt K mg C) (GH : FnOk P w K mg base CX0 1 fH fdH ["self", "hour"] (spHas C)) (bH : Binds K fdH ["self", "hour"] []) (mH : Meth K C "has" fH) :
    FnOk P w K mg base CX0 2 f fd ["stays", "hour"] (spThere K C) := by
  refine F.ok scT (fun vs H Q E h => ?_) (fun cdv A outer s H vs Q E hr h => ?_)
  · obtain ⟨a, A, l, is, h, rfl, _⟩ := h
    rfl
  · obtain ⟨a, A, l, is, h, rfl, hS, hW, hlt, hlen, q⟩ := h
    have hr1 : Room 1 _ := hr
    refine ⟨_, pss_one (ps_ret (pe_lc (own := [("stay", 2)]) (g := gName 2) rfl scT.nd (pi_list (pv 0)) (blkOk_by (own := [("stay", 2)]) (N := ["stays", "hour", "stay"]) (sc := defScope sThere) (by decide +kernel))
      (fun _ _ _ _ _ => pg_name (i := 2) scT.nd rfl (Or.inl rfl)) (fun _ _ _ _ _ => pts_one (pt_val (pe_meth (pv 2) T.cl mH GH hr1 bH .nil pass0 (pa_cons (pv 1) pa_nil)))) (fun _ _ _ _ _ => pv 2))), ?_⟩
    refine ⟨_, rfl, a, rfl, ⟨_, hS⟩, fun D hD => lc_list (K := K) (a := a) (xs := rf A is) (fun i H' => Same H H' ∧ H' D = some (.lst (rf A ((is.take i).filter (Ks439.there l h))))) ⟨same_upd hD, upd_same⟩ (fun i H' _ z => z.1.seq hS) ?_ ?_⟩
    · rintro i x H' hi ⟨s1, d1⟩
      obtain ⟨k, hk, rfl⟩ := rf_at hi
      obtain ⟨dx, hx⟩ := (hW.same s1).at_ k (hlt k (mem_at hk))
      refine ⟨rfl, ?_⟩
      refine ⟨_, rfl, A k, dx, _, rfl, hx, sF_has _ _, _, rfl, A k, dx, k, _, h, rfl, hx, _, rfl, ?_⟩
      have e : (decide ((Ks439.stay l k).from_ ≤ h) && decide (h < (Ks439.stay l k).to_)) = Ks439.there l h k := rfl
      rw [e]
      cases c : Ks439.there l h k with
      | true =>
        refine iteT ?_
        refine ⟨_, rfl, _, d1, ?_, same_put s1 hD, ?_⟩
        · rw [rf_len]
          refine Nat.lt_of_le_of_lt (Nat.le_trans (List.length_filter_le _ _) (List.length_take_le' _ _)) (small1000 hlen)
        · rw [upd_same, take_more hk, List.filter_append, List.filter_cons_of_pos c, List.filter_nil]
          unfold rf
          rw [List.map_append]
          rfl
      | false =>
        refine iteF ⟨s1, ?_⟩
        rw [d1, take_more hk, List.filter_append, List.filter_cons_of_neg (by rw [c]; exact Bool.false_ne_true), List.filter_nil, List.append_nil]
    · rintro H' ⟨s1, d1⟩
      rw [rf_len, List.take_length] at d1
      exact q H' D s1 hD d1
end
end Rs
namespace Rs
open PySem PySem.Spec PyProof.Rows L2
open PySem.W (Codec)
/-- stays_of: the stays that numbers tell, at addresses of their own -/
def spOf (K : PySem.W.Frag) (C : Addr) : Sp := fun vs H Q _ => ∃ (a : Addr) (nl : List Nat), vs = [.ref a] ∧ SqL K H a (vI nl) ∧ nl.length ≤ 20 ∧ nl.length % 2 = 0 ∧
  ∀ (H' : Hp) (p : Addr) (A : Nat → Addr), Same H H' → H p = none → Wd C H' A (Ks439.staysOf nl) → H' p = some (.lst (rf A (List.range (Ks439.staysOf nl).length))) → Q (.ref p) H'
/-- are_stays -/
def spAre (K : PySem.W.Frag) : Sp := fun vs H Q _ => ∃ (a : Addr) (nl : List Nat), vs = [.ref a] ∧ SqL K H a (vI nl) ∧ nl.length ≤ 24 ∧ ∀ H' : Hp, Same H H' → Q (.bl (ok nl)) H'
theorem vI_get {nl : List Nat} {j : Nat} (h : j < nl.length) : (vI nl)[j]? = some (.int (nl.getD j 0 : Nat)) := by
  unfold vI
  rw [List.getElem?_map, List.getElem?_eq_getElem h, List.getD_eq_getElem?_getD, List.getElem?_eq_getElem h]
  rfl
/-- over a range with a step -/
theorem lc_step {lo c : Int} {n : Nat} {g : TG} {tt : TT} {te : TE} {vs : List Nat} {σ : L2.St} {H1 : Hp} {D : Addr} {Qd : Hp → Prop} (Pv : Nat → Hp → Prop)
    (h0 : Pv 0 (upd H1 D (.lst [])))
    (hs : ∀ i H, i < n → Pv i H → g (.int (lo + (i : Nat) * c)) (wipe σ vs) H fun σ2 H2 => wipe σ2 vs = wipe σ vs ∧ tt σ2 H2 fun b H3 =>
      if b = true then te σ2 H3 fun y H4 => ∃ acc, H4 D = some (.lst acc) ∧ acc.length < sizeLine ∧ Pv (i + 1) (upd H4 D (.lst (acc ++ [y]))) else Pv (i + 1) H3)
    (hd : ∀ H, Pv n H → Qd H) :
    ∃ W : Nat → Nat → Hp → Prop, (∃ m, W 0 m (upd H1 D (.lst []))) ∧ ∀ i m H, W i m H →
      ((Itc lo c n).stop i H ∧ Qd H) ∨ ((Itc lo c n).go i H ∧ ∃ Nx : Hp → Prop, (∀ H', Nx H' → ∃ m', m' < m ∧ W (i + 1) m' H') ∧ ∀ x H', (Itc lo c n).yld i H x H' → g x (wipe σ vs) H' fun σ2 H2 =>
        wipe σ2 vs = wipe σ vs ∧ tt σ2 H2 fun b H3 => if b = true then te σ2 H3 fun y H4 => ∃ acc, H4 D = some (.lst acc) ∧ acc.length < sizeLine ∧ Nx (upd H4 D (.lst (acc ++ [y]))) else Nx H3) := by
  refine ⟨fun i m H => m + i = n ∧ Pv i H, ⟨n, Nat.add_zero n, h0⟩, fun i m H z => ?_⟩
  obtain ⟨e, p⟩ := z
  rcases Nat.lt_or_ge i n with c | c
  · refine Or.inr ⟨c, Pv (i + 1), fun H' p' => ⟨n - (i + 1), by omega, by omega, p'⟩, fun x H' y => ?_⟩
    obtain ⟨ex, ey⟩ := y
    rw [ex, ey]
    exact hs i H c p
  · have ei : i = n := by omega
    rw [ei] at p
    exact Or.inl ⟨c, hd H p⟩
theorem rg_two : ∀ m : Fin 21, Builtin.Range.small 0 (m.val : Int) 2 = true ∧ Builtin.Range.rangeSize 0 (m.val : Int) 2 = (m.val + 1) / 2 := by decide +kernel
theorem rg_pairs {m : Nat} (h : m ≤ 20) (h2 : m % 2 = 0) : RgC 0 (m : Int) 2 (m / 2) := by
  obtain ⟨a, b⟩ := rg_two ⟨m, by omega⟩
  refine ⟨by decide, by decide, a, b.trans ?_⟩
  show ((m : Int) + 1) / 2 = ((m / 2 : Nat) : Int)
  omega
section
variable {P : Program} {w : World} {K : PySem.W.Frag} {mg : Str → Option Value} {base : Heap} {C : Addr}
theorem scO : FnScope ["numbers", "k"] ["numbers"] (defScope sOf) := ⟨rfl, rfl, rfl, by decide +kernel, rfl, by decide +kernel, by decide +kernel⟩
theorem ok_of {f fI : Addr} {fd fdI : FuncData} (F : Fun K "stays_of" "stays_of" sOf f fd) (T : Txt K mg C) (M : Mk K C fI) (GI : FnOk P w K mg base CX0 1 fI fdI ["self", "number", "begin", "end"] (spInit C)) (bI : Binds K fdI ["self", "number", "begin", "end"] []) :
    FnOk P w K mg base CX0 3 f fd ["numbers"] (spOf K C) := by
  refine F.ok scO (fun vs H Q E h => ?_) (fun cdv A outer s H vs Q E hr h => ?_)
  · obtain ⟨a, nl, rfl, _⟩ := h
    rfl
  · obtain ⟨a, nl, rfl, hS, hlen, hev, q⟩ := h
    refine ⟨_, pss_one (ps_ret (pe_lc (own := [("k", 1)]) (g := gName 1) (tt := tYes) rfl scO.nd (pi_range1 rfl T.range (pa_cons (pe_op op_fdiv (pe_callB call_len_seq (by rfl) T.len PySem.boot_len (pa_cons (pv 0) pa_nil)) pe_int) pa_nil))
      (blkOk_by (own := [("k", 1)]) (N := ["numbers", "k"]) (sc := defScope sOf) (by decide +kernel)) (fun _ _ _ _ _ => pg_name (i := 1) scO.nd rfl (Or.inl rfl)) (fun _ _ _ _ _ => pts_nil)
      (fun _ _ _ _ _ => pe_make M GI hr rfl T.mgC bI .nil pass0 (pa_cons (pv 1) (pa_cons (pe_ix (r := rIxL K) ix_list (pv 0) (pe_op op_mul pe_int (pv 1)) (fun _ _ => rfl)) (pa_cons (pe_ix (r := rIxL K) ix_list (pv 0) (pe_op op_add (pe_op op_mul pe_int (pv 1)) pe_int) (fun _ _ => rfl)) pa_nil)))))), ?_⟩
    have en : ((((vI nl).length : Nat) : Int) / 2).toNat = nl.length / 2 := by
      rw [vI_len]
      omega
    refine ⟨_, rfl, a, _, rfl, .inl hS, _, _, rfl, rfl, ⟨by decide, by decide⟩, _, rfl, ?_, ?_, fun D hD => lc_range (n := (((vI nl).length : Int) / 2).toNat) (fun i H' => Same H H' ∧ ∃ A : Nat → Addr, (∀ j, j < i → ∃ dx, H' (A j) = some (.ins C dx (sF j (Ks439.stay (Ks439.staysOf nl) j)))) ∧ H' D = some (.lst (rf A (List.range i))))
      ⟨same_upd hD, fun _ => 0, fun j h => absurd h (Nat.not_lt_zero j), upd_same⟩ ?_ ?_⟩
    · rw [vI_len]
      omega
    · rw [vI_len]
      omega
    · rintro i H' hi ⟨s1, A, hA, hd⟩
      rw [en] at hi
      have e1 : 2 * i < nl.length := by omega
      have e2 : 2 * i + 1 < nl.length := by omega
      have es := stay_staysOf hi
      rw [Int.zero_add]
      refine ⟨rfl, yes_mk (iteT ?_)⟩
      refine ⟨_, rfl, ?_⟩
      refine ⟨_, rfl, _, rfl, _, _, rfl, rfl, .inl ⟨by decide, by decide⟩, a, _, _, _, rfl, rfl, s1.seq hS, at_of (j := 2 * i) (by omega) (vI_get e1), ?_⟩
      refine ⟨_, rfl, _, rfl, _, _, rfl, rfl, .inl ⟨by decide, by decide⟩, _, _, rfl, rfl, a, _, _, _, rfl, rfl, s1.seq hS, at_of (j := 2 * i + 1) (by omega) (vI_get e2), ?_⟩
      intro x dx nx nd ne
      refine ⟨x, dx, i, Ks439.stay (Ks439.staysOf nl) i, ?_, upd_same, fun H2 ⟨dy, h2⟩ kp => ⟨rfl, ?_⟩⟩
      · rw [es]
        rfl
      · have s2 : Same H' H2 := Same.made nx nd kp
        refine ⟨_, s2 _ _ hd, ?_, same_put (s1.trans s2) hD, fun j => if j = i then x else A j, fun j hj => ?_, ?_⟩
        · rw [rf_len, List.length_range]
          exact small1000 (by omega)
        · have nD : D ≠ x := ne_of_none hd nx
          show ∃ dx, upd H2 D _ (if j = i then x else A j) = _
          by_cases c : j = i
          · subst c
            rw [if_pos rfl, upd_ne nD.symm]
            exact ⟨dy, h2⟩
          · rw [if_neg c]
            obtain ⟨dz, hz⟩ := hA j (by omega)
            have nz : A j ≠ D := ne_of hz hd (by intro q; cases q)
            rw [upd_ne nz]
            exact ⟨dz, s2 _ _ hz⟩
        · rw [upd_same, rf_snoc]
    · rintro H' ⟨s1, A, hA, hd⟩
      rw [en, ← len_staysOf] at hA hd
      exact q H' D A s1 hD ⟨hA, by rw [len_staysOf]; omega⟩ hd
theorem scA : FnScope ["numbers", "pairs", "k", "begin", "end"] ["numbers"] (defScope sAre) := ⟨rfl, rfl, rfl, by decide +kernel, rfl, by decide +kernel, by decide +kernel⟩
theorem ok_are {f : Addr} {fd : FuncData} {tk1 tk2 : Tok} (F : Fun K "are_stays" "are_stays" sAre f fd) (T : Txt K mg C) (g1 : mg "MOST_STAYS" = some (.int 10 tk1)) (g2 : mg "LAST_HOUR" = some (.int 24 tk2)) :
    FnOk P w K mg base CX0 1 f fd ["numbers"] (spAre K) := by
  refine F.ok scA (fun vs H Q E h => ?_) (fun cdv A outer s H vs Q E hr h => ?_)
  · obtain ⟨a, nl, rfl, _⟩ := h
    rfl
  · obtain ⟨a, nl, rfl, hS, hlen, q⟩ := h
    refine ⟨_, pss_cons (ps_if (PW.pt (pw_or (pt_cmpR op_ne (pe_op op_mod (pe_callB call_len_seq (by rfl) T.len PySem.boot_len (pa_cons (pv 0) pa_nil)) pe_int) pe_int (nomark _)) (pw_or1 (pt_cmpR op_gt (pe_callB call_len_seq (by rfl) T.len PySem.boot_len (pa_cons (pv 0) pa_nil)) (pe_op op_mul pe_int (pe_glob (v := V.int 10) rfl g1 ⟨_, rfl⟩)) (nomark _)))))
        (pss_one (ps_ret pe_bl)) pss_nil)
      (pss_cons (ps_setLc (i := 1) (own := [("k", 2)]) (g := gName 2) (tt := tYes) rfl scA.nd rfl rfl (sw_true rfl rfl rfl (by decide +kernel)) (pi_range3 rfl T.range (pa_cons pe_int (pa_cons (pe_callB call_len_seq (by rfl) T.len PySem.boot_len (pa_cons (pv 0) pa_nil)) (pa_cons pe_int pa_nil))))
        (blkOk_by (own := [("k", 2)]) (N := ["numbers", "pairs", "k", "begin", "end"]) (sc := defScope sAre) (by decide +kernel)) (fun _ _ _ _ _ => pg_name (i := 2) scA.nd rfl (Or.inl rfl)) (fun _ _ _ _ _ => pts_nil)
        (fun _ _ _ _ _ => pe_tup (pa_cons (pe_ix (r := rIxL K) ix_list (pv 0) (pv 2) (fun _ _ => rfl)) (pa_cons (pe_ix (r := rIxL K) ix_list (pv 0) (pe_op op_add (pv 2) pe_int) (fun _ _ => rfl)) pa_nil))))
      (pss_one (ps_ret (pe_callB (cr_all rfl) (by rfl) T.all (by decide +kernel) (pa_cons (pe_lc (own := [("begin", 3), ("end", 4)]) (g := gTup K 2 (gCons (gName 3) (gCons (gName 4) gNil))) (tt := tYes) rfl scA.nd (pi_list (pv 1))
        (blkOk_by (own := [("begin", 3), ("end", 4)]) (N := ["numbers", "pairs", "k", "begin", "end"]) (sc := defScope sAre) (by decide +kernel)) (fun _ _ _ _ _ => pg_tupK K rfl rfl (pgs_cons (pg_name (i := 3) scA.nd rfl (Or.inl rfl)) (pgs_cons (pg_name (i := 4) scA.nd rfl (Or.inl rfl)) pgs_nil)) (by rfl) (by rfl)) (fun _ _ _ _ _ => pts_nil)
        (fun _ _ _ _ _ => pe_and (pe_cmpR op_lt (pv 3) (pv 4) (nomark _)) (pe_one (pe_cmpR op_le (pv 4) (pe_glob (v := V.int 24) rfl g2 ⟨_, rfl⟩) (nomark _))))) pa_nil))))), ?_⟩
    refine ⟨_, rfl, a, _, rfl, .inl hS, _, _, rfl, rfl, (by show (0 : Int) < 2; decide), rfl, _, rfl, ?_⟩
    have em : (((vI nl).length : Nat) : Int) % 2 = 0 ↔ nl.length % 2 = 0 := by
      rw [vI_len]
      omega
    by_cases c1 : nl.length % 2 = 0
    · have d1 : (!decide (V.int ((((vI nl).length : Nat) : Int) % 2) = V.int 0)) = false := by
        rw [em.mpr c1]
        rfl
      rw [d1]
      refine iteF ?_
      refine ⟨_, rfl, a, _, rfl, .inl hS, _, _, rfl, rfl, .inl ⟨by decide, by decide⟩, _, _, rfl, rfl, _, rfl, ?_⟩
      by_cases c2 : 20 < nl.length
      · have d2 : decide ((2 : Int) * 10 < (((vI nl).length : Nat) : Int)) = true := by
          rw [vI_len]
          exact decide_eq_true (by omega)
        rw [d2]
        refine iteT ?_
        have z := q H (Same.refl H)
        rw [ok_long c2 c1] at z
        exact z
      · have d2 : decide ((2 : Int) * 10 < (((vI nl).length : Nat) : Int)) = false := by
          rw [vI_len]
          exact decide_eq_false (by omega)
        rw [d2]
        refine iteF ?_
        have c2 : nl.length ≤ 20 := by omega
        refine ⟨_, rfl, a, _, rfl, .inl hS, 0, _, 2, nl.length / 2, rfl, ?_, fun D hD => lc_step (n := nl.length / 2) (fun i H' => Same H H' ∧ ∃ B : Nat → Addr, (∀ j, j < i → H' (B j) = some (.tup [.int (nl.getD (2 * j) 0 : Nat), .int (nl.getD (2 * j + 1) 0 : Nat)])) ∧ H' D = some (.lst (rf B (List.range i))))
          ⟨same_upd hD, fun _ => 0, fun j h => absurd h (Nat.not_lt_zero j), upd_same⟩ ?_ ?_⟩
        · rw [vI_len]
          exact rg_pairs c2 c1
        · rintro i H' hi ⟨s1, B, hB, hd⟩
          have e1 : 2 * i < nl.length := by omega
          have e2 : 2 * i + 1 < nl.length := by omega
          refine ⟨rfl, yes_mk (iteT ?_)⟩
          refine ⟨_, rfl, _, rfl, a, _, _, _, rfl, rfl, s1.seq hS, at_of (j := 2 * i) (by omega) (vI_get e1), ?_⟩
          refine ⟨_, rfl, _, rfl, _, _, rfl, rfl, a, _, _, _, rfl, rfl, s1.seq hS, at_of (j := 2 * i + 1) (by omega) (vI_get e2), ?_⟩
          refine ⟨(by show 2 ≤ sizeLine; decide), fun t nt => ?_⟩
          have nD : D ≠ t := ne_of_none hd nt
          have s2 : Same H' (upd H' t (.tup [.int (nl.getD (2 * i) 0 : Nat), .int (nl.getD (2 * i + 1) 0 : Nat)])) := same_upd nt
          refine ⟨_, s2 _ _ hd, ?_, same_put (s1.trans s2) hD, fun j => if j = i then t else B j, fun j hj => ?_, ?_⟩
          · rw [rf_len, List.length_range]
            exact small1000 (by omega)
          · show upd _ D _ (if j = i then t else B j) = _
            by_cases c : j = i
            · subst c
              rw [if_pos rfl, upd_ne nD.symm, upd_same]
            · rw [if_neg c]
              have hz := hB j (by omega)
              have nz : B j ≠ D := ne_of hz hd (by intro q; cases q)
              rw [upd_ne nz]
              exact s2 _ _ hz
          · rw [upd_same, rf_snoc]
        · rintro H1 ⟨s1, B, hB, hd⟩
          refine ⟨_, rfl, D, rfl, ⟨_, SqL.of hd⟩, fun G hG => lc_list (K := K) (a := D) (xs := rf B (List.range (nl.length / 2))) (fun i H' => Same H1 H' ∧ H' G = some (.lst (((List.range i).map fun j => decide (nl.getD (2 * j) 0 < nl.getD (2 * j + 1) 0) && decide (nl.getD (2 * j + 1) 0 ≤ 24)).map V.bl)))
            ⟨same_upd hG, upd_same⟩ (fun i H' _ z => SqL.of (z.1 _ _ hd)) ?_ ?_⟩
          · rintro i x H' hi ⟨s2, hg⟩
            obtain ⟨j, hj, rfl⟩ := rf_at hi
            have eij : j = i ∧ i < nl.length / 2 := by
              obtain ⟨z, ez⟩ := List.getElem?_eq_some_iff.mp hj
              rw [List.length_range] at z
              rw [List.getElem_range] at ez
              exact ⟨ez.symm, z⟩
            obtain ⟨rfl, hlt⟩ := eij
            have ht := s2 _ _ (hB j hlt)
            refine ⟨B j, _, rfl, SqT.of ht, rfl, _, _, rfl, _, _, rfl, rfl, rfl, yes_mk (iteT ?_)⟩
            have fin : ∀ b : Bool, b = (decide (nl.getD (2 * j) 0 < nl.getD (2 * j + 1) 0) && decide (nl.getD (2 * j + 1) 0 ≤ 24)) →
                ∃ acc, H' G = some (.lst acc) ∧ acc.length < sizeLine ∧ (Same H1 (upd H' G (.lst (acc ++ [V.bl b]))) ∧ (upd H' G (.lst (acc ++ [V.bl b]))) G = some (.lst (((List.range (j + 1)).map fun j => decide (nl.getD (2 * j) 0 < nl.getD (2 * j + 1) 0) && decide (nl.getD (2 * j + 1) 0 ≤ 24)).map V.bl))) := fun b eb => by
              refine ⟨_, hg, ?_, same_put s2 hG, ?_⟩
              · rw [List.length_map, List.length_map, List.length_range]
                exact small1000 (by omega)
              · rw [upd_same, List.range_succ, List.map_append, List.map_append, eb]
                rfl
            refine ⟨_, rfl, _, rfl, _, _, rfl, rfl, _, rfl, ?_⟩
            rw [lt_nat]
            by_cases d3 : nl.getD (2 * j) 0 < nl.getD (2 * j + 1) 0
            · rw [decide_eq_true d3]
              refine iteT ⟨_, rfl, _, _, rfl, rfl, ?_⟩
              refine fin _ ?_
              rw [decide_eq_true d3, Bool.true_and]
              exact le_nat _ 24
            · rw [decide_eq_false d3]
              refine iteF ?_
              refine fin _ ?_
              rw [decide_eq_false d3, Bool.false_and]
          · rintro H2 ⟨s2, hg⟩
            rw [rf_len, List.length_range] at hg
            refine ⟨G, _, rfl, SqL.of hg, ?_⟩
            have z := q H2 (s1.trans s2)
            rw [ok_all c1 c2] at z
            exact z
    · have d1 : (!decide (V.int ((((vI nl).length : Nat) : Int) % 2) = V.int 0)) = true := by
        rw [decide_eq_false (fun e => c1 (em.mp (V.int.inj e)))]
        rfl
      rw [d1]
      refine iteT ?_
      have z := q H (Same.refl H)
      rw [ok_odd c1] at z
      exact z
end
end Rs
namespace Rs
open PySem PySem.Spec PyProof.Rows L2
open PySem.W (Codec)
abbrev sOrd : Stmt := topS 6
/-- in_order, of all the stays -/
def spOrd (K : PySem.W.Frag) (C : Addr) : Sp := fun vs H Q _ => ∃ (a : Addr) (A : Nat → Addr) (l : List Ks439.Stay), vs = [.ref a] ∧ SqL K H a (rf A (List.range l.length)) ∧ Wd C H A l ∧
  ∀ (H' : Hp) (p : Addr), Same H H' → H p = none → H' p = some (.lst (rf A (Ks439.inOrder l))) → Q (.ref p) H'
/-- the two numbers of a pair that stands in H -/
def pairAt (H : Hp) (x : V) : Int × Int := match x with
  | .ref t => (match H t with
    | some (.tup [.int i, .int j]) => (i, j)
    | _ => (0, 0))
  | _ => (0, 0)
theorem pairAt_ref {H : Hp} {t : Addr} {i j : Int} (h : H t = some (.tup [.int i, .int j])) : pairAt H (.ref t) = (i, j) := by
  unfold pairAt
  simp only [h]
/-- the pairs' numbers, sorted, are in the order in which they ask -/
theorem sorted_order {H : Hp} {B : Nat → Addr} {l : List Ks439.Stay} {ys : List V} (hB : ∀ j, j < l.length → H (B j) = some (.tup [.int ((Ks439.stay l j).from_ : Nat), .int (j : Nat)]))
    (hs : SrtO.Srtd (ltP (pairAt H)) ys) (hp : ys.Perm (rf B (List.range l.length))) : ys = rf B (Ks439.inOrder l) := by
  have key : ∀ y ∈ ys, ∃ j, j < l.length ∧ y = V.ref (B j) ∧ pairAt H y = (((Ks439.stay l j).from_ : Int), (j : Int)) := fun y hy => by
    obtain ⟨j, hj, e⟩ := List.mem_map.mp (hp.mem_iff.mp hy)
    have hj := List.mem_range.mp hj
    exact ⟨j, hj, e.symm, by rw [← e]; exact pairAt_ref (hB j hj)⟩
  have e1 : ys.map (fun y => (pairAt H y).2.toNat) = Ks439.inOrder l := by
    refine inOrder_unique ?_ ?_
    · have z := hp.map (fun y => (pairAt H y).2.toNat)
      have e : (rf B (List.range l.length)).map (fun y => (pairAt H y).2.toNat) = List.range l.length := by
        unfold rf
        rw [List.map_map]
        refine (List.map_congr_left fun j hj => ?_).trans (List.map_id _)
        show (pairAt H (.ref (B j))).2.toNat = j
        rw [pairAt_ref (hB j (List.mem_range.mp hj))]
        exact Int.toNat_natCast j
      rw [e] at z
      exact z
    · rw [List.pairwise_map]
      refine List.Pairwise.imp_of_mem ?_ hs
      intro a b ha hb hab
      obtain ⟨i, hi, _, ei⟩ := key a ha
      obtain ⟨j, hj, _, ej⟩ := key b hb
      have z := SrtO.lexB_no.mp hab
      rw [ei, ej] at z ⊢
      have z : ¬ (((Ks439.stay l j).from_ : Int) < (Ks439.stay l i).from_ ∨ (((Ks439.stay l j).from_ : Int) = (Ks439.stay l i).from_ ∧ (j : Int) < (i : Int))) := z
      show le l (i : Int).toNat (j : Int).toNat
      rw [Int.toNat_natCast, Int.toNat_natCast]
      unfold le
      omega
  rw [← e1]
  unfold rf
  rw [List.map_map]
  refine ((List.map_congr_left fun y hy => ?_).trans (List.map_id _)).symm
  obtain ⟨j, hj, e, ej⟩ := key y hy
  show V.ref (B (pairAt H y).2.toNat) = y
  rw [ej, e]
  rfl
section
variable {P : Program} {w : World} {K : PySem.W.Frag} {mg : Str → Option Value} {base : Heap} {C : Addr}
theorem scR : FnScope ["stays", "stay", "begin", "number"] ["stays"] (defScope sOrd) := ⟨rfl, rfl, rfl, by decide +kernel, rfl, by decide +kernel, by decide +kernel⟩
theorem ok_order {f : Addr} {fd : FuncData} (F : Fun K "in_order" "in_order" sOrd f fd) (T : Txt K mg C) (zS : mg "sorted" = none) : FnOk P w K mg base CX0 1 f fd ["stays"] (spOrd K C) := by
  refine F.ok scR (fun vs H Q E h => ?_) (fun cdv A outer s H vs Q E hr h => ?_)
  · obtain ⟨a, A, l, rfl, _⟩ := h
    rfl
  · obtain ⟨a, A, l, rfl, hS, hW, q⟩ := h
    refine ⟨_, pss_one (ps_ret (pe_lc (own := [("begin", 2), ("number", 3)]) (g := gTup K 2 (gCons (gName 2) (gCons (gName 3) gNil))) (tt := tYes) rfl scR.nd
      (pi_list (pe_callB cr_sortedPO (by rfl) zS (by decide +kernel) (pa_cons (pe_lc (own := [("stay", 1)]) (g := gName 1) (tt := tYes) rfl scR.nd (pi_list (pv 0))
        (blkOk_by (own := [("stay", 1)]) (N := ["stays", "stay", "begin", "number"]) (sc := defScope sOrd) (by decide +kernel)) (fun _ _ _ _ _ => pg_name (i := 1) scR.nd rfl (Or.inl rfl)) (fun _ _ _ _ _ => pts_nil)
        (fun _ _ _ _ _ => pe_tup (pa_cons (pe_fldK K rfl (pv 1) rfl) (pa_cons (pe_fldK K rfl (pv 1) rfl) pa_nil)))) pa_nil)))
      (blkOk_by (own := [("begin", 2), ("number", 3)]) (N := ["stays", "stay", "begin", "number"]) (sc := defScope sOrd) (by decide +kernel))
      (fun _ _ _ _ _ => pg_tupK K rfl rfl (pgs_cons (pg_name (i := 2) scR.nd rfl (Or.inl rfl)) (pgs_cons (pg_name (i := 3) scR.nd rfl (Or.inl rfl)) pgs_nil)) (by rfl) (by rfl)) (fun _ _ _ _ _ => pts_nil)
      (fun _ _ _ _ _ => pe_ix (r := rIxL K) ix_list (pv 0) (pv 3) (fun _ _ => rfl)))), ?_⟩
    refine ⟨_, rfl, a, rfl, ⟨_, hS⟩, fun D hD => lc_list (K := K) (a := a) (xs := rf A (List.range l.length)) (fun i H' => Same H H' ∧ ∃ B : Nat → Addr, (∀ j, j < i → H' (B j) = some (.tup [.int ((Ks439.stay l j).from_ : Nat), .int (j : Nat)])) ∧ H' D = some (.lst (rf B (List.range i))))
      ⟨same_upd hD, fun _ => 0, fun j h => absurd h (Nat.not_lt_zero j), upd_same⟩ (fun i H' _ z => z.1.seq hS) ?_ ?_⟩
    · rintro i x H' hi ⟨s1, B, hB, hd⟩
      obtain ⟨j, hj, rfl⟩ := rf_at hi
      have eij : j = i ∧ i < l.length := by
        obtain ⟨z, ez⟩ := List.getElem?_eq_some_iff.mp hj
        rw [List.length_range] at z
        rw [List.getElem_range] at ez
        exact ⟨ez.symm, z⟩
      obtain ⟨rfl, hlt⟩ := eij
      obtain ⟨dx, hx⟩ := (hW.same s1).at_ j hlt
      refine ⟨rfl, yes_mk (iteT ?_)⟩
      refine ⟨_, rfl, A j, C, dx, _, _, rfl, hx, T.cl, T.nB, sF_begin _ _, _, rfl, A j, C, dx, _, _, rfl, hx, T.cl, T.nN, sF_number _ _, (by show 2 ≤ sizeLine; decide), fun t nt => ?_⟩
      have nD : D ≠ t := ne_of_none hd nt
      have s2 : Same H' (upd H' t (.tup [.int ((Ks439.stay l j).from_ : Nat), .int (j : Nat)])) := same_upd nt
      refine ⟨_, s2 _ _ hd, ?_, same_put (s1.trans s2) hD, fun k => if k = j then t else B k, fun k hk => ?_, ?_⟩
      · rw [rf_len, List.length_range]
        have := hW.few
        exact small1000 (by omega)
      · show upd _ D _ (if k = j then t else B k) = _
        by_cases c : k = j
        · subst c
          rw [if_pos rfl, upd_ne nD.symm, upd_same]
        · rw [if_neg c]
          have hz := hB k (by omega)
          have nz : B k ≠ D := ne_of hz hd (by intro q; cases q)
          rw [upd_ne nz]
          exact s2 _ _ hz
      · rw [upd_same, rf_snoc]
    · rintro H1 ⟨s1, B, hB, hd⟩
      rw [rf_len, List.length_range] at hB hd
      refine ⟨D, _, pairAt H1, rfl, SqL.of hd, fun x hx => ?_, fun ys p hs hb hp => ?_⟩
      · obtain ⟨j, hj, rfl⟩ := List.mem_map.mp hx
        have hz := hB j (List.mem_range.mp hj)
        exact ⟨B j, rfl, by rw [pairAt_ref hz]; exact hz⟩
      · have ey : ys = rf B (Ks439.inOrder l) := sorted_order hB hs hb.perm
        subst ey
        have s2 : Same H1 (upd H1 p (.lst (rf B (Ks439.inOrder l)))) := same_upd hp
        refine ⟨p, rfl, ⟨_, SqL.of upd_same⟩, fun G hG => lc_list (K := K) (a := p) (xs := rf B (Ks439.inOrder l)) (fun i H' => Same (upd H1 p (.lst (rf B (Ks439.inOrder l)))) H' ∧ H' G = some (.lst (rf A ((Ks439.inOrder l).take i))))
          ⟨same_upd hG, upd_same⟩ (fun i H' _ z => SqL.of (z.1 _ _ upd_same)) ?_ ?_⟩
        · rintro i x H' hi ⟨s3, hg⟩
          obtain ⟨j, hj, rfl⟩ := rf_at hi
          have hlt : j < l.length := inOrder_lt (mem_at hj)
          have ht := s3 _ _ (s2 _ _ (hB j hlt))
          refine ⟨B j, _, rfl, SqT.of ht, rfl, _, _, rfl, _, _, rfl, rfl, rfl, yes_mk (iteT ?_)⟩
          refine ⟨_, rfl, _, rfl, a, _, _, _, rfl, rfl, s3.seq (s2.seq (s1.seq hS)), at_of (j := j) (v := V.ref (A j)) rfl ?_, _, hg, ?_, same_put s3 hG, ?_⟩
          · unfold rf
            rw [List.getElem?_map, List.getElem?_range hlt]
            rfl
          · rw [rf_len]
            have := hW.few
            have := inOrder_len l
            exact Nat.lt_of_le_of_lt (List.length_take_le' _ _) (small1000 (by omega))
          · rw [upd_same, take_more hj]
            unfold rf
            rw [List.map_append]
            rfl
        · rintro H2 ⟨s3, hg⟩
          rw [rf_len, List.take_length] at hg
          have s13 : Same H H2 := s1.trans (s2.trans s3)
          exact q H2 G s13 ((s1.trans s2).free hG) hg
end
end Rs
namespace Rs
open PySem PySem.Spec PyProof.Rows L2
open PySem.W (Codec)
abbrev sLeast : Stmt := topS 9
abbrev sLockersOf : Stmt := topS 10
abbrev sLockers : Stmt := topS 13
/-- least_free -/
def spLeast (K : PySem.W.Frag) : Sp := fun vs H Q _ => ∃ (a : Addr) (ts : List Nat), vs = [.ref a] ∧ SqL K H a (vI ts) ∧ ∀ n : Nat, least ts n → Q (.int (n : Int)) H
/-- lockers_of -/
def spLk (K : PySem.W.Frag) (C : Addr) : Sp := fun vs H Q _ => ∃ (a : Addr) (A : Nat → Addr) (l : List Ks439.Stay), vs = [.ref a] ∧ SqL K H a (rf A (List.range l.length)) ∧ Wd C H A l ∧
  ∀ (H' : Hp) (p : Addr), Same H H' → H p = none → H' p = some (.lst (vI ((List.range l.length).map (Ks439.lockerOf l)))) → Q (.ref p) H'
/-- lockers -/
def spAns (K : PySem.W.Frag) : Sp := fun vs H Q _ => ∃ (a : Addr) (nl : List Nat), vs = [.ref a] ∧ SqL K H a (vI nl) ∧ nl.length ≤ 24 ∧
  ∀ (H' : Hp) (p : Addr), H' p = some (.lst ((Ks439Neutral.out (Ks439.answer (.lockers nl))).map V.int)) → Q (.ref p) H'
theorem ans_no {nl : List Nat} (h : ok nl = false) : Ks439Neutral.out (Ks439.answer (.lockers nl)) = [-22] := by
  show Ks439Neutral.out (Ks439.given nl true _) = _
  rw [given_ok, h]
  rfl
theorem ans_yes {nl : List Nat} (h : ok nl = true) : (Ks439Neutral.out (Ks439.answer (.lockers nl))).map V.int = V.int (((List.range (Ks439.staysOf nl).length).map (Ks439.lockerOf (Ks439.staysOf nl))).length : Nat) :: vI ((List.range (Ks439.staysOf nl).length).map (Ks439.lockerOf (Ks439.staysOf nl))) := by
  rw [← rows_out]
  show (Ks439Neutral.out (Ks439.given nl true _)).map V.int = _
  rw [given_ok, h]
  rfl
theorem in_nat (n : Nat) (ts : List Nat) : inV (.int (n : Int)) (vI ts) = decide (n ∈ ts) := by
  unfold inV vI
  rw [List.any_map, Bool.eq_iff_iff, List.any_eq_true, decide_eq_true_eq]
  constructor
  · rintro ⟨k, hk, e⟩
    have e : ((k : Int) == (n : Int)) = true := e
    rw [beq_iff_eq] at e
    rw [← Int.ofNat.inj e]
    exact hk
  · intro h
    exact ⟨n, h, (beq_self_eq_true (n : Int) : ((n : Int) == (n : Int)) = true)⟩
theorem flat_nat (ts : List Nat) : (vI ts).all flatV = true := by
  unfold vI
  rw [List.all_map, List.all_eq_true]
  exact fun _ _ => rfl
/-- what stands in found: of each stay None, or its locker -/
def fv (n : Nat) (g : List (Nat × Nat)) : List V := (List.range n).map fun k => match lk g k with
  | none => V.non
  | some v => V.int (v : Int)
theorem fv_len (n : Nat) (g : List (Nat × Nat)) : (fv n g).length = n := by
  unfold fv
  rw [List.length_map, List.length_range]
theorem fv_get {n k v : Nat} {g : List (Nat × Nat)} (h : k < n) (hv : lk g k = some v) : (fv n g)[k]? = some (V.int (v : Int)) := by
  unfold fv
  rw [List.getElem?_map, List.getElem?_range h]
  show some (match lk g k with | none => V.non | some v => V.int (v : Int)) = _
  rw [hv]
theorem fv_nil (n : Nat) : (List.replicate n [V.non]).flatten = fv n [] := by
  rw [List.flatten_replicate_singleton]
  unfold fv
  refine (List.eq_replicate_iff.mpr ⟨by rw [List.length_map, List.length_range], fun b hb => ?_⟩).symm
  obtain ⟨k, _, e⟩ := List.mem_map.mp hb
  exact e.symm
theorem fv_set {n k v : Nat} {g : List (Nat × Nat)} (h : k ∉ g.map (·.1)) : (fv n g).set k (V.int (v : Int)) = fv n (g ++ [(k, v)]) := by
  refine List.ext_getElem? fun j => ?_
  by_cases c : j < n
  · unfold fv
    rw [List.getElem?_map, List.getElem?_range c]
    by_cases d : j = k
    · subst d
      rw [List.getElem?_set_self (by rw [List.length_map, List.length_range]; exact c)]
      show _ = some (match lk (g ++ [(j, v)]) j with | none => V.non | some v => V.int (v : Int))
      rw [lk_new h]
    · rw [List.getElem?_set_ne (fun e => d e.symm), List.getElem?_map, List.getElem?_range c]
      show some (match lk g j with | none => V.non | some v => V.int (v : Int)) = some (match lk (g ++ [(k, v)]) j with | none => V.non | some v => V.int (v : Int))
      rw [lk_old d]
  · rw [List.getElem?_eq_none (by rw [List.length_set, fv_len]; omega), List.getElem?_eq_none (by rw [fv_len]; omega)]
theorem fv_all (l : List Ks439.Stay) : fv l.length (Ks439.lockers l) = vI ((List.range l.length).map (Ks439.lockerOf l)) := by
  unfold fv vI
  rw [List.map_map]
  refine List.map_congr_left fun k hk => ?_
  have hm : k ∈ (Ks439.lockers l).map (·.1) := by
    rw [← got_all, got_keys, List.take_length]
    exact (inOrder_perm l).mem_iff.mpr hk
  obtain ⟨v, hv⟩ := lk_mem hm
  show (match lk (Ks439.lockers l) k with | none => V.non | some v => V.int (v : Int)) = V.int ((Ks439.lockerOf l k : Nat) : Int)
  rw [lockerOf_lk, hv]
  rfl
theorem at_nat {α : Type} {xs : List α} {k : Nat} (h : k < xs.length) : ixN xs.length (k : Int) = some k := by
  unfold ixN
  rw [if_pos (Int.natCast_nonneg k), if_pos (Int.ofNat_lt.mpr h), Int.toNat_natCast]
section
variable {P : Program} {w : World} {K : PySem.W.Frag} {mg : Str → Option Value} {base : Heap} {C : Addr}
theorem scF : FnScope ["taken", "number"] ["taken"] (defScope sLeast) := ⟨rfl, rfl, rfl, by decide +kernel, rfl, by decide +kernel, by decide +kernel⟩
theorem ok_least {f : Addr} {fd : FuncData} (F : Fun K "least_free" "least_free" sLeast f fd) : FnOk P w K mg base CX0 1 f fd ["taken"] (spLeast K) := by
  refine F.ok scF (fun vs H Q E h => ?_) (fun cdv A outer s H vs Q E hr h => ?_)
  · obtain ⟨a, ts, rfl, _⟩ := h
    rfl
  · obtain ⟨a, ts, rfl, hS, q⟩ := h
    refine ⟨_, pss_cons (ps_set (i := 1) scF.nd rfl (Or.inl rfl) pe_int)
      (pss_cons (ps_while PassesOwn.never (pt_cmpR op_in_seq (pv 1) (pv 0) (by rfl)) (pss_one (ps_set (i := 1) scF.nd rfl (Or.inl rfl) (pe_op op_add (pv 1) pe_int))))
      (pss_one (ps_ret (pv 1)))), ?_⟩
    refine ⟨fun m σ H' => ∃ n : Nat, σ = [some (.ref a), some (.int (n : Int))] ∧ H' = H ∧ m + n = ts.length + 1 ∧ ∀ k, k < n → k ∈ ts, ⟨ts.length + 1, 0, rfl, rfl, rfl, fun k h => absurd h (Nat.not_lt_zero k)⟩, ?_⟩
    rintro m σ H' ⟨n, rfl, rfl, hm, hn⟩
    refine ⟨_, rfl, _, rfl, a, _, rfl, .inl hS, rfl, flat_nat ts, _, rfl, ?_⟩
    have e : (if false = true then !inV (.int (n : Int)) (vI ts) else inV (.int (n : Int)) (vI ts)) = decide (n ∈ ts) := in_nat n ts
    rw [e]
    by_cases c : n ∈ ts
    · rw [decide_eq_true c]
      refine iteT ?_
      have hn' : ∀ k, k < n + 1 → k ∈ ts := fun k hk => by
        rcases Nat.lt_succ_iff_lt_or_eq.mp hk with d | d
        · exact hn k d
        · rw [d]; exact c
      have le1 := among_le hn'
      refine ⟨fun σ' G => σ' = [some (.ref a), some (.int ((n + 1 : Nat) : Int))] ∧ G = H', fun σ' G z => ⟨m - 1, by omega, n + 1, z.1, z.2, by omega, hn'⟩, ?_⟩
      exact ⟨_, rfl, _, _, rfl, rfl, rfl, rfl⟩
    · rw [decide_eq_false c]
      exact iteF ⟨_, rfl, q n ⟨c, hn⟩⟩
theorem scM : FnScope ["stays", "found", "earlier", "stay", "here", "other"] ["stays"] (defScope sLockersOf) := ⟨rfl, rfl, rfl, by decide +kernel, rfl, by decide +kernel, by decide +kernel⟩
theorem ok_lockersOf {f fO fT fF : Addr} {fd fdO fdT fdF : FuncData} (F : Fun K "lockers_of" "lockers_of" sLockersOf f fd) (T : Txt K mg C)
    (GO : FnOk P w K mg base CX0 1 fO fdO ["stays"] (spOrd K C)) (bO : Binds K fdO ["stays"] []) (gO : mg "in_order" = some (.ref fO)) (kO : PySem.W.keepIn K (.ref fO) = true)
    (GT : FnOk P w K mg base CX0 2 fT fdT ["stays", "hour"] (spThere K C)) (bT : Binds K fdT ["stays", "hour"] []) (gT : mg "there" = some (.ref fT)) (kT : PySem.W.keepIn K (.ref fT) = true)
    (GF : FnOk P w K mg base CX0 1 fF fdF ["taken"] (spLeast K)) (bF : Binds K fdF ["taken"] []) (gF : mg "least_free" = some (.ref fF)) (kF : PySem.W.keepIn K (.ref fF) = true) :
    FnOk P w K mg base CX0 3 f fd ["stays"] (spLk K C) := by
  refine F.ok scM (fun vs H Q E h => ?_) (fun cdv A outer s H vs Q E hr h => ?_)
  · obtain ⟨a, A, l, rfl, _⟩ := h
    rfl
  · obtain ⟨a, A, l, rfl, hS, hW, q⟩ := h
    have hr1 : Room 1 _ := hr.mono (by decide)
    have few := hW.few
    refine ⟨_, pss_cons (ps_set (i := 1) scM.nd rfl (Or.inr rfl) (pe_op op_rep (pe_lst (pa_cons pe_non pa_nil)) (pe_callB call_len_seq (by rfl) T.len PySem.boot_len (pa_cons (pv 0) pa_nil))))
      (pss_cons (ps_set (i := 2) scM.nd rfl (Or.inl rfl) (pe_lst pa_nil))
      (pss_cons (ps_for PassesOwn.never rfl (pi_list (pe_call GO hr1 rfl gO kO bO .nil pass0 (pa_cons (pv 0) pa_nil))) (pg_name (i := 3) scM.nd rfl (Or.inl rfl))
        (pss_cons (ps_set (i := 4) scM.nd rfl (Or.inl rfl) (pe_call GT hr rfl gT kT bT .nil pass0 (pa_cons (pv 2) (pa_cons (pe_fld (pv 3) rfl) pa_nil))))
        (pss_cons (ps_asg (pe_call GF hr1 rfl gF kF bF .nil pass0 (pa_cons (pe_lc (own := [("other", 5)]) (g := gName 5) (tt := tYes) rfl scM.nd (pi_list (pv 4))
            (blkOk_by (own := [("other", 5)]) (N := ["stays", "found", "earlier", "stay", "here", "other"]) (sc := defScope sLockersOf) (by decide +kernel)) (fun _ _ _ _ _ => pg_name (i := 5) scM.nd rfl (Or.inl rfl)) (fun _ _ _ _ _ => pts_nil)
            (fun _ _ _ _ _ => pe_ix (r := rIxL K) ix_list (pv 1) (pe_fldK K rfl (pv 5) rfl) (fun _ _ => rfl))) pa_nil)) (pg_sub (pv 1) (pe_fld (pv 3) rfl) set_list))
        (pss_one (ps_expr (pe_bm PySem.F.plainAttrs_list PySem.F.slot_list_append PySem.F.type_list_append mt_append (pv 2) (pa_cons (pv 3) pa_nil)))))))
      (pss_one (ps_ret (pv 1))))), ?_⟩
    -- found = [None] * len(stays); earlier = []
    refine ⟨(by show 1 ≤ sizeLine; decide), fun p0 n0 => ?_⟩
    have s0 : Same H (upd H p0 (.lst [V.non])) := same_upd n0
    refine ⟨_, rfl, a, _, rfl, .inl (s0.seq hS), p0, _, _, rfl, rfl, upd_same, ?_, ?_, ?_, fun p nf => ?_⟩
    · omega
    · rw [rf_len, List.length_range]
      omega
    · rw [rf_len, List.length_range, Int.toNat_natCast, List.length_singleton, Nat.one_mul]
      exact Nat.le_of_lt (small1000 (by omega))
    rw [rf_len, List.length_range, Int.toNat_natCast, fv_nil]
    have s1 : Same (upd H p0 (.lst [V.non])) (upd (upd H p0 (.lst [V.non])) p (.lst (fv l.length []))) := same_upd nf
    generalize hG : upd (upd H p0 (.lst [V.non])) p (.lst (fv l.length [])) = G at *
    have hGp : G p = some (.lst (fv l.length [])) := by rw [← hG]; exact upd_same
    have np : H p = none := s0.free nf
    have s01 : Same H G := s0.trans s1
    refine ⟨Nat.zero_le _, fun e ne => ?_⟩
    have s2 : Same G (upd G e (.lst [])) := same_upd ne
    have npe : p ≠ e := ne_of_none hGp ne
    have ne' : H e = none := s01.free ne
    refine ⟨_, rfl, a, A, l, rfl, s2.seq (s01.seq hS), hW.same (s01.trans s2), fun H1 r s3 nr hr' => ?_⟩
    have ner : e ≠ r := ne_of_none (upd_same (H := G) (a := e) (o := .lst [])) nr
    have npr : p ≠ r := ne_of_none (s2 _ _ hGp) nr
    have lo := inOrder_len l
    have nd := inOrder_nodup l
    refine ⟨r, rfl, ⟨_, SqL.of hr'⟩, for_list (K := K) (a := r) (xs := rf A (Ks439.inOrder l)) (fun i σ H' => ∃ v3 v4, σ = [some (.ref a), some (.ref p), some (.ref e), v3, v4, none] ∧ Same H H' ∧ H' r = some (.lst (rf A (Ks439.inOrder l))) ∧ H' p = some (.lst (fv l.length (got l i))) ∧ H' e = some (.lst (rf A ((Ks439.inOrder l).take i))))
      ⟨none, none, rfl, (s01.trans s2).trans s3, hr', s3 _ _ (s2 _ _ hGp), s3 _ _ upd_same⟩ (fun i σ H' _ ⟨_, _, _, _, z, _⟩ => SqL.of z) ?_ ?_⟩
    · rintro i x σ H' hi ⟨v3, v4, rfl, s4, hr4, hp4, he4⟩
      obtain ⟨k, hk, rfl⟩ := rf_at hi
      have lk' : k < l.length := inOrder_lt (mem_at hk)
      obtain ⟨dk, hk1⟩ := (hW.same s4).at_ k lk'
      have tl : ((Ks439.inOrder l).take i).length ≤ 1000 := Nat.le_trans (List.length_take_le' _ _) (by omega)
      have keys := got_keys l i
      have ndk : ((got l i).map (·.1)).Nodup := by
        rw [keys]
        exact (List.take_sublist _ _).nodup nd
      have kout : k ∉ (got l i).map (·.1) := by
        rw [keys]
        obtain ⟨hl, ek⟩ := List.getElem?_eq_some_iff.mp hk
        intro z
        obtain ⟨j, hj, ej⟩ := List.getElem_of_mem z
        have hj' : j < i := by
          rw [List.length_take] at hj
          omega
        rw [List.getElem_take] at ej
        have := (List.getElem_inj (h₀ := by rw [List.length_take] at hj; omega) (h₁ := hl) nd).mp (ej.trans ek.symm)
        omega
      -- here = there(earlier, stay.begin)
      refine ⟨_, rfl, _, rfl, A k, C, dk, _, _, rfl, hk1, T.cl, T.nB, sF_begin _ _, ?_⟩
      refine ⟨e, A, l, _, _, rfl, SqL.of he4, hW.same s4, fun m hm => inOrder_lt (List.mem_of_mem_take hm), tl, fun H2 c s5 nc hc => ?_⟩
      have s45 := s4.trans s5
      have hp5 := s5 _ _ hp4
      have he5 := s5 _ _ he4
      have hr5 := s5 _ _ hr4
      rw [← keys] at hc
      -- the lockers taken
      refine ⟨_, rfl, c, rfl, ⟨_, SqL.of hc⟩, fun D hD => lc_list (K := K) (a := c) (xs := rf A (((got l i).map (·.1)).filter (Ks439.there l (Ks439.stay l k).from_))) (fun m H' => Same H2 H' ∧ H' D = some (.lst (vI (((((got l i).map (·.1)).filter (Ks439.there l (Ks439.stay l k).from_)).take m).map fun j => (lk (got l i) j).getD 0))))
        ⟨same_upd hD, upd_same⟩ (fun m H' _ z => SqL.of (z.1 _ _ hc)) ?_ ?_⟩
      · rintro m x H3 hm ⟨s6, hd⟩
        obtain ⟨j, hj, rfl⟩ := rf_at hm
        have jm := (List.mem_filter.mp (mem_at hj)).1
        have jl : j < l.length := by
          rw [keys] at jm
          exact inOrder_lt (List.mem_of_mem_take jm)
        obtain ⟨v, hv⟩ := lk_mem jm
        obtain ⟨dj, hj1⟩ := ((hW.same s45).same s6).at_ j jl
        refine ⟨rfl, yes_mk (iteT ?_)⟩
        refine ⟨_, rfl, _, rfl, A j, C, dj, _, _, rfl, hj1, T.cl, T.nN, sF_number _ _, p, _, _, _, rfl, rfl, SqL.of (s6 _ _ hp5), at_of (j := j) rfl (fv_get jl hv), _, hd, ?_, same_put s6 hD, ?_⟩
        · rw [vI_len, List.length_map]
          refine small1000 (Nat.le_trans (List.length_take_le' _ _) (Nat.le_trans (List.length_filter_le _ _) ?_))
          rw [keys]
          exact tl
        · rw [upd_same, take_more hj]
          unfold vI
          rw [List.map_append, List.map_append]
          show _ = some (HO.lst (_ ++ [V.int (((lk (got l i) j).getD 0 : Nat) : Int)]))
          rw [hv]
          rfl
      · rintro H3 ⟨s6, hd⟩
        rw [rf_len, List.take_length] at hd
        refine ⟨D, taken l (got l i) (Ks439.stay l k).from_, rfl, SqL.of hd, fun n hn => ?_⟩
        have ef : Ks439.free l (got l i) k = n := free_least ndk hn
        have s456 := s45.trans s6
        have hp6 := s6 _ _ hp5
        have he6 := s6 _ _ he5
        have hr6 := s6 _ _ hr5
        -- found[stay.number] = ..
        obtain ⟨dk3, hk3⟩ := (hW.same s456).at_ k lk'
        refine ⟨_, rfl, _, rfl, A k, C, dk3, _, _, rfl, hk3, T.cl, T.nN, sF_number _ _, p, _, _, k, rfl, rfl, hp6, at_nat (by rw [fv_len]; exact lk'), ?_⟩
        rw [fv_set kout]
        have s7 : Same H (upd H3 p (.lst (fv l.length (got l i ++ [(k, n)])))) := same_put s456 np
        have he7 : (upd H3 p (.lst (fv l.length (got l i ++ [(k, n)])))) e = some (.lst (rf A ((Ks439.inOrder l).take i))) := by
          rw [upd_ne npe.symm]
          exact he6
        have hr7 : (upd H3 p (.lst (fv l.length (got l i ++ [(k, n)])))) r = some (.lst (rf A (Ks439.inOrder l))) := by
          rw [upd_ne npr.symm]
          exact hr6
        have hp7 : (upd H3 p (.lst (fv l.length (got l i ++ [(k, n)])))) p = some (.lst (fv l.length (got l i ++ [(k, n)]))) := upd_same
        generalize hU : upd H3 p (.lst (fv l.length (got l i ++ [(k, n)]))) = U at *
        -- earlier.append(stay)
        refine ⟨_, rfl, .inl ⟨rfl, _, SqL.of he7⟩, _, rfl, e, _, _, rfl, rfl, he7, ?_, ?_⟩
        · rw [rf_len]
          exact small1000 tl
        refine ⟨some (.ref (A k)), some (.ref c), rfl, same_put s7 ne', ?_, ?_, ?_⟩
        · rw [upd_ne ner.symm]
          exact hr7
        · rw [upd_ne npe, hp7, got_more hk, ef]
        · rw [upd_same, take_more hk]
          unfold rf
          rw [List.map_append]
          rfl
    · rintro σ H' ⟨v3, v4, rfl, s4, hr4, hp4, he4⟩
      rw [rf_len, got_all, fv_all] at hp4
      exact ⟨_, rfl, q H' p s4 np hp4⟩
theorem scQ : FnScope ["stays", "found"] ["stays"] (defScope sLockers) := ⟨rfl, rfl, rfl, by decide +kernel, rfl, by decide +kernel, by decide +kernel⟩
theorem ok_lockers {f fA fO fP : Addr} {fd fdA fdO fdP : FuncData} {tk : Tok} (F : Fun K "lockers" "lockers" sLockers f fd) (T : Txt K mg C) (gR : mg "REFUSED" = some (.int (-22) tk))
    (GA : FnOk P w K mg base CX0 1 fA fdA ["numbers"] (spAre K)) (bA : Binds K fdA ["numbers"] []) (gA : mg "are_stays" = some (.ref fA)) (kA : PySem.W.keepIn K (.ref fA) = true)
    (GO : FnOk P w K mg base CX0 3 fO fdO ["numbers"] (spOf K C)) (bO : Binds K fdO ["numbers"] []) (gO : mg "stays_of" = some (.ref fO)) (kO : PySem.W.keepIn K (.ref fO) = true)
    (GP : FnOk P w K mg base CX0 3 fP fdP ["stays"] (spLk K C)) (bP : Binds K fdP ["stays"] []) (gP : mg "lockers_of" = some (.ref fP)) (kP : PySem.W.keepIn K (.ref fP) = true) :
    FnOk P w K mg base CX0 4 f fd ["stays"] (spAns K) := by
  refine F.ok scQ (fun vs H Q E h => ?_) (fun cdv A outer s H vs Q E hr h => ?_)
  · obtain ⟨a, nl, rfl, _⟩ := h
    rfl
  · obtain ⟨a, nl, rfl, hS, hlen, q⟩ := h
    have hr1 : Room 1 _ := hr.mono (by decide)
    refine ⟨_, pss_cons (ps_if (pt_not (pt_val (pe_call GA hr1 rfl gA kA bA .nil pass0 (pa_cons (pv 0) pa_nil)))) (pss_one (ps_ret (pe_lst (pa_cons (pe_glob (v := V.int (-22)) rfl gR ⟨_, rfl⟩) pa_nil)))) pss_nil)
      (pss_cons (ps_set (i := 1) scQ.nd rfl (Or.inl rfl) (pe_call GP hr rfl gP kP bP .nil pass0 (pa_cons (pe_call GO hr rfl gO kO bO .nil pass0 (pa_cons (pv 0) pa_nil)) pa_nil)))
      (pss_one (ps_ret (pe_op op_cat (pe_lst (pa_cons (pe_callB call_len_seq (by rfl) T.len PySem.boot_len (pa_cons (pv 1) pa_nil)) pa_nil)) (pv 1))))), ?_⟩
    refine ⟨_, rfl, a, nl, rfl, hS, hlen, fun H1 s1 => ?_⟩
    refine ⟨_, rfl, ?_⟩
    cases co : ok nl with
    | false =>
      refine iteT ⟨(by show 1 ≤ sizeLine; decide), fun p _ => q _ p ?_⟩
      rw [upd_same, ans_no co]
      rfl
    | true =>
      refine iteF ?_
      obtain ⟨h2, h3⟩ := ok_facts co
      refine ⟨_, rfl, a, nl, rfl, s1.seq hS, h3, h2, fun H2 r A s2 nr hW hr2 => ?_⟩
      refine ⟨r, A, _, rfl, SqL.of hr2, hW, fun H3 g s3 ng hg => ?_⟩
      refine ⟨_, rfl, g, _, rfl, .inl (SqL.of hg), (by show 1 ≤ sizeLine; decide), fun p np => ?_⟩
      have s4 : Same H3 (upd H3 p (.lst [V.int ((vI ((List.range (Ks439.staysOf nl).length).map (Ks439.lockerOf (Ks439.staysOf nl)))).length : Nat)])) := same_upd np
      refine ⟨_, rfl, p, g, _, _, rfl, rfl, upd_same, s4 _ _ hg, ?_, fun d nd => ?_⟩
      · rw [vI_len, List.length_map, List.length_range]
        have z4 := hW.few
        exact Nat.le_of_lt (small1000 (by show 1 + _ ≤ 1000; omega))
      · refine q _ d ?_
        rw [upd_same, ans_yes co, vI_len]
        rfl
end
end Rs
namespace Rs
open PySem PySem.Spec PyProof.Rows L2
open PySem.W (Codec)
/-! ### what the top has written -/
theorem all_mk {P : Program} {w : World} {K : PySem.W.Frag} {h : Heap} {mg : Str → Option Value} {fa C f1 f2 f3 f4 f5 f6 f7 f8 f9 : Addr} (X : K.In h) (G : h.Ns mainGlobals mg) (hfa : mg "lockers" = some (.ref fa))
    {od1 an1 od2 an2 od3 an3 od4 an4 od5 an5 od6 an6 od7 an7 od8 an8 od9 an9 : Option Addr} {sl1 sl2 sl3 sl4 sl5 sl6 sl7 sl8 sl9 : Array (Option Value)} {oc1 kV1 dc1 pm1 cd1 ct1 oc2 kV2 dc2 pm2 cd2 ct2 oc3 kV3 dc3 pm3 cd3 ct3 oc4 kV4 dc4 pm4 cd4 ct4 oc5 kV5 dc5 pm5 cd5 ct5 oc6 kV6 dc6 pm6 cd6 ct6 oc7 kV7 dc7 pm7 cd7 ct7 oc8 kV8 dc8 pm8 cd8 ct8 oc9 kV9 dc9 pm9 cd9 ct9 : Value} {t0 t1 t2 : Tok}
    (aC : PySem.W.nsIn K mainGlobals "Stay" = some (some (.ref C)))
    (a1 : PySem.W.findIn K (.ref C) "__init__" = some (some (.ref f1))) (i1 : PySem.W.isFn K (.ref f1) = true) (l1 : K.lookup f1 = some ⟨oc1, od1, .func (PySem.W.fnOf "__init__" "Stay.__init__" (defArgs sInit) (defBody sInit) (defScope sInit) .none kV1 dc1 pm1 an1 cd1 ct1), sl1⟩) (c1 : PySem.W.codeIn K cd1 "Stay.__init__" = true) (k1 : PySem.W.keepIn K (.ref f1) = true)
    (a2 : PySem.W.findIn K (.ref C) "has" = some (some (.ref f2))) (i2 : PySem.W.isFn K (.ref f2) = true) (l2 : K.lookup f2 = some ⟨oc2, od2, .func (PySem.W.fnOf "has" "Stay.has" (defArgs sHas) (defBody sHas) (defScope sHas) .none kV2 dc2 pm2 an2 cd2 ct2), sl2⟩) (c2 : PySem.W.codeIn K cd2 "Stay.has" = true) (k2 : PySem.W.keepIn K (.ref f2) = true)
    (a3 : PySem.W.nsIn K mainGlobals "are_stays" = some (some (.ref f3))) (l3 : K.lookup f3 = some ⟨oc3, od3, .func (PySem.W.fnOf "are_stays" "are_stays" (defArgs sAre) (defBody sAre) (defScope sAre) .none kV3 dc3 pm3 an3 cd3 ct3), sl3⟩) (c3 : PySem.W.codeIn K cd3 "are_stays" = true) (k3 : PySem.W.keepIn K (.ref f3) = true)
    (a4 : PySem.W.nsIn K mainGlobals "stays_of" = some (some (.ref f4))) (l4 : K.lookup f4 = some ⟨oc4, od4, .func (PySem.W.fnOf "stays_of" "stays_of" (defArgs sOf) (defBody sOf) (defScope sOf) .none kV4 dc4 pm4 an4 cd4 ct4), sl4⟩) (c4 : PySem.W.codeIn K cd4 "stays_of" = true) (k4 : PySem.W.keepIn K (.ref f4) = true)
    (a5 : PySem.W.nsIn K mainGlobals "there" = some (some (.ref f5))) (l5 : K.lookup f5 = some ⟨oc5, od5, .func (PySem.W.fnOf "there" "there" (defArgs sThere) (defBody sThere) (defScope sThere) .none kV5 dc5 pm5 an5 cd5 ct5), sl5⟩) (c5 : PySem.W.codeIn K cd5 "there" = true) (k5 : PySem.W.keepIn K (.ref f5) = true)
    (a6 : PySem.W.nsIn K mainGlobals "in_order" = some (some (.ref f6))) (l6 : K.lookup f6 = some ⟨oc6, od6, .func (PySem.W.fnOf "in_order" "in_order" (defArgs sOrd) (defBody sOrd) (defScope sOrd) .none kV6 dc6 pm6 an6 cd6 ct6), sl6⟩) (c6 : PySem.W.codeIn K cd6 "in_order" = true) (k6 : PySem.W.keepIn K (.ref f6) = true)
    (a7 : PySem.W.nsIn K mainGlobals "least_free" = some (some (.ref f7))) (l7 : K.lookup f7 = some ⟨oc7, od7, .func (PySem.W.fnOf "least_free" "least_free" (defArgs sLeast) (defBody sLeast) (defScope sLeast) .none kV7 dc7 pm7 an7 cd7 ct7), sl7⟩) (c7 : PySem.W.codeIn K cd7 "least_free" = true) (k7 : PySem.W.keepIn K (.ref f7) = true)
    (a8 : PySem.W.nsIn K mainGlobals "lockers_of" = some (some (.ref f8))) (l8 : K.lookup f8 = some ⟨oc8, od8, .func (PySem.W.fnOf "lockers_of" "lockers_of" (defArgs sLockersOf) (defBody sLockersOf) (defScope sLockersOf) .none kV8 dc8 pm8 an8 cd8 ct8), sl8⟩) (c8 : PySem.W.codeIn K cd8 "lockers_of" = true) (k8 : PySem.W.keepIn K (.ref f8) = true)
    (a9 : PySem.W.nsIn K mainGlobals "lockers" = some (some (.ref f9))) (l9 : K.lookup f9 = some ⟨oc9, od9, .func (PySem.W.fnOf "lockers" "lockers" (defArgs sLockers) (defBody sLockers) (defScope sLockers) .none kV9 dc9 pm9 an9 cd9 ct9), sl9⟩) (c9 : PySem.W.codeIn K cd9 "lockers" = true) (k9 : PySem.W.keepIn K (.ref f9) = true)
    (pg : PySem.W.plainGet K C Str.empty = true) (hd : PySem.W.hasDictIn K C = true) (po : PySem.W.plainOver K C = true) (sa : PySem.W.findIn K (.ref C) "__setattr__" = some (some (.builtin "object.__setattr__"))) (mk : PySem.W.makesIn K C = true) (kc : PySem.W.keepIn K (.ref C) = true)
    (nN : PySem.W.findIn K (.ref C) "number" = some none) (nB : PySem.W.findIn K (.ref C) "begin" = some none) (nE : PySem.W.findIn K (.ref C) "end" = some none)
    (gcst0 : PySem.W.nsIn K mainGlobals "MOST_STAYS" = some (some (.int 10 t0)))    (gcst1 : PySem.W.nsIn K mainGlobals "LAST_HOUR" = some (some (.int 24 t1)))    (gcst2 : PySem.W.nsIn K mainGlobals "REFUSED" = some (some (.int (-22) t2))) (z_len : PySem.W.nsIn K mainGlobals "len" = some none) (z_range : PySem.W.nsIn K mainGlobals "range" = some none) (z_all : PySem.W.nsIn K mainGlobals "all" = some none) (z_sorted : PySem.W.nsIn K mainGlobals "sorted" = some none) :
    ∃ fd : FuncData, (∀ (s : Shared) (us : List Value), us.length = (["stays"] : List Str).length → BindsTo s fd ⟨us, []⟩ ((["stays"] : List Str).zip us)) ∧ ∀ base : Heap, K.In base → base.Ns mainGlobals mg → FnOk P w K mg base CX0 4 fa fd ["stays"] (spAns K) := by
  have e := hfa.symm.trans (PySem.W.mg_of X G a9)
  cases e
  have T : Txt K mg C := ⟨⟨pg, hd, po, sa⟩, nN, nB, nE, PySem.W.mg_of X G aC, PySem.W.mg_none_of X G z_len, PySem.W.mg_none_of X G z_range, PySem.W.mg_none_of X G z_all⟩
  have F1 := fun_mk (st := sInit) l1 c1 k1
  have b1 := F1.binds (ps := ["self", "number", "begin", "end"]) fun _ _ _ _ _ _ us hl => match us, hl with | [_, _, _, _], _ => rfl
  have F2 := fun_mk (st := sHas) l2 c2 k2
  have b2 := F2.binds (ps := ["self", "hour"]) fun _ _ _ _ _ _ us hl => match us, hl with | [_, _], _ => rfl
  have F3 := fun_mk (st := sAre) l3 c3 k3
  have b3 := F3.binds (ps := ["numbers"]) fun _ _ _ _ _ _ us hl => match us, hl with | [_], _ => rfl
  have F4 := fun_mk (st := sOf) l4 c4 k4
  have b4 := F4.binds (ps := ["numbers"]) fun _ _ _ _ _ _ us hl => match us, hl with | [_], _ => rfl
  have F5 := fun_mk (st := sThere) l5 c5 k5
  have b5 := F5.binds (ps := ["stays", "hour"]) fun _ _ _ _ _ _ us hl => match us, hl with | [_, _], _ => rfl
  have F6 := fun_mk (st := sOrd) l6 c6 k6
  have b6 := F6.binds (ps := ["stays"]) fun _ _ _ _ _ _ us hl => match us, hl with | [_], _ => rfl
  have F7 := fun_mk (st := sLeast) l7 c7 k7
  have b7 := F7.binds (ps := ["taken"]) fun _ _ _ _ _ _ us hl => match us, hl with | [_], _ => rfl
  have F8 := fun_mk (st := sLockersOf) l8 c8 k8
  have b8 := F8.binds (ps := ["stays"]) fun _ _ _ _ _ _ us hl => match us, hl with | [_], _ => rfl
  have F9 := fun_mk (st := sLockers) l9 c9 k9
  have b9 := F9.binds (ps := ["stays"]) fun _ _ _ _ _ _ us hl => match us, hl with | [_], _ => rfl
  refine ⟨PySem.W.fnOf "lockers" "lockers" (defArgs sLockers) (defBody sLockers) (defScope sLockers) .none kV9 dc9 pm9 an9 cd9 ct9, fun s us hu => match us, hu with | [_], _ => .of_eq rfl, fun base _ _ => ?_⟩
  have G1 := ok_init (P := P) (w := w) (base := base) F1 T
  have G2 := ok_has (P := P) (w := w) (base := base) F2 T
  have G3 := ok_are (P := P) (w := w) (base := base) F3 T (PySem.W.mg_of X G gcst0) (PySem.W.mg_of X G gcst1)
  have G4 := ok_of (P := P) (w := w) (base := base) F4 T ⟨mk, a1, i1, kc⟩ G1 b1
  have G5 := ok_there (P := P) (w := w) (base := base) F5 T G2 b2 ⟨a2, i2, k2⟩
  have G6 := ok_order (P := P) (w := w) (base := base) F6 T (PySem.W.mg_none_of X G z_sorted)
  have G7 := ok_least (mg := mg) (P := P) (w := w) (base := base) F7
  have G8 := ok_lockersOf (P := P) (w := w) (base := base) F8 T G6 b6 (PySem.W.mg_of X G a6) k6 G5 b5 (PySem.W.mg_of X G a5) k5 G7 b7 (PySem.W.mg_of X G a7) k7
  exact ok_lockers F9 T (PySem.W.mg_of X G gcst2) G3 b3 (PySem.W.mg_of X G a3) k3 G4 b4 (PySem.W.mg_of X G a4) k4 G8 b8 (PySem.W.mg_of X G a8) k8
end Rs
open PySem PySem.W PyProof.Rows
set_option maxRecDepth 100000 in
set_option maxHeartbeats 8000000 in
theorem PySem.Challenge.cw_roomstays_s04_lockers_holds : PySem.Challenge.rw_roomstays_s04_lockers.Holds := by
  w_on; k_headS; (case hw => exact ⟨[.list []], by decide +kernel, by decide +kernel⟩)
  k_fillS
  refine L2.walk_specK (r := PySem.Challenge.rw_roomstays_s04_lockers) (k := 4) (CX := L2.CX0) (ps := ["stays"]) (sp := Rs.spAns) (by decide +kernel) rfl rfl ⟨rfl, by decide, by decide⟩ (fun w h Y => PySem.W.kIn_of Y) ?F ?S (fun _ _ _ _ z => z)
  case F =>
    intro w mg fa h Y KX G hmg
    refine' Rs.all_mk KX G hmg ?aC ?a1 ?i1 ?l1 ?c1 ?k1 ?a2 ?i2 ?l2 ?c2 ?k2 ?a3 ?l3 ?c3 ?k3 ?a4 ?l4 ?c4 ?k4 ?a5 ?l5 ?c5 ?k5 ?a6 ?l6 ?c6 ?k6 ?a7 ?l7 ?c7 ?k7 ?a8 ?l8 ?c8 ?k8 ?a9 ?l9 ?c9 ?k9 ?pg ?hd ?po ?sa ?mk ?kc ?nN ?nB ?nE ?gcst0 ?gcst1 ?gcst2 ?z_len ?z_range ?z_all ?z_sorted
    (case aC => k_is); (case a1 => k_is); (case i1 => k_is); (case l1 => k_is); (case c1 => k_is); (case k1 => k_is)
    (case a2 => k_is); (case i2 => k_is); (case l2 => k_is); (case c2 => k_is); (case k2 => k_is); (case a3 => k_is)
    (case l3 => k_is); (case c3 => k_is); (case k3 => k_is); (case a4 => k_is); (case l4 => k_is); (case c4 => k_is)
    (case k4 => k_is); (case a5 => k_is); (case l5 => k_is); (case c5 => k_is); (case k5 => k_is); (case a6 => k_is)
    (case l6 => k_is); (case c6 => k_is); (case k6 => k_is); (case a7 => k_is); (case l7 => k_is); (case c7 => k_is)
    (case k7 => k_is); (case a8 => k_is); (case l8 => k_is); (case c8 => k_is); (case k8 => k_is); (case a9 => k_is)
    (case l9 => k_is); (case c9 => k_is); (case k9 => k_is); (case pg => k_is); (case hd => k_is); (case po => k_is)
    (case sa => k_is); (case mk => k_is); (case kc => k_is); (case nN => k_is); (case nB => k_is); (case nE => k_is)
    (case gcst0 => k_is); (case gcst1 => k_is); (case gcst2 => k_is); (case z_len => k_is); (case z_range => k_is); (case z_all => k_is)
    (case z_sorted => k_is)
  case S =>
    intro K H xs a hO hwi hask hx
    cases hx with
    | cons h1 h2 =>
      cases h2
      cases h1 with
      | lst hs ha =>
        have e := L2.ints_dw a.1 _ ha
        subst e
        have q : ((Codec.inLen 0 24 a.1 && a.1.all (Codec.inInt 0 4294967295)) && true) = true := hwi
        rw [Bool.and_eq_true, Bool.and_eq_true] at q
        obtain ⟨z1, z2⟩ := Rs.nats_of q.1.2
        exact ⟨_, Ks439Neutral.nats a.1, rfl, by rw [z1]; exact hs, by rw [z2]; exact (Codec.inNat_iff.mp q.1.1).2, fun H' p hp => .lst (L2.SqL.of hp) (L2.dw_ints _)⟩
#print axioms PySem.Challenge.cw_roomstays_s04_lockers_holds

