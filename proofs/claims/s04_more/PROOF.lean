import PyProof.Rows.All
import Wide.All
import OpenK.AllK
import Wide.FinOn
import Open.SpecLaws
import KE.OsHead
import KE.OsGo
import HandS.ForSpec
import HandS.Comp
import HandS.Iter
import HandS.Walk
import PySem.Challenge.RW_lapsegrants_s04_more
set_option Elab.async false
set_option maxRecDepth 100000
set_option maxHeartbeats 4000000
set_option linter.all false
namespace Lg
open Kyi2 (Grant grants okGrant okGrants okTaken rising serves pick less use merge)

/-! ### 1. The pick as a fold over the places -/
abbrev g0 : Grant := ⟨0, 0, 0⟩
abbrev gat (l : List Grant) (i : Nat) : Grant := l.getD i ⟨0, 0, 0⟩
/-- whether y stands ahead of the one found so far -/
def ahead (l : List Grant) (acc : Option Nat) (y : Nat) : Bool := match acc with
  | none => true
  | some x => decide ((gat l y).b < (gat l x).b)
def best (l : List Grant) (h : Nat) (acc : Option Nat) (y : Nat) : Option Nat := if serves (gat l y) h && ahead l acc y then some y else acc
def found (l : List Grant) (h n : Nat) : Option Nat := (List.range n).foldl (best l h) none

theorem found_succ (l : List Grant) (h n : Nat) : found l h (n + 1) = best l h (found l h n) n := by
  unfold found
  rw [List.range_succ, List.foldl_append]
  rfl
theorem best_some (l : List Grant) (h : Nat) : ∀ (L : List Nat) (x : Nat),
    L.foldl (best l h) (some x) = some ((L.filter fun i => serves (gat l i) h).foldl (fun x y => if (gat l y).b < (gat l x).b then y else x) x)
  | [], _ => rfl
  | y :: L, x => by
    rw [List.foldl_cons, List.filter_cons]
    by_cases s : serves (gat l y) h = true
    · rw [if_pos s, List.foldl_cons]
      have e : best l h (some x) y = some (if (gat l y).b < (gat l x).b then y else x) := by
        unfold best ahead
        rw [s, Bool.true_and]
        by_cases c : (gat l y).b < (gat l x).b
        · rw [if_pos c, if_pos (decide_eq_true c)]
        · rw [if_neg c, if_neg (by simpa using c)]
      rw [e]
      exact best_some l h L _
    · have e : best l h (some x) y = some x := by
        unfold best
        rw [Bool.eq_false_iff.mpr s, Bool.false_and]
        rfl
      rw [if_neg s, e]
      exact best_some l h L x
theorem best_none (l : List Grant) (h : Nat) : ∀ L : List Nat,
    L.foldl (best l h) none = match L.filter fun i => serves (gat l i) h with
      | [] => none
      | i :: r => some (r.foldl (fun x y => if (gat l y).b < (gat l x).b then y else x) i)
  | [] => rfl
  | y :: L => by
    rw [List.foldl_cons, List.filter_cons]
    by_cases s : serves (gat l y) h = true
    · have e : best l h none y = some y := by
        unfold best ahead
        rw [s]
        rfl
      rw [if_pos s, e, best_some]
    · have e : best l h none y = none := by
        unfold best
        rw [Bool.eq_false_iff.mpr s, Bool.false_and]
        rfl
      rw [if_neg s, e]
      exact best_none l h L
theorem pick_eq (l : List Grant) (h : Nat) : pick l h = found l h l.length := (best_none l h (List.range l.length)).symm

/-! ### 2. What is picked -/
def Better (l : List Grant) (i k : Nat) : Prop := (gat l i).b < (gat l k).b ∨ ((gat l i).b = (gat l k).b ∧ i ≤ k)
structure IsPick (l : List Grant) (h n i : Nat) : Prop where
  lt : i < n
  sv : serves (gat l i) h = true
  bt : ∀ k, k < n → serves (gat l k) h = true → Better l i k
theorem found_spec (l : List Grant) (h : Nat) : ∀ n : Nat, (found l h n = none ∧ ∀ k, k < n → serves (gat l k) h = false) ∨ ∃ i, found l h n = some i ∧ IsPick l h n i
  | 0 => .inl ⟨rfl, fun k hk => absurd hk (Nat.not_lt_zero k)⟩
  | n + 1 => by
    rw [found_succ]
    rcases found_spec l h n with ⟨e, q⟩ | ⟨i, e, q⟩
    · rw [e]
      by_cases s : serves (gat l n) h = true
      · refine .inr ⟨n, ?_, ⟨Nat.lt_succ_self n, s, fun k hk sk => ?_⟩⟩
        · unfold best ahead
          rw [s]
          rfl
        · rcases Nat.lt_succ_iff_lt_or_eq.mp hk with z | z
          · rw [q k z] at sk
            cases sk
          · subst z
            exact .inr ⟨rfl, Nat.le_refl _⟩
      · refine .inl ⟨?_, fun k hk => ?_⟩
        · unfold best
          rw [Bool.eq_false_iff.mpr s]
          rfl
        · rcases Nat.lt_succ_iff_lt_or_eq.mp hk with z | z
          · exact q k z
          · subst z
            exact Bool.eq_false_iff.mpr s
    · rw [e]
      by_cases s : serves (gat l n) h = true
      · by_cases c : (gat l n).b < (gat l i).b
        · refine .inr ⟨n, ?_, ⟨Nat.lt_succ_self n, s, fun k hk sk => ?_⟩⟩
          · unfold best ahead
            rw [s, Bool.true_and, if_pos (decide_eq_true c)]
          · rcases Nat.lt_succ_iff_lt_or_eq.mp hk with z | z
            · rcases q.bt k z sk with y | ⟨y, _⟩
              · exact .inl (Nat.lt_trans c y)
              · exact .inl (by rw [← y]; exact c)
            · subst z
              exact .inr ⟨rfl, Nat.le_refl _⟩
        · refine .inr ⟨i, ?_, ⟨Nat.lt_succ_of_lt q.lt, q.sv, fun k hk sk => ?_⟩⟩
          · unfold best ahead
            rw [s, Bool.true_and, if_neg (by simpa using c)]
          · rcases Nat.lt_succ_iff_lt_or_eq.mp hk with z | z
            · exact q.bt k z sk
            · subst z
              have := q.lt
              rcases Nat.lt_or_eq_of_le (Nat.le_of_not_lt c) with y | y
              · exact .inl y
              · exact .inr ⟨y, by omega⟩
      · refine .inr ⟨i, ?_, ⟨Nat.lt_succ_of_lt q.lt, q.sv, fun k hk sk => ?_⟩⟩
        · unfold best
          rw [Bool.eq_false_iff.mpr s]
          rfl
        · rcases Nat.lt_succ_iff_lt_or_eq.mp hk with z | z
          · exact q.bt k z sk
          · subst z
            exact absurd sk s
theorem found_some {l : List Grant} {h n i : Nat} (e : found l h n = some i) : IsPick l h n i := by
  rcases found_spec l h n with ⟨q, _⟩ | ⟨j, q, p⟩
  · rw [e] at q
    cases q
  · rw [e] at q
    cases q
    exact p
theorem found_none {l : List Grant} {h n : Nat} (e : found l h n = none) : ∀ k, k < n → serves (gat l k) h = false := by
  rcases found_spec l h n with ⟨_, p⟩ | ⟨j, q, _⟩
  · exact p
  · rw [e] at q
    cases q
theorem pick_some {l : List Grant} {h i : Nat} (e : pick l h = some i) : IsPick l h l.length i := found_some (by rw [← pick_eq]; exact e)
theorem pick_none {l : List Grant} {h : Nat} (e : pick l h = none) : ∀ k, k < l.length → serves (gat l k) h = false := found_none (by rw [← pick_eq]; exact e)
theorem IsPick.is {l : List Grant} {h i : Nat} (p : IsPick l h l.length i) : pick l h = some i := by
  cases e : pick l h with
  | none =>
    have := pick_none e i p.lt
    rw [p.sv] at this
    cases this
  | some j =>
    have q := pick_some e
    have a := p.bt j q.lt q.sv
    have b := q.bt i p.lt p.sv
    have : j = i := by
      rcases a with a | ⟨a, a2⟩ <;> rcases b with b | ⟨b, b2⟩ <;> omega
    rw [this]

/-! ### 3. One more of a grant -/
theorem gat_lt {l : List Grant} {i : Nat} (h : i < l.length) : gat l i = l[i] := by
  show l.getD i _ = _
  rw [List.getD_eq_getElem?_getD, List.getElem?_eq_getElem h]
  rfl
theorem gat_set_self {l : List Grant} {i : Nat} {g : Grant} (h : i < l.length) : gat (l.set i g) i = g := by
  rw [gat_lt (by rw [List.length_set]; exact h), List.getElem_set_self]
theorem gat_set_ne {l : List Grant} {i j : Nat} {g : Grant} (h : i ≠ j) : gat (l.set i g) j = gat l j := by
  show (l.set i g).getD j _ = l.getD j _
  rw [List.getD_eq_getElem?_getD, List.getD_eq_getElem?_getD, List.getElem?_set_ne h]
def bump (l : List Grant) (j : Nat) : List Grant := l.set j { gat l j with n := (gat l j).n + 1 }
theorem bump_len (l : List Grant) (j : Nat) : (bump l j).length = l.length := List.length_set
theorem less_len (l : List Grant) (j : Nat) : (less l j).length = l.length := List.length_set
theorem bump_ab (l : List Grant) (j k : Nat) : (gat (bump l j) k).a = (gat l k).a ∧ (gat (bump l j) k).b = (gat l k).b := by
  unfold bump
  by_cases e : j = k
  · subst e
    by_cases h : j < l.length
    · rw [gat_set_self h]
      exact ⟨rfl, rfl⟩
    · rw [List.set_eq_of_length_le (by omega)]
      exact ⟨rfl, rfl⟩
  · rw [gat_set_ne e]
    exact ⟨rfl, rfl⟩
theorem bump_serves {l : List Grant} {j k h : Nat} (s : serves (gat l k) h = true) : serves (gat (bump l j) k) h = true := by
  have e := bump_ab l j k
  have n : (gat l k).n ≤ (gat (bump l j) k).n := by
    unfold bump
    by_cases e : j = k
    · subst e
      by_cases h : j < l.length
      · rw [gat_set_self h]
        exact Nat.le_succ _
      · rw [List.set_eq_of_length_le (by omega)]
        exact Nat.le_refl _
    · rw [gat_set_ne e]
      exact Nat.le_refl _
  unfold serves at s ⊢
  rw [e.1, e.2]
  simp only [Bool.and_eq_true, decide_eq_true_eq] at s ⊢
  exact ⟨s.1, by omega⟩
theorem bump_serves_ne {l : List Grant} {j k h : Nat} (ne : j ≠ k) : serves (gat (bump l j) k) h = serves (gat l k) h := by
  unfold bump
  rw [gat_set_ne ne]
theorem less_bump {l : List Grant} {j : Nat} (hj : j < l.length) : less (bump l j) j = l := by
  unfold less
  show (bump l j).set j { gat (bump l j) j with n := (gat (bump l j) j).n - 1 } = l
  unfold bump
  rw [gat_set_self hj, List.set_set, show ({ gat l j with n := (gat l j).n + 1 - 1 } : Grant) = l[j] by rw [gat_lt hj]; rfl]
  exact List.set_getElem_self hj
theorem bump_less {l : List Grant} {j : Nat} (hj : j < l.length) (hn : 0 < (gat l j).n) : bump (less l j) j = l := by
  unfold bump
  have e : gat (less l j) j = { gat l j with n := (gat l j).n - 1 } := gat_set_self hj
  rw [e]
  unfold less
  rw [List.set_set, show ({ gat l j with n := (gat l j).n - 1 + 1 } : Grant) = l[j] by rw [gat_lt hj] at hn ⊢; rw [Nat.sub_add_cancel hn]]
  exact List.set_getElem_self hj
theorem less_bump_ne {l : List Grant} {i j : Nat} (ne : i ≠ j) : less (bump l j) i = bump (less l i) j := by
  have e1 : gat (bump l j) i = gat l i := gat_set_ne ne.symm
  have e2 : gat (less l i) j = gat l j := gat_set_ne ne
  unfold less
  show (bump l j).set i { gat (bump l j) i with n := (gat (bump l j) i).n - 1 } = bump (l.set i { gat l i with n := (gat l i).n - 1 }) j
  rw [e1]
  unfold bump
  rw [show gat (l.set i { gat l i with n := (gat l i).n - 1 }) j = gat l j from e2]
  exact List.set_comm _ _ ne.symm
theorem serves_pos {g : Grant} {h : Nat} (s : serves g h = true) : 0 < g.n := by
  unfold serves at s
  simp only [Bool.and_eq_true, decide_eq_true_eq] at s
  exact s.2
theorem use_some {l : List Grant} {h i : Nat} {t : List Nat} (e : pick l h = some i) : use l (h :: t) = use (less l i) t := by
  show (match pick l h with | none => (l, some h) | some i => use (less l i) t) = _
  rw [e]
theorem use_none {l : List Grant} {h : Nat} {t : List Nat} (e : pick l h = none) : use l (h :: t) = (l, some h) := by
  show (match pick l h with | none => (l, some h) | some i => use (less l i) t) = _
  rw [e]
theorem use_bump : ∀ (t : List Nat) (l : List Grant) (j : Nat), j < l.length → (use l t).2 = none → (use (bump l j) t).2 = none
  | [], _, _, _, _ => rfl
  | h :: t, l, j, hj, hu => by
    cases e : pick l h with
    | none =>
      rw [use_none e] at hu
      cases hu
    | some i =>
      rw [use_some e] at hu
      have p := pick_some e
      cases e2 : pick (bump l j) h with
      | none =>
        have z := pick_none e2 i (by rw [bump_len]; exact p.lt)
        rw [bump_serves p.sv] at z
        cases z
      | some k =>
        have q := pick_some e2
        rw [use_some e2]
        by_cases c : k = j
        · subst c
          rw [less_bump hj, ← bump_less p.lt (serves_pos p.sv)]
          exact use_bump t (less l i) i (by rw [less_len]; exact p.lt) hu
        · have ek : k = i := by
            have pk : IsPick l h l.length k := by
              refine ⟨by have := q.lt; rw [bump_len] at this; exact this, ?_, fun m hm sm => ?_⟩
              · rw [← bump_serves_ne (j := j) (Ne.symm c)]
                exact q.sv
              · have z := q.bt m (by rw [bump_len]; exact hm) (bump_serves sm)
                unfold Better at z ⊢
                rw [(bump_ab l j k).2, (bump_ab l j m).2] at z
                exact z
            have := pk.is
            rw [e] at this
            exact (Option.some.inj this).symm
          subst ek
          rw [less_bump_ne c]
          exact use_bump t (less l k) j (by rw [less_len]; exact hj) hu
/-- fewer are covered, too -/
theorem use_sub {t s : List Nat} (h : t.Sublist s) : ∀ l : List Grant, (use l s).2 = none → (use l t).2 = none := by
  induction h with
  | slnil => exact fun _ h => h
  | cons a _ ih =>
    intro l hu
    cases e : pick l a with
    | none =>
      rw [use_none e] at hu
      cases hu
    | some i =>
      rw [use_some e] at hu
      have p := pick_some e
      rw [← bump_less p.lt (serves_pos p.sv)]
      exact use_bump _ _ _ (by rw [less_len]; exact p.lt) (ih _ hu)
  | cons_cons a _ ih =>
    intro l hu
    cases e : pick l a with
    | none =>
      rw [use_none e] at hu
      cases hu
    | some i =>
      rw [use_some e] at hu ⊢
      exact ih _ hu

/-! ### 4. Merged -/
def mrg : List Nat → List Nat → List Nat
  | [], ys => ys
  | x :: xs, [] => x :: mrg xs []
  | x :: xs, y :: ys => if y < x then y :: mrg (x :: xs) ys else x :: mrg xs (y :: ys)
termination_by xs ys => xs.length + ys.length
theorem mrg_nil (ys : List Nat) : mrg [] ys = ys := by rw [mrg]
theorem mrg_cons_nil (x : Nat) (xs : List Nat) : mrg (x :: xs) [] = x :: mrg xs [] := by rw [mrg]
theorem mrg_lt {x y : Nat} {xs ys : List Nat} (h : y < x) : mrg (x :: xs) (y :: ys) = y :: mrg (x :: xs) ys := by rw [mrg, if_pos h]
theorem mrg_ge {x y : Nat} {xs ys : List Nat} (h : ¬ y < x) : mrg (x :: xs) (y :: ys) = x :: mrg xs (y :: ys) := by rw [mrg, if_neg h]
theorem mem_mrg : ∀ (xs ys : List Nat) (z : Nat), z ∈ mrg xs ys ↔ z ∈ xs ∨ z ∈ ys
  | [], ys, z => by rw [mrg_nil]; simp
  | x :: xs, [], z => by rw [mrg_cons_nil, List.mem_cons, mem_mrg xs [] z, List.mem_cons, or_assoc]
  | x :: xs, y :: ys, z => by
    by_cases c : y < x
    · rw [mrg_lt c, List.mem_cons, mem_mrg (x :: xs) ys z, List.mem_cons (a := z) (b := y), or_left_comm]
    · rw [mrg_ge c, List.mem_cons, mem_mrg xs (y :: ys) z, List.mem_cons (a := z) (b := x), or_assoc]
termination_by xs ys => xs.length + ys.length
theorem mrg_sorted : ∀ (xs ys : List Nat), xs.Pairwise (· < ·) → ys.Pairwise (· < ·) → (∀ z ∈ xs, z ∉ ys) → (mrg xs ys).Pairwise (· < ·)
  | [], ys, _, h, _ => by rw [mrg_nil]; exact h
  | x :: xs, [], h1, h2, d => by
    rw [mrg_cons_nil]
    rw [List.pairwise_cons] at h1 ⊢
    exact ⟨fun z hz => h1.1 z (((mem_mrg xs [] z).mp hz).resolve_right (by simp)), mrg_sorted xs [] h1.2 h2 (fun z _ => by simp)⟩
  | x :: xs, y :: ys, h1, h2, d => by
    by_cases c : y < x
    · rw [mrg_lt c, List.pairwise_cons]
      rw [List.pairwise_cons] at h2
      refine ⟨fun z hz => ?_, mrg_sorted (x :: xs) ys h1 h2.2 fun z hz hy => d z hz (List.mem_cons_of_mem _ hy)⟩
      rcases (mem_mrg _ _ z).mp hz with m | m
      · rcases List.mem_cons.mp m with e | m
        · rw [e]
          exact c
        · exact Nat.lt_trans c ((List.pairwise_cons.mp h1).1 z m)
      · exact h2.1 z m
    · rw [mrg_ge c, List.pairwise_cons]
      have h1' := List.pairwise_cons.mp h1
      have ne : x ≠ y := fun e => d x (List.mem_cons_self ..) (by rw [e]; exact List.mem_cons_self ..)
      refine ⟨fun z hz => ?_, mrg_sorted xs (y :: ys) h1'.2 h2 fun z hz => d z (List.mem_cons_of_mem _ hz)⟩
      rcases (mem_mrg _ _ z).mp hz with m | m
      · exact h1'.1 z m
      · rcases List.mem_cons.mp m with e | m
        · omega
        · have := (List.pairwise_cons.mp h2).1 z m
          omega
termination_by xs ys => xs.length + ys.length
theorem mrg_length : ∀ (xs ys : List Nat), (mrg xs ys).length = xs.length + ys.length
  | [], ys => by rw [mrg_nil]; simp
  | x :: xs, [] => by rw [mrg_cons_nil, List.length_cons, mrg_length xs []]; simp
  | x :: xs, y :: ys => by
    by_cases c : y < x
    · rw [mrg_lt c, List.length_cons, mrg_length (x :: xs) ys]; simp [Nat.add_assoc]
    · rw [mrg_ge c, List.length_cons, mrg_length xs (y :: ys)]; simp; omega
termination_by xs ys => xs.length + ys.length
theorem sorted_eq : ∀ (xs ys : List Nat), xs.Pairwise (· < ·) → ys.Pairwise (· < ·) → (∀ z, z ∈ xs ↔ z ∈ ys) → xs = ys
  | [], [], _, _, _ => rfl
  | [], y :: ys, _, _, h => by
    have := (h y).mpr (List.mem_cons_self ..)
    simp at this
  | x :: xs, [], _, _, h => by
    have := (h x).mp (List.mem_cons_self ..)
    simp at this
  | x :: xs, y :: ys, h1, h2, h => by
    rw [List.pairwise_cons] at h1 h2
    have e : x = y := by
      have a := (h x).mp (List.mem_cons_self ..)
      have b := (h y).mpr (List.mem_cons_self ..)
      rcases List.mem_cons.mp a with a | a
      · exact a
      · rcases List.mem_cons.mp b with b | b
        · exact b.symm
        · have := h2.1 x a
          have := h1.1 y b
          omega
    subst e
    rw [sorted_eq xs ys h1.2 h2.2 fun z => ?_]
    constructor
    · intro m
      rcases List.mem_cons.mp ((h z).mp (List.mem_cons_of_mem _ m)) with e | m'
      · have := h1.1 z m
        omega
      · exact m'
    · intro m
      rcases List.mem_cons.mp ((h z).mpr (List.mem_cons_of_mem _ m)) with e | m'
      · have := h2.1 z m
        omega
      · exact m'
theorem rising_pw : ∀ l : List Nat, rising l = true → l.Pairwise (· < ·)
  | [], _ => List.Pairwise.nil
  | [a], _ => by simp
  | a :: b :: l, h => by
    have q : (decide (a < b) && rising (b :: l)) = true := h
    rw [Bool.and_eq_true, decide_eq_true_eq] at q
    have ih := rising_pw (b :: l) q.2
    rw [List.pairwise_cons]
    refine ⟨fun z hz => ?_, ih⟩
    rcases List.mem_cons.mp hz with e | m
    · rw [e]
      exact q.1
    · exact Nat.lt_trans q.1 ((List.pairwise_cons.mp ih).1 z m)
structure Halves (t : List Nat) : Prop where
  len : t.length ≤ 60
  pw : t.Pairwise (· < ·)
  lt : ∀ z ∈ t, z < 800
theorem halves_of {t : List Nat} (h : okTaken t = true) : Halves t := by
  unfold okTaken at h
  rw [Bool.and_eq_true, Bool.and_eq_true] at h
  exact ⟨of_decide_eq_true h.1.1, rising_pw t h.1.2, fun z hz => of_decide_eq_true (List.all_eq_true.mp h.2 z hz)⟩
theorem merge_eq {t c : List Nat} (h1 : t.Pairwise (· < ·)) (h2 : c.Pairwise (· < ·)) (l1 : ∀ z ∈ t, z < 800) (l2 : ∀ z ∈ c, z < 800) (d : ∀ z ∈ t, z ∉ c) : merge t c = mrg t c := by
  refine sorted_eq _ _ ?_ (mrg_sorted t c h1 h2 d) fun z => ?_
  · exact List.Pairwise.filter _ List.pairwise_lt_range
  · unfold merge
    rw [List.mem_filter, List.mem_range, mem_mrg]
    show z < 800 ∧ _ ↔ _
    rw [Bool.or_eq_true, List.contains_iff_mem, List.contains_iff_mem]
    constructor
    · exact fun h => h.2
    · exact fun h => ⟨h.elim (l1 z) (l2 z), h⟩
theorem mrg_nil_right : ∀ xs : List Nat, mrg xs [] = xs
  | [] => mrg_nil []
  | x :: xs => by rw [mrg_cons_nil, mrg_nil_right xs]

/-! ### 5. How many more -/
theorem filter_sub {p q : Nat → Bool} (h : ∀ z, p z = true → q z = true) (l : List Nat) : (l.filter p).Sublist (l.filter q) := by
  have e : l.filter p = (l.filter q).filter p := by
    rw [List.filter_filter]
    refine List.filter_congr fun z _ => ?_
    cases e : p z with
    | false => rfl
    | true => rw [h z e]; rfl
  rw [e]
  exact List.filter_sublist
theorem merge_sub (t c : List Nat) (k : Nat) : (merge t (c.take k)).Sublist (merge t (c.take (k + 1))) := by
  refine filter_sub (fun z h => ?_) _
  rw [Bool.or_eq_true, List.contains_iff_mem, List.contains_iff_mem] at h ⊢
  rcases h with h | h
  · exact .inl h
  · refine .inr ?_
    have : (c.take k).Sublist (c.take (k + 1)) := by
      have e : c.take k = (c.take (k + 1)).take k := by rw [List.take_take, Nat.min_eq_left (Nat.le_succ k)]
      rw [e]
      exact List.take_sublist _ _
    exact this.subset h
theorem covered_iff {l : List Grant} {t : List Nat} : Kyi2.covered l t = true ↔ (use l t).2 = none := by
  unfold Kyi2.covered
  cases (use l t).2 <;> simp
theorem covered_down (l : List Grant) (t c : List Nat) (k : Nat) (h : Kyi2.covered l (merge t (c.take (k + 1))) = true) : Kyi2.covered l (merge t (c.take k)) = true :=
  covered_iff.mpr (use_sub (merge_sub t c k) l (covered_iff.mp h))
theorem count_down {p : Nat → Bool} (dn : ∀ k, p (k + 1) = true → p k = true) {N m : Nat} (hm : m ≤ N) (h : p m = true) (hn : m = N ∨ p (m + 1) = false) : ((List.range (N + 1)).filter p).length = m + 1 := by
  have lo : ∀ j k, k + j = m → p k = true := by
    intro j
    induction j with
    | zero => exact fun k e => by rw [show k = m by omega]; exact h
    | succ j ih => exact fun k e => dn k (ih (k + 1) (by omega))
  have hi : ∀ j, m + 1 + j ≤ N → p (m + 1 + j) = false := by
    intro j
    induction j with
    | zero =>
      intro z
      rcases hn with e | e
      · omega
      · exact e
    | succ j ih =>
      intro z
      cases q : p (m + 1 + (j + 1)) with
      | false => rfl
      | true =>
        have := dn (m + 1 + j) q
        rw [ih (by omega)] at this
        cases this
  obtain ⟨d, rfl⟩ : ∃ d, N = m + d := ⟨N - m, by omega⟩
  rw [show m + d + 1 = (m + 1) + d by omega, List.range_add, List.filter_append, List.filter_eq_self.mpr fun a ha => ?_, List.filter_eq_nil_iff.mpr fun a ha => ?_, List.append_nil, List.length_range]
  · obtain ⟨j, hj, rfl⟩ := List.mem_map.mp ha
    have := List.mem_range.mp hj
    rw [hi j (by omega)]
    exact Bool.false_ne_true
  · have := List.mem_range.mp ha
    exact lo (m - a) a (by omega)
theorem more_eq {l : List Grant} {t c : List Nat} {m : Nat} (hm : m ≤ c.length) (h : Kyi2.covered l (merge t (c.take m)) = true) (hn : m = c.length ∨ Kyi2.covered l (merge t (c.take (m + 1))) = false) : Kyi2.more l t c = m := by
  unfold Kyi2.more
  rw [count_down (p := fun k => Kyi2.covered l (merge t (c.take k))) (fun k => covered_down l t c k) hm h hn]
  rfl
theorem merge_take {t c : List Nat} (ht : Halves t) (hc : Halves c) (d : (c.any fun h => t.contains h) = false) (k : Nat) : merge t (c.take k) = mrg t (c.take k) := by
  refine merge_eq ht.pw (hc.pw.sublist (List.take_sublist _ _)) ht.lt (fun z hz => hc.lt z ((List.take_sublist k c).subset hz)) fun z h1 h2 => ?_
  have m := (List.take_sublist k c).subset h2
  have := List.any_eq_false.mp d z m
  rw [List.contains_iff_mem] at this
  exact this h1

/-! ### 6. Halves as told, by the program's loop -/
def rise (before : Int) : List Nat → Bool
  | [] => true
  | h :: r => if (h : Int) ≤ before ∨ 799 < (h : Int) then false else rise h r
theorem rise_eq : ∀ (t : List Nat) (b : Int), rise b t = ((match t with | [] => true | h :: _ => decide (b < (h : Int))) && (rising t && t.all fun h => decide (h < Kyi1.most)))
  | [], _ => rfl
  | [h], b => by
    show (if (h : Int) ≤ b ∨ 799 < (h : Int) then false else true) = (decide (b < (h : Int)) && (true && (decide (h < 800) && true)))
    by_cases c : (h : Int) ≤ b ∨ 799 < (h : Int)
    · rw [if_pos c]
      rcases c with c | c
      · rw [decide_eq_false (show ¬ b < (h : Int) by omega)]
        rfl
      · rw [decide_eq_false (show ¬ h < 800 by omega)]
        simp
    · rw [if_neg c, decide_eq_true (show b < (h : Int) by omega), decide_eq_true (show h < 800 by omega)]
      rfl
  | h :: k :: t, b => by
    show (if (h : Int) ≤ b ∨ 799 < (h : Int) then false else rise h (k :: t)) = (decide (b < (h : Int)) && ((decide (h < k) && rising (k :: t)) && (decide (h < 800) && (k :: t).all fun h => decide (h < Kyi1.most))))
    rw [rise_eq (k :: t) h]
    by_cases c : (h : Int) ≤ b ∨ 799 < (h : Int)
    · rw [if_pos c]
      rcases c with c | c
      · rw [decide_eq_false (show ¬ b < (h : Int) by omega)]
        rfl
      · rw [decide_eq_false (show ¬ h < 800 by omega)]
        simp
    · rw [if_neg c, decide_eq_true (show b < (h : Int) by omega), decide_eq_true (show h < 800 by omega)]
      show (decide ((h : Int) < (k : Int)) && _) = _
      have e : decide ((h : Int) < (k : Int)) = decide (h < k) := by
        by_cases z : h < k
        · rw [decide_eq_true z, decide_eq_true (show (h : Int) < (k : Int) by omega)]
        · rw [decide_eq_false z, decide_eq_false (show ¬ (h : Int) < (k : Int) by omega)]
      rw [e]
      simp [Bool.and_assoc]
theorem okTaken_eq (t : List Nat) : okTaken t = (decide (t.length ≤ 60) && rise (-1) t) := by
  rw [rise_eq]
  unfold okTaken
  rw [Bool.and_assoc]
  have e : (match t with | [] => true | h :: _ => decide ((-1 : Int) < (h : Int))) = true := by
    cases t with
    | nil => rfl
    | cons h r => exact decide_eq_true (by omega)
  rw [e, Bool.true_and]

/-! ### 7. Grants as told -/
theorem grants_length : ∀ (n : Nat) (l : List Nat), l.length = 3 * n → (grants l).length = n
  | 0, l, h => by
    have : l = [] := List.length_eq_zero_iff.mp (by omega)
    subst this
    rfl
  | n + 1, a :: b :: c :: l, h => by
    show (grants l).length + 1 = n + 1
    rw [grants_length n l (by simp only [List.length_cons] at h; omega)]
  | n + 1, [], h => by simp at h
  | n + 1, [_], h => by simp only [List.length_cons, List.length_nil] at h; omega
  | n + 1, [_, _], h => by simp only [List.length_cons, List.length_nil] at h; omega
theorem grants_at : ∀ (i : Nat) (l : List Nat) (n : Nat), l.length = 3 * n → i < n → ∃ a b c, l[3 * i]? = some a ∧ l[3 * i + 1]? = some b ∧ l[3 * i + 2]? = some c ∧ (grants l)[i]? = some ⟨a, b, c⟩
  | 0, a :: b :: c :: l, _, _, _ => ⟨a, b, c, rfl, rfl, rfl, rfl⟩
  | i + 1, a :: b :: c :: l, n, h, hi => by
    obtain ⟨x, y, z, h1, h2, h3, h4⟩ := grants_at i l (n - 1) (by simp only [List.length_cons] at h; omega) (by omega)
    exact ⟨x, y, z, h1, h2, h3, h4⟩
  | i, [], n, h, hi => by simp only [List.length_nil] at h; omega
  | i, [_], n, h, hi => by simp only [List.length_cons, List.length_nil] at h; omega
  | i, [_, _], n, h, hi => by simp only [List.length_cons, List.length_nil] at h; omega
theorem okGrants_len {l : List Nat} (h3 : l.length % 3 = 0) (h30 : l.length ≤ 30) : okGrants (grants l) = (grants l).all okGrant := by
  unfold okGrants
  have := grants_length (l.length / 3) l (by omega)
  rw [decide_eq_true (show (grants l).length ≤ 10 by omega), Bool.true_and]
theorem okGrants_no {l : List Nat} (h3 : l.length % 3 = 0) (h30 : ¬ l.length ≤ 30) : okGrants (grants l) = false := by
  unfold okGrants
  have := grants_length (l.length / 3) l (by omega)
  rw [decide_eq_false (show ¬ (grants l).length ≤ 10 by omega), Bool.false_and]

/-! ### 8. The answers -/
def il (l : List Nat) : List Int := l.map fun (x : Nat) => (x : Int)
theorem nats_il (l : List Nat) : Kyi2Neutral.natsOf (il l) = l := by
  unfold Kyi2Neutral.natsOf il
  rw [List.map_map]
  conv => rhs; rw [← List.map_id l]
  refine List.map_congr_left fun x _ => ?_
  show ((x : Int)).toNat = x
  exact Int.toNat_natCast x
theorem il_of {l : List Int} (h : ∀ x ∈ l, 0 ≤ x) : ∃ ns : List Nat, l = il ns := by
  refine ⟨l.map Int.toNat, ?_⟩
  unfold il
  rw [List.map_map]
  conv => lhs; rw [← List.map_id l]
  refine List.map_congr_left fun x hx => ?_
  show x = ((x.toNat : Nat) : Int)
  have := h x hx
  omega
end Lg

/-! ### 10. The text by places; the data as they lie in the heap -/
namespace Lg
open PySem PySem.Spec PyProof.Rows L2
open PySem.W (Codec)
open Kyi2 (Grant)
def top (i : Nat) : Stmt := PySem.Challenge.pw_lapsegrants_s04_more.main.body.getD i (.Pass ⟨0, 0, 0, 0⟩)
abbrev sGInit : Stmt := inClass (top 6) 0
abbrev sRight : Stmt := inClass (top 6) 1
abbrev sGrants : Stmt := top 7
abbrev sHalves : Stmt := top 8
abbrev sUInit : Stmt := inClass (top 12) 0
abbrev sBefore : Stmt := inClass (top 12) 1
abbrev sGive : Stmt := inClass (top 12) 2
abbrev sSource : Stmt := inClass (top 12) 3
abbrev sTake : Stmt := inClass (top 12) 4
abbrev sCov : Stmt := inClass (top 12) 5
abbrev sLapse : Stmt := inClass (top 12) 6
abbrev sUsed : Stmt := top 16
abbrev sMain : Stmt := top 17

/-! numbers in a list -/
def nV (l : List Nat) : List V := l.map fun (x : Nat) => V.int (x : Int)
theorem nV_len (l : List Nat) : (nV l).length = l.length := List.length_map _
theorem nV_at {l : List Nat} {i x : Nat} (h : l[i]? = some x) : (nV l)[i]? = some (V.int (x : Int)) := by
  unfold nV
  rw [List.getElem?_map, h]
  rfl
theorem nV_inv {l : List Nat} {i : Nat} {y : V} (h : (nV l)[i]? = some y) : ∃ x, l[i]? = some x ∧ y = V.int (x : Int) := by
  unfold nV at h
  rw [List.getElem?_map] at h
  cases e : l[i]? with
  | none =>
    rw [e] at h
    cases h
  | some x =>
    rw [e] at h
    exact ⟨x, rfl, (Option.some.inj h).symm⟩
theorem nV_il (l : List Nat) : (il l).map V.int = nV l := by
  unfold il nV
  rw [List.map_map]
  rfl
theorem nV_append (l r : List Nat) : nV (l ++ r) = nV l ++ nV r := List.map_append
theorem nV_drop (l : List Nat) (k : Nat) : (nV l).drop k = nV (l.drop k) := by
  unfold nV
  rw [List.map_drop]
theorem nV_take (l : List Nat) (k : Nat) : (nV l).take k = nV (l.take k) := by
  unfold nV
  rw [List.map_take]
theorem refs_inv {as : List Addr} {i : Nat} {y : V} (h : (as.map V.ref)[i]? = some y) : ∃ a, as[i]? = some a ∧ y = V.ref a := by
  rw [List.getElem?_map] at h
  cases e : as[i]? with
  | none =>
    rw [e] at h
    cases h
  | some a =>
    rw [e] at h
    exact ⟨a, rfl, (Option.some.inj h).symm⟩
theorem refs_at {as : List Addr} {i : Nat} {a : Addr} (h : as[i]? = some a) : (as.map V.ref)[i]? = some (V.ref a) := by
  rw [List.getElem?_map, h]
  rfl
theorem at_lt {α : Type} {l : List α} {i : Nat} (h : i < l.length) : ∃ x, l[i]? = some x := ⟨_, List.getElem?_eq_getElem h⟩
theorem lt_at {α : Type} {l : List α} {i : Nat} {x : α} (h : l[i]? = some x) : i < l.length := (List.getElem?_eq_some_iff.mp h).1
theorem drop_at {α : Type} {l : List α} {i : Nat} {x : α} (h : l[i]? = some x) : l.drop i = x :: l.drop (i + 1) := by
  obtain ⟨hi, e⟩ := List.getElem?_eq_some_iff.mp h
  rw [List.drop_eq_getElem_cons hi, e]
def oV : Option Nat → V
  | none => .non
  | some n => .int (n : Int)
theorem ne_t {i j : Int} (h : (!decide (V.int i = V.int j)) = true) : i ≠ j := fun e => by
  rw [e] at h
  simp at h
theorem ne_f {i j : Int} (h : ¬ (!decide (V.int i = V.int j)) = true) : i = j := by
  by_cases e : i = j
  · exact e
  · exact absurd (by rw [decide_eq_false (fun q => e (V.int.inj q))]; rfl) h
theorem ref_non (p : Addr) : decide (V.ref p = V.non) = false := decide_eq_false (fun q => by cases q)
theorem int_non (i : Int) : decide (V.int i = V.non) = false := decide_eq_false (fun q => by cases q)
theorem non_non : decide (V.non = V.non) = true := decide_eq_true rfl
theorem oV_non (o : Option Nat) : decide (oV o = V.non) = o.isNone := by
  cases o with
  | none => exact decide_eq_true rfl
  | some n => exact int_non _

/-! attributes by name -/
theorem lk_here {k : Str} {v : V} {r : List (Str × V)} : List.lookup k ((k, v) :: r) = some v := by
  have e : (k == k) = true := beq_self_eq_true k
  simp only [List.lookup, e]
theorem lk_past {k g : Str} {v : V} {r : List (Str × V)} (h : (k == g) = false) : List.lookup k ((g, v) :: r) = List.lookup k r := by
  simp only [List.lookup, h]
theorem put_here {f : Str} {v x : V} {r : List (Str × V)} : putF f v ((f, x) :: r) = (f, v) :: r := if_pos rfl
theorem put_past {f g : Str} {v x : V} {r : List (Str × V)} (h : ¬ g = f) : putF f v ((g, x) :: r) = (g, x) :: putF f v r := if_neg h
/-- a Grant's attributes -/
def gF (g : Grant) : List (Str × V) := [("first", .int (g.a : Int)), ("last", .int (g.b : Int)), ("many", .int (g.n : Int))]
theorem gF_first (g : Grant) : (gF g).lookup ("first" : Str) = some (.int (g.a : Int)) := lk_here
theorem gF_last (g : Grant) : (gF g).lookup ("last" : Str) = some (.int (g.b : Int)) := (lk_past (by decide +kernel)).trans lk_here
theorem gF_many (g : Grant) : (gF g).lookup ("many" : Str) = some (.int (g.n : Int)) := (lk_past (by decide +kernel)).trans ((lk_past (by decide +kernel)).trans lk_here)
theorem gF_right (g : Grant) : (gF g).lookup ("is_right" : Str) = none := (lk_past (by decide +kernel)).trans ((lk_past (by decide +kernel)).trans ((lk_past (by decide +kernel)).trans rfl))
theorem gF_two (a b : V) : putF "last" b (putF "first" a []) = ([("first", a), ("last", b)] : List (Str × V)) := (put_past (by decide +kernel)).trans rfl
theorem gF_new (a b n : Nat) : putF "many" (.int (n : Int)) (putF "last" (.int (b : Int)) (putF "first" (.int (a : Int)) [])) = gF ⟨a, b, n⟩ := by
  rw [gF_two]
  exact (put_past (by decide +kernel)).trans (congrArg _ (put_past (by decide +kernel)))
/-- a Use's attributes -/
def uF (lg ll : Addr) (u : Option Nat) : List (Str × V) := [("grants", .ref lg), ("left", .ref ll), ("uncovered", oV u)]
theorem uF_grants (lg ll : Addr) (u : Option Nat) : (uF lg ll u).lookup ("grants" : Str) = some (.ref lg) := lk_here
theorem uF_left (lg ll : Addr) (u : Option Nat) : (uF lg ll u).lookup ("left" : Str) = some (.ref ll) := (lk_past (by decide +kernel)).trans lk_here
theorem uF_unc (lg ll : Addr) (u : Option Nat) : (uF lg ll u).lookup ("uncovered" : Str) = some (oV u) := (lk_past (by decide +kernel)).trans ((lk_past (by decide +kernel)).trans lk_here)
theorem uF_no (lg ll : Addr) (u : Option Nat) {m : Str} (h1 : (m == "grants") = false) (h2 : (m == "left") = false) (h3 : (m == "uncovered") = false) : (uF lg ll u).lookup m = none := (lk_past h1).trans ((lk_past h2).trans ((lk_past h3).trans rfl))
theorem uF_two (a b : V) : putF "left" b (putF "grants" a []) = ([("grants", a), ("left", b)] : List (Str × V)) := (put_past (by decide +kernel)).trans rfl
theorem uF_new (lg ll : Addr) : putF "uncovered" .non (putF "left" (.ref ll) (putF "grants" (.ref lg) [])) = uF lg ll none := by
  rw [uF_two]
  exact (put_past (by decide +kernel)).trans (congrArg _ (put_past (by decide +kernel)))
theorem uF_put (lg ll : Addr) (u : Option Nat) (h : Nat) : putF "uncovered" (.int (h : Int)) (uF lg ll u) = uF lg ll (some h) :=
  (put_past (by decide +kernel)).trans (congrArg _ ((put_past (by decide +kernel)).trans (congrArg _ put_here)))

/-! what lies in the heap -/
def GrantAt (C : Addr) (H : Hp) (a : Addr) (g : Grant) : Prop := ∃ dx, H a = some (.ins C dx (gF g))
/-- at l a list of Grants -/
def GrantsAt (C : Addr) (H : Hp) (l : Addr) (gs : List Grant) : Prop :=
  ∃ as : List Addr, H l = some (.lst (as.map V.ref)) ∧ as.length = gs.length ∧ ∀ (j : Nat) (a : Addr) (g : Grant), as[j]? = some a → gs[j]? = some g → GrantAt C H a g
theorem GrantAt.same {C a : Addr} {H H' : Hp} {g : Grant} (s : Same H H') (h : GrantAt C H a g) : GrantAt C H' a g := let ⟨dx, e⟩ := h; ⟨dx, s _ _ e⟩
theorem GrantsAt.same {C l : Addr} {H H' : Hp} {gs : List Grant} (s : Same H H') (h : GrantsAt C H l gs) : GrantsAt C H' l gs :=
  let ⟨as, e, hl, k⟩ := h; ⟨as, s _ _ e, hl, fun j a g h1 h2 => (k j a g h1 h2).same s⟩
/-- the grants with what's left in the place of how many -/
def Like (gs cur : List Grant) : Prop := cur.map (fun g => (g.a, g.b)) = gs.map fun g => (g.a, g.b)
theorem Like.len {gs cur : List Grant} (h : Like gs cur) : cur.length = gs.length := by
  have := congrArg List.length h
  rw [List.length_map, List.length_map] at this
  exact this
theorem Like.ab {gs cur : List Grant} (h : Like gs cur) {i : Nat} {g : Grant} (e : gs[i]? = some g) : gat cur i = { g with n := (gat cur i).n } := by
  have q := congrArg (fun l : List (Nat × Nat) => l[i]?) h
  simp only [List.getElem?_map, e] at q
  have hi : i < cur.length := by rw [h.len]; exact lt_at e
  rw [gat_lt hi]
  rw [List.getElem?_eq_getElem hi] at q
  have q2 : ((cur[i]).a, (cur[i]).b) = (g.a, g.b) := Option.some.inj q
  have e1 : (cur[i]).a = g.a := congrArg Prod.fst q2
  have e2 : (cur[i]).b = g.b := congrArg Prod.snd q2
  rw [← e1, ← e2]
theorem Like.ahead {gs cur : List Grant} (h : Like gs cur) {i : Nat} {o : Option Nat} (hi : i < gs.length) (ho : ∀ j, o = some j → j < gs.length) : ahead cur o i = ahead gs o i := by
  cases o with
  | none => rfl
  | some j =>
    obtain ⟨g, e⟩ := at_lt hi
    obtain ⟨g', e'⟩ := at_lt (ho j rfl)
    show decide ((gat cur i).b < (gat cur j).b) = decide ((gat gs i).b < (gat gs j).b)
    rw [h.ab e, h.ab e', gat_lt hi, gat_lt (ho j rfl), (List.getElem?_eq_some_iff.mp e).2, (List.getElem?_eq_some_iff.mp e').2]
theorem Like.less {gs cur : List Grant} (h : Like gs cur) {i : Nat} (hi : i < cur.length) : Like gs (Kyi2.less cur i) := by
  have e : (Kyi2.less cur i).map (fun g => (g.a, g.b)) = cur.map fun g => (g.a, g.b) := by
    show (cur.set i { gat cur i with n := (gat cur i).n - 1 }).map (fun g => (g.a, g.b)) = _
    rw [List.map_set, gat_lt hi]
    have : ((cur[i]).a, (cur[i]).b) = (cur.map fun g => (g.a, g.b))[i]'(by rw [List.length_map]; exact hi) := by rw [List.getElem_map]
    show (cur.map fun g => (g.a, g.b)).set i ((cur[i]).a, (cur[i]).b) = _
    rw [this, List.set_getElem_self]
  exact e.trans h
theorem less_ns {cur : List Grant} {i : Nat} : (Kyi2.less cur i).map Grant.n = (cur.map Grant.n).set i ((gat cur i).n - 1) := by
  show (cur.set i { gat cur i with n := (gat cur i).n - 1 }).map Grant.n = _
  rw [List.map_set]
theorem ns_at {cur : List Grant} {i : Nat} (hi : i < cur.length) : (cur.map Grant.n)[i]? = some (gat cur i).n := by
  rw [List.getElem?_map, List.getElem?_eq_getElem hi, gat_lt hi]
  rfl
/-- over H0 a Use was made at p: its grants lie in H0, its own list does not -/
def UseAt (CG CU : Addr) (H0 H : Hp) (p : Addr) (gs cur : List Grant) (u : Option Nat) : Prop :=
  Same H0 H ∧ H0 p = none ∧ Like gs cur ∧ ∃ dx lg ll : Addr, GrantsAt CG H0 lg gs ∧ H0 ll = none ∧ H p = some (.ins CU dx (uF lg ll u)) ∧ H ll = some (.lst (nV (cur.map Grant.n)))
theorem UseAt.same {CG CU p : Addr} {H0 H H' : Hp} {gs cur : List Grant} {u : Option Nat} (s : Same H H') (h : UseAt CG CU H0 H p gs cur u) : UseAt CG CU H0 H' p gs cur u :=
  let ⟨h1, h2, h3, dx, lg, ll, h4, h5, h6, h7⟩ := h; ⟨h1.trans s, h2, h3, dx, lg, ll, h4, h5, s _ _ h6, s _ _ h7⟩

/-! what the top has written -/
structure Txt (K : PySem.W.Frag) (mg : Str → Option Value) (CG CU : Addr) : Prop where
  clG : Cls K CG
  clU : Cls K CU
  nFirst : NoAttr K CG "first"
  nLast : NoAttr K CG "last"
  nMany : NoAttr K CG "many"
  nGrants : NoAttr K CU "grants"
  nLeft : NoAttr K CU "left"
  nUnc : NoAttr K CU "uncovered"
  gG : mg "Grant" = some (.ref CG)
  gU : mg "Use" = some (.ref CU)
  half : ∃ t, mg "MOST_HALF" = some (.int 799 t)
  grant : ∃ t, mg "MOST_GRANT" = some (.int 100 t)
  grants : ∃ t, mg "MOST_GRANTS" = some (.int 10 t)
  taken : ∃ t, mg "MOST_TAKEN" = some (.int 60 t)
  notSo : ∃ t, mg "NOT_SO" = some (.int (-22) t)
  notCov : ∃ t, mg "NOT_COVERED" = some (.int (-33) t)
  list : mg "list" = none
  len : mg "len" = none
  range : mg "range" = none
theorem pe_gnum {X : Cx} {x : Str} {i : Int} {pos : Pos} (hg : Gl X x) (h : ∃ t, X.mg x = some (Value.int i t)) (hd : (x == ("__debug__" : Str)) = false := by decide) : PE X (.Name x pos) (tC (.int i)) := by
  obtain ⟨t, e⟩ := h
  exact pe_glob hg e ⟨t, rfl⟩ hd
theorem sz {n : Nat} (h : n ≤ 1000) : n ≤ sizeLine := Nat.le_trans h (by decide)
theorem sz1 {n : Nat} (h : n ≤ 1000) : n < sizeLine := Nat.lt_of_le_of_lt h (by decide)
end Lg
/-! ### 11. Grant, grants_of, are_halves -/
namespace Lg
open PySem PySem.Spec PyProof.Rows L2
open PySem.W (Codec)
open Kyi2 (Grant)
def spGInit (C : Addr) : Sp := fun vs H Q _ => ∃ (p dx : Addr) (a b n : Nat), vs = [.ref p, .int (a : Int), .int (b : Int), .int (n : Int)] ∧ H p = some (.ins C dx []) ∧
  ∀ H' : Hp, GrantAt C H' p ⟨a, b, n⟩ → (∀ b o, H b = some o → b ≠ p → H' b = some o) → Q .non H'
def spRight (C : Addr) : Sp := fun vs H Q _ => ∃ (p : Addr) (g : Grant), vs = [.ref p] ∧ GrantAt C H p g ∧ Q (.bl (Kyi2.okGrant g)) H
def gOk (ls : List Nat) : Bool := decide (ls.length % 3 = 0) && Kyi2.okGrants (Kyi2.grants ls)
def spGrants (K : PySem.W.Frag) (C : Addr) : Sp := fun vs H Q _ => ∃ (a : Addr) (ls : List Nat), vs = [.ref a] ∧ SqL K H a (nV ls) ∧
  (gOk ls = false → ∀ H' : Hp, Same H H' → Q .non H') ∧
  (gOk ls = true → ∀ (H' : Hp) (lg : Addr), Same H H' → H lg = none → GrantsAt C H' lg (Kyi2.grants ls) → Q (.ref lg) H')
def spHalves (K : PySem.W.Frag) : Sp := fun vs H Q _ => ∃ (a : Addr) (ts : List Nat), vs = [.ref a] ∧ SqL K H a (nV ts) ∧ Q (.bl (Kyi2.okTaken ts)) H
theorem okGrant_val (g : Grant) : Kyi2.okGrant g = (decide ((g.a : Int) ≤ (g.b : Int)) && decide ((g.b : Int) ≤ 799) && decide ((g.n : Int) ≤ 100)) := by
  unfold Kyi2.okGrant Kyi1.most
  have e1 : decide (g.a ≤ g.b) = decide ((g.a : Int) ≤ (g.b : Int)) := decide_eq_decide.mpr (by omega)
  have e2 : decide (g.b < 800) = decide ((g.b : Int) ≤ 799) := decide_eq_decide.mpr (by omega)
  have e3 : decide (g.n ≤ 100) = decide ((g.n : Int) ≤ 100) := decide_eq_decide.mpr (by omega)
  rw [e1, e2, e3]
theorem rg3 : ∀ n : Nat, n < 11 → RgC 0 ((3 * n : Nat) : Int) 3 n := by
  have h : ∀ n : Nat, n < 11 → (Builtin.Range.small 0 ((3 * n : Nat) : Int) 3 = true ∧ Builtin.Range.rangeSize 0 ((3 * n : Nat) : Int) 3 = n) := by decide +kernel
  exact fun n hn => ⟨by decide, by decide, (h n hn).1, (h n hn).2⟩
section
variable {P : Program} {w : World} {K : PySem.W.Frag} {mg : Str → Option Value} {base : Heap} {CG CU : Addr}
theorem scGI : FnScope ["self", "first", "last", "many"] ["self", "first", "last", "many"] (defScope sGInit) := ⟨rfl, rfl, rfl, by decide +kernel, rfl, by decide +kernel, by decide +kernel⟩
theorem ok_ginit {f : Addr} {fd : FuncData} (F : Fun K "__init__" "Grant.__init__" sGInit f fd) (T : Txt K mg CG CU) : FnOk P w K mg base CX0 1 f fd ["self", "first", "last", "many"] (spGInit CG) := by
  refine F.ok scGI (fun vs H Q E h => ?_) (fun cdv A outer s H vs Q E hr h => ?_)
  · obtain ⟨p, dx, a, b, n, rfl, _⟩ := h
    rfl
  · obtain ⟨p, dx, a, b, n, rfl, hp, k⟩ := h
    refine ⟨_, pss_cons (ps_fld (pv 0) (pv 1) rfl) (pss_cons (ps_fld (pv 0) (pv 2) rfl) (pss_one (ps_fld (pv 0) (pv 3) rfl))), ?_⟩
    refine ⟨_, rfl, _, rfl, p, CG, dx, [], rfl, hp, T.clG, T.nFirst, (by show 0 < 1000; decide), ?_⟩
    refine ⟨_, rfl, _, rfl, p, CG, dx, _, rfl, upd_same, T.clG, T.nLast, (by show 1 < 1000; decide), ?_⟩
    refine ⟨_, rfl, _, rfl, p, CG, dx, _, rfl, upd_same, T.clG, T.nMany, (by rw [gF_two]; show 2 < 1000; decide), ?_⟩
    exact k _ ⟨dx, Eq.trans upd_same (congrArg (fun q => some (HO.ins CG dx q)) (gF_new a b n))⟩ fun b o e hb => by
      rw [upd_ne hb, upd_ne hb, upd_ne hb]
      exact e
theorem scR : FnScope ["self"] ["self"] (defScope sRight) := ⟨rfl, rfl, rfl, by decide +kernel, rfl, by decide +kernel, by decide +kernel⟩
theorem ok_right {f : Addr} {fd : FuncData} (F : Fun K "is_right" "Grant.is_right" sRight f fd) (T : Txt K mg CG CU) : FnOk P w K mg base CX0 1 f fd ["self"] (spRight CG) := by
  refine F.ok scR (fun vs H Q E h => ?_) (fun cdv A outer s H vs Q E hr h => ?_)
  · obtain ⟨p, g, rfl, _⟩ := h
    rfl
  · obtain ⟨p, g, rfl, ⟨dx, h1⟩, k⟩ := h
    refine ⟨_, pss_one (ps_ret (pe_and (pe_chain op_le op_le (pe_fld (pv 0) rfl) (pe_fld (pv 0) rfl) (pe_gnum rfl T.half)) (pe_one (pe_cmpR op_le (pe_fld (pv 0) rfl) (pe_gnum rfl T.grant) (nomark _))))), ?_⟩
    rw [okGrant_val] at k
    refine ⟨_, rfl, p, CG, dx, _, _, rfl, h1, T.clG, T.nFirst, gF_first g, _, rfl, p, CG, dx, _, _, rfl, h1, T.clG, T.nLast, gF_last g, _, _, rfl, rfl, _, rfl, ?_⟩
    refine ite2 (fun c1 => ?_) (fun c1 => ?_)
    · rw [c1] at k
      refine ⟨_, _, rfl, rfl, _, rfl, ?_⟩
      refine ite2 (fun c2 => ?_) (fun c2 => ?_)
      · rw [c2] at k
        exact ⟨_, rfl, p, CG, dx, _, _, rfl, h1, T.clG, T.nMany, gF_many g, _, _, rfl, rfl, k⟩
      · rw [Bool.eq_false_iff.mpr c2] at k
        exact k
    · rw [Bool.eq_false_iff.mpr c1] at k
      exact ⟨_, rfl, iteF k⟩
theorem scGs : FnScope ["row", "found", "place", "grant"] ["row"] (defScope sGrants) := ⟨rfl, rfl, rfl, by decide +kernel, rfl, by decide +kernel, by decide +kernel⟩
theorem ok_grants {f fI fR : Addr} {fd fdI fdR : FuncData} (F : Fun K "grants_of" "grants_of" sGrants f fd) (T : Txt K mg CG CU) (M : Mk K CG fI) (FI : Fun K "__init__" "Grant.__init__" sGInit fI fdI) (bI : Binds K fdI ["self", "first", "last", "many"] [])
    (FR : Fun K "is_right" "Grant.is_right" sRight fR fdR) (bR : Binds K fdR ["self"] []) (mR : Meth K CG "is_right" fR) : FnOk P w K mg base CX0 3 f fd ["row"] (spGrants K CG) := by
  have GI : FnOk P w K mg base CX0 1 fI fdI ["self", "first", "last", "many"] (spGInit CG) := ok_ginit FI T
  have GR : FnOk P w K mg base CX0 1 fR fdR ["self"] (spRight CG) := ok_right FR T
  refine F.ok scGs (fun vs H Q E h => ?_) (fun cdv A outer s H vs Q E hr h => ?_)
  · obtain ⟨a, ls, rfl, _⟩ := h
    rfl
  · obtain ⟨a, ls, rfl, hS, kN, kS⟩ := h
    have hr1 : Room 1 _ := hr.mono (by decide)
    refine ⟨_, pss_cons (ps_if (PW.pt (pw_or (pt_cmpR op_ne (pe_op op_mod (pe_callB call_len_seq (by rfl) T.len PySem.boot_len (pa_cons (pv 0) pa_nil)) pe_int) pe_int (nomark _))
          (pw_or1 (pt_cmpR op_gt (pe_callB call_len_seq (by rfl) T.len PySem.boot_len (pa_cons (pv 0) pa_nil)) (pe_op op_mul pe_int (pe_gnum rfl T.grants)) (nomark _))))) (pss_one (ps_ret pe_non)) pss_nil)
      (pss_cons (ps_set (i := 1) scGs.nd rfl (Or.inl rfl) (pe_lst pa_nil))
      (pss_cons (ps_for PassesOwn.never rfl (pi_range3 rfl T.range (pa_cons pe_int (pa_cons (pe_callB call_len_seq (by rfl) T.len PySem.boot_len (pa_cons (pv 0) pa_nil)) (pa_cons pe_int pa_nil)))) (pg_name (i := 2) scGs.nd rfl (Or.inl rfl))
        (pss_cons (ps_set (i := 3) scGs.nd rfl (Or.inl rfl) (pe_make M GI hr rfl T.gG bI .nil pass0 (pa_cons (pe_ix ix_list (pv 0) (pv 2) (fun _ _ => rfl))
            (pa_cons (pe_ix ix_list (pv 0) (pe_op op_add (pv 2) pe_int) (fun _ _ => rfl)) (pa_cons (pe_ix ix_list (pv 0) (pe_op op_add (pv 2) pe_int) (fun _ _ => rfl)) pa_nil)))))
        (pss_cons (ps_if (pt_not (pt_val (pe_meth0 (pv 3) T.clG mR GR hr1 bR .nil pass0))) (pss_one (ps_ret pe_non)) pss_nil)
        (pss_one (ps_expr (pe_bm PySem.F.plainAttrs_list PySem.F.slot_list_append PySem.F.type_list_append mt_append (pv 1) (pa_cons (pv 3) pa_nil)))))))
      (pss_one (ps_ret (pv 1))))), ?_⟩
    -- if len(row) % 3 != 0 or len(row) > 3 * MOST_GRANTS: return None
    refine ⟨_, rfl, a, nV ls, rfl, .inl hS, _, _, rfl, rfl, (by show (0 : Int) < 3; decide), rfl, _, rfl, ?_⟩
    refine ite2 (fun c1 => ?_) (fun c1 => ?_)
    · refine iteT (kN ?_ H (Same.refl H))
      have q := ne_t c1
      rw [nV_len] at q
      unfold gOk
      rw [decide_eq_false (show ¬ ls.length % 3 = 0 by omega), Bool.false_and]
    have q1 := ne_f c1
    rw [nV_len] at q1
    have l3 : ls.length % 3 = 0 := by omega
    refine ⟨_, rfl, a, nV ls, rfl, .inl hS, _, _, rfl, rfl, .inl ⟨by decide, by decide⟩, _, _, rfl, rfl, _, rfl, ?_⟩
    refine ite2 (fun c2 => ?_) (fun c2 => ?_)
    · refine kN ?_ H (Same.refl H)
      have q := of_decide_eq_true c2
      rw [nV_len] at q
      unfold gOk
      rw [okGrants_no l3 (by omega), Bool.and_false]
    have l30 : ls.length ≤ 30 := by
      have q : ¬ _ := fun z => c2 (decide_eq_true z)
      rw [nV_len] at q
      omega
    obtain ⟨n, hn⟩ : ∃ n, ls.length = 3 * n := ⟨ls.length / 3, by omega⟩
    have gl : (Kyi2.grants ls).length = n := grants_length n ls hn
    have okE : gOk ls = (Kyi2.grants ls).all Kyi2.okGrant := by
      unfold gOk
      rw [decide_eq_true l3, Bool.true_and, okGrants_len l3 l30]
    -- found = []
    refine ⟨Nat.zero_le _, fun fo hfo => ?_⟩
    have s1 : Same H (upd H fo (.lst [])) := fun b o e => by
      rw [upd_ne (ne_of_none e hfo)]
      exact e
    -- for place in range(0, len(row), 3)
    refine ⟨_, rfl, a, nV ls, rfl, .inl (s1.seq hS), 0, _, 3, n, rfl, (by rw [nV_len, hn]; exact rg3 n (by omega)), for_rangeC (lo := 0) (c := 3) (n := n)
      (fun i σ H' => ∃ (v2 v3 : Option V) (as : List Addr), σ = [some (.ref a), some (.ref fo), v2, v3] ∧ Same H H' ∧ H' fo = some (.lst (as.map V.ref)) ∧ as.length = i ∧
        ∀ (j : Nat) (c : Addr) (g : Grant), as[j]? = some c → (Kyi2.grants ls)[j]? = some g → GrantAt CG H' c g ∧ Kyi2.okGrant g = true)
      ⟨none, none, [], rfl, s1, upd_same, rfl, fun j c g h => by simp at h⟩ ?_ ?_⟩
    · rintro i σ H' hi ⟨v2, v3, as, rfl, s2, hf2, hl2, k2⟩
      obtain ⟨x, y, z, e1, e2, e3, e4⟩ := grants_at i ls n hn hi
      have S2 := s2.seq hS
      refine ⟨_, rfl, _, rfl, a, _, _, _, rfl, rfl, S2, at_of (j := 3 * i) (by omega) (nV_at e1), _, rfl, _, rfl, _, _, rfl, rfl, a, _, _, _, rfl, rfl, S2, at_of (j := 3 * i + 1) (by omega) (nV_at e2),
        _, rfl, _, rfl, _, _, rfl, rfl, a, _, _, _, rfl, rfl, S2, at_of (j := 3 * i + 2) (by omega) (nV_at e3), fun p dx np ndx nex => ?_⟩
      refine ⟨p, dx, x, y, z, rfl, upd_same, fun H3 G3 k3 => ⟨rfl, ?_⟩⟩
      have s3 : Same H' H3 := Same.made np ndx k3
      obtain ⟨dg, hg⟩ := id G3
      -- if not grant.is_right(): return None
      refine ⟨_, rfl, p, dg, _, rfl, hg, gF_right _, p, ⟨x, y, z⟩, rfl, G3, _, rfl, ?_⟩
      refine ite2 (fun c => ?_) (fun c => ?_)
      · refine kN ?_ _ (s2.trans s3)
        rw [okE]
        have m : (⟨x, y, z⟩ : Grant) ∈ Kyi2.grants ls := List.mem_of_getElem? e4
        cases e : (Kyi2.grants ls).all Kyi2.okGrant with
        | false => rfl
        | true =>
          have := List.all_eq_true.mp e _ m
          rw [this] at c
          cases c
      · have okg : Kyi2.okGrant ⟨x, y, z⟩ = true := by
          cases e : Kyi2.okGrant ⟨x, y, z⟩ with
          | true => rfl
          | false =>
            rw [e] at c
            exact absurd rfl c
        have hf3 := s3 _ _ hf2
        have npf : p ≠ fo := ne_of hg hf3 (by intro q; cases q)
        -- found.append(grant)
        refine ⟨_, rfl, .inl ⟨rfl, _, SqL.of hf3⟩, _, rfl, fo, _, _, rfl, rfl, hf3, (by rw [List.length_map]; exact sz1 (by omega)), ?_⟩
        refine ⟨_, _, as ++ [p], rfl, fun b o e => ?_, ?_, by rw [List.length_append, hl2]; rfl, fun j c' g hj hg' => ?_⟩
        · rw [upd_ne (ne_of_none e hfo)]
          exact s3 _ _ (s2 _ _ e)
        · rw [upd_same, List.map_append]
          rfl
        · have gd : GrantAt CG H3 c' g ∧ Kyi2.okGrant g = true := by
            by_cases hjl : j < as.length
            · rw [List.getElem?_append_left hjl] at hj
              have q := k2 j c' g hj hg'
              exact ⟨q.1.same s3, q.2⟩
            · have hj2 : j < (as ++ [p]).length := lt_at hj
              rw [List.length_append, List.length_singleton] at hj2
              have ej : j = as.length := by omega
              subst ej
              rw [List.getElem?_concat_length] at hj
              obtain rfl := Option.some.inj hj
              rw [hl2, e4] at hg'
              obtain rfl := Option.some.inj hg'
              exact ⟨G3, okg⟩
          obtain ⟨⟨dq, hq⟩, ok2⟩ := gd
          exact ⟨⟨dq, by rw [upd_ne (ne_of hq hf3 (by intro q; cases q))]; exact hq⟩, ok2⟩
    · rintro σ H' ⟨v2, v3, as, rfl, s2, hf2, hl2, k2⟩
      -- return found
      refine ⟨_, rfl, kS ?_ _ fo s2 hfo ⟨as, hf2, by rw [hl2, gl], fun j c g h1 h2 => (k2 j c g h1 h2).1⟩⟩
      rw [okE, List.all_eq_true]
      intro g hg
      obtain ⟨j, hj⟩ := List.getElem?_of_mem hg
      have hj2 : j < as.length := by rw [hl2, ← gl]; exact lt_at hj
      obtain ⟨c, hc⟩ := at_lt hj2
      exact (k2 j c g hc hj).2
theorem scH : FnScope ["row", "before", "half"] ["row"] (defScope sHalves) := ⟨rfl, rfl, rfl, by decide +kernel, rfl, by decide +kernel, by decide +kernel⟩
theorem rise_no {b : Int} {h : Nat} {r : List Nat} (c : (h : Int) ≤ b ∨ 799 < (h : Int)) : rise b (h :: r) = false := if_pos c
theorem rise_on {b : Int} {h : Nat} {r : List Nat} (c : ¬ ((h : Int) ≤ b ∨ 799 < (h : Int))) : rise b (h :: r) = rise h r := if_neg c
theorem ok_halves {f : Addr} {fd : FuncData} (F : Fun K "are_halves" "are_halves" sHalves f fd) (T : Txt K mg CG CU) : FnOk P w K mg base CX0 1 f fd ["row"] (spHalves K) := by
  refine F.ok scH (fun vs H Q E h => ?_) (fun cdv A outer s H vs Q E hr h => ?_)
  · obtain ⟨a, ts, rfl, _⟩ := h
    rfl
  · obtain ⟨a, ts, rfl, hS, k⟩ := h
    refine ⟨_, pss_cons (ps_if (pt_cmpR op_gt (pe_callB call_len_seq (by rfl) T.len PySem.boot_len (pa_cons (pv 0) pa_nil)) (pe_gnum rfl T.taken) (nomark _)) (pss_one (ps_ret pe_bl)) pss_nil)
      (pss_cons (ps_set (i := 1) scH.nd rfl (Or.inl rfl) (pe_un un_neg pe_int))
      (pss_cons (ps_for PassesOwn.never rfl (pi_list (pv 0)) (pg_name (i := 2) scH.nd rfl (Or.inl rfl))
        (pss_cons (ps_if (PW.pt (pw_or (pt_cmpR op_le (pv 2) (pv 1) (nomark _)) (pw_or1 (pt_cmpR op_gt (pv 2) (pe_gnum rfl T.half) (nomark _))))) (pss_one (ps_ret pe_bl)) pss_nil)
        (pss_one (ps_set (i := 1) scH.nd rfl (Or.inl rfl) (pv 2)))))
      (pss_one (ps_ret pe_bl)))), ?_⟩
    rw [okTaken_eq] at k
    refine ⟨_, rfl, a, nV ts, rfl, .inl hS, _, _, rfl, rfl, _, rfl, ?_⟩
    refine ite2 (fun c1 => ?_) (fun c1 => ?_)
    · have q := of_decide_eq_true c1
      rw [nV_len] at q
      rw [decide_eq_false (show ¬ ts.length ≤ 60 by omega)] at k
      exact k
    have q1 : ¬ _ := fun z => c1 (decide_eq_true z)
    rw [nV_len] at q1
    rw [decide_eq_true (show ts.length ≤ 60 by omega), Bool.true_and] at k
    refine ⟨1, rfl, ?_⟩
    refine ⟨_, rfl, a, rfl, ⟨_, hS⟩, for_list (K := K) (a := a) (xs := nV ts)
      (fun i σ H' => ∃ (b : Int) (v : Option V), σ = [some (.ref a), some (.int b), v] ∧ H' = H ∧ rise (-1) ts = rise b (ts.drop i))
      ⟨-1, none, rfl, rfl, rfl⟩ (fun i σ H' _ ⟨_, _, _, e, _⟩ => by rw [e]; exact hS) ?_ ?_⟩
    · rintro i y σ H' hi ⟨b, v, rfl, rfl, e⟩
      obtain ⟨z, hz, rfl⟩ := nV_inv hi
      rw [drop_at hz] at e
      refine ⟨_, rfl, _, rfl, _, _, rfl, rfl, _, rfl, ?_⟩
      refine ite2 (fun c2 => ?_) (fun c2 => ?_)
      · refine iteT ?_
        rw [e, rise_no (.inl (of_decide_eq_true c2))] at k
        exact k
      refine ⟨_, rfl, _, _, rfl, rfl, _, rfl, ?_⟩
      refine ite2 (fun c3 => ?_) (fun c3 => ?_)
      · rw [e, rise_no (.inr (of_decide_eq_true c3))] at k
        exact k
      rw [rise_on (fun q => q.elim (fun q => c2 (decide_eq_true q)) fun q => c3 (decide_eq_true q))] at e
      exact ⟨_, rfl, _, _, rfl, rfl, e⟩
    · rintro σ H' ⟨b, v, rfl, rfl, e⟩
      rw [List.drop_eq_nil_of_le (by rw [nV_len]; exact Nat.le_refl _)] at e
      rw [e] at k
      exact k
end
end Lg
/-! ### 12. Use -/
namespace Lg
open PySem PySem.Spec PyProof.Rows L2
open PySem.W (Codec)
open Kyi2 (Grant)
def spBefore (CG CU : Addr) : Sp := fun vs H Q _ => ∃ (H0 : Hp) (p : Addr) (gs cur : List Grant) (u : Option Nat) (i : Nat) (o : Option Nat), vs = [.ref p, .int (i : Int), oV o] ∧ UseAt CG CU H0 H p gs cur u ∧ i < gs.length ∧ (∀ j, o = some j → j < gs.length) ∧
  Q (.bl (ahead gs o i)) H
def spGive (CG CU : Addr) : Sp := fun vs H Q _ => ∃ (H0 : Hp) (p : Addr) (gs cur : List Grant) (u : Option Nat) (i h : Nat), vs = [.ref p, .int (i : Int), .int (h : Int)] ∧ UseAt CG CU H0 H p gs cur u ∧ i < gs.length ∧
  Q (.bl (Kyi2.serves (gat cur i) h)) H
def spSource (CG CU : Addr) : Sp := fun vs H Q _ => ∃ (H0 : Hp) (p : Addr) (gs cur : List Grant) (u : Option Nat) (h : Nat), vs = [.ref p, .int (h : Int)] ∧ UseAt CG CU H0 H p gs cur u ∧ gs.length ≤ 1000 ∧
  Q (oV (Kyi2.pick cur h)) H
def spTake (CG CU : Addr) : Sp := fun vs H Q _ => ∃ (H0 : Hp) (p : Addr) (gs cur : List Grant) (u : Option Nat) (h : Nat), vs = [.ref p, .int (h : Int)] ∧ UseAt CG CU H0 H p gs cur u ∧ gs.length ≤ 1000 ∧
  (Kyi2.pick cur h = none → ∀ H' : Hp, UseAt CG CU H0 H' p gs cur (some h) → Q .non H') ∧
  (∀ i, Kyi2.pick cur h = some i → ∀ H' : Hp, UseAt CG CU H0 H' p gs (Kyi2.less cur i) u → Q .non H')
def spCov (CG CU : Addr) : Sp := fun vs H Q _ => ∃ (H0 : Hp) (p : Addr) (gs cur : List Grant) (u : Option Nat), vs = [.ref p] ∧ UseAt CG CU H0 H p gs cur u ∧ Q (.bl u.isNone) H
def spUInit (K : PySem.W.Frag) (CG CU : Addr) : Sp := fun vs H Q _ => ∃ (H0 : Hp) (p dx lg t : Addr) (gs : List Grant) (ts : List Nat), vs = [.ref p, .ref lg, .ref t] ∧ H p = some (.ins CU dx []) ∧ Same H0 H ∧ H0 p = none ∧
  GrantsAt CG H0 lg gs ∧ gs.length ≤ 1000 ∧ SqL K H0 t (nV ts) ∧
  ∀ H' : Hp, UseAt CG CU H0 H' p gs (Kyi2.use gs ts).1 (Kyi2.use gs ts).2 → Q .non H'
theorem ixN_nat {n j : Nat} (h : j < n) : ixN n (j : Int) = some j := by
  unfold ixN
  rw [if_pos (by omega), if_pos (by omega)]
  simp
theorem yes_of {σ : L2.St} {H : Hp} {F : Bool → Hp → Prop} (h : F true H) : tYes σ H F := h
theorem serves_val (g : Grant) (h : Nat) : Kyi2.serves g h = (decide ((g.a : Int) ≤ (h : Int)) && decide ((h : Int) ≤ (g.b : Int)) && decide ((0 : Int) < (g.n : Int))) := by
  unfold Kyi2.serves
  have e1 : decide (g.a ≤ h) = decide ((g.a : Int) ≤ (h : Int)) := decide_eq_decide.mpr (by omega)
  have e2 : decide (h ≤ g.b) = decide ((h : Int) ≤ (g.b : Int)) := decide_eq_decide.mpr (by omega)
  have e3 : decide (0 < g.n) = decide ((0 : Int) < (g.n : Int)) := decide_eq_decide.mpr (by omega)
  rw [e1, e2, e3]
theorem ahead_val {gs : List Grant} {i j : Nat} {g g' : Grant} (e : gs[i]? = some g) (e' : gs[j]? = some g') : ahead gs (some j) i = decide ((g.b : Int) < (g'.b : Int)) := by
  show decide ((gat gs i).b < (gat gs j).b) = _
  rw [gat_lt (lt_at e), gat_lt (lt_at e'), (List.getElem?_eq_some_iff.mp e).2, (List.getElem?_eq_some_iff.mp e').2]
  exact decide_eq_decide.mpr (by omega)
section
variable {P : Program} {w : World} {K : PySem.W.Frag} {mg : Str → Option Value} {base : Heap} {CG CU : Addr}
theorem scB : FnScope ["self", "place", "other"] ["self", "place", "other"] (defScope sBefore) := ⟨rfl, rfl, rfl, by decide +kernel, rfl, by decide +kernel, by decide +kernel⟩
theorem ok_before {f : Addr} {fd : FuncData} (F : Fun K "is_before" "Use.is_before" sBefore f fd) (T : Txt K mg CG CU) : FnOk P w K mg base CX0 1 f fd ["self", "place", "other"] (spBefore CG CU) := by
  refine F.ok scB (fun vs H Q E h => ?_) (fun cdv A outer s H vs Q E hr h => ?_)
  · obtain ⟨H0, p, gs, cur, u, i, o, rfl, _⟩ := h
    rfl
  · obtain ⟨H0, p, gs, cur, u, i, o, rfl, ⟨s0, p0, lk, dx, lg, ll, G, l0, hp, hl⟩, hi, ho, k⟩ := h
    refine ⟨_, pss_one (ps_ret (pe_or (pe_cmp (pc_isN (pv 2))) (pe_one (pe_cmpR op_lt (pe_fld (pe_ix ix_list (pe_fld (pv 0) rfl) (pv 1) (fun _ _ => rfl)) rfl) (pe_fld (pe_ix ix_list (pe_fld (pv 0) rfl) (pv 2) (fun _ _ => rfl)) rfl) (nomark _))))), ?_⟩
    refine ⟨_, rfl, _, rfl, ?_⟩
    cases o with
    | none => exact iteT k
    | some j =>
      rw [oV_non]
      refine iteF ?_
      obtain ⟨as, hL, hlen, hg⟩ := G.same s0
      obtain ⟨g, e⟩ := at_lt hi
      obtain ⟨g', e'⟩ := at_lt (ho j rfl)
      obtain ⟨a, ea⟩ := at_lt (show i < as.length by rw [hlen]; exact hi)
      obtain ⟨a', ea'⟩ := at_lt (show j < as.length by rw [hlen]; exact ho j rfl)
      obtain ⟨d, hd⟩ := hg i a g ea e
      obtain ⟨d', hd'⟩ := hg j a' g' ea' e'
      rw [ahead_val e e'] at k
      exact ⟨_, rfl, p, CU, dx, _, _, rfl, hp, T.clU, T.nGrants, uF_grants _ _ _, _, rfl, lg, _, _, _, rfl, rfl, SqL.of hL, at_of (j := i) rfl (refs_at ea), a, CG, d, _, _, rfl, hd, T.clG, T.nLast, gF_last g,
        _, rfl, p, CU, dx, _, _, rfl, hp, T.clU, T.nGrants, uF_grants _ _ _, _, rfl, lg, _, _, _, rfl, rfl, SqL.of hL, at_of (j := j) rfl (refs_at ea'), a', CG, d', _, _, rfl, hd', T.clG, T.nLast, gF_last g', _, _, rfl, rfl, k⟩
theorem scM : FnScope ["self", "place", "half", "grant"] ["self", "place", "half"] (defScope sGive) := ⟨rfl, rfl, rfl, by decide +kernel, rfl, by decide +kernel, by decide +kernel⟩
theorem ok_give {f : Addr} {fd : FuncData} (F : Fun K "may_give" "Use.may_give" sGive f fd) (T : Txt K mg CG CU) : FnOk P w K mg base CX0 1 f fd ["self", "place", "half"] (spGive CG CU) := by
  refine F.ok scM (fun vs H Q E h => ?_) (fun cdv A outer s H vs Q E hr h => ?_)
  · obtain ⟨H0, p, gs, cur, u, i, h, rfl, _⟩ := h
    rfl
  · obtain ⟨H0, p, gs, cur, u, i, h, rfl, ⟨s0, p0, lk, dx, lg, ll, G, l0, hp, hl⟩, hi, k⟩ := h
    refine ⟨_, pss_cons (ps_set (i := 3) scM.nd rfl (Or.inl rfl) (pe_ix ix_list (pe_fld (pv 0) rfl) (pv 1) (fun _ _ => rfl)))
      (pss_one (ps_ret (pe_and (pe_chain op_le op_le (pe_fld (pv 3) rfl) (pv 2) (pe_fld (pv 3) rfl)) (pe_one (pe_cmpR op_gt (pe_ix ix_list (pe_fld (pv 0) rfl) (pv 1) (fun _ _ => rfl)) pe_int (nomark _)))))), ?_⟩
    obtain ⟨as, hL, hlen, hg⟩ := G.same s0
    obtain ⟨g, e⟩ := at_lt hi
    obtain ⟨a, ea⟩ := at_lt (show i < as.length by rw [hlen]; exact hi)
    obtain ⟨d, hd⟩ := hg i a g ea e
    have hc : i < cur.length := by rw [lk.len]; exact hi
    have en := ns_at hc
    rw [lk.ab e, serves_val] at k
    refine ⟨_, rfl, p, CU, dx, _, _, rfl, hp, T.clU, T.nGrants, uF_grants _ _ _, _, rfl, lg, _, _, _, rfl, rfl, SqL.of hL, at_of (j := i) rfl (refs_at ea), ?_⟩
    refine ⟨_, rfl, a, CG, d, _, _, rfl, hd, T.clG, T.nFirst, gF_first g, _, rfl, _, _, rfl, rfl, _, rfl, ?_⟩
    refine ite2 (fun c1 => ?_) (fun c1 => ?_)
    · rw [show decide ((({ g with n := (gat cur i).n } : Grant).a : Int) ≤ (h : Int)) = true from c1] at k
      refine ⟨_, rfl, a, CG, d, _, _, rfl, hd, T.clG, T.nLast, gF_last g, _, _, rfl, rfl, _, rfl, ?_⟩
      refine ite2 (fun c2 => ?_) (fun c2 => ?_)
      · rw [show decide ((h : Int) ≤ (({ g with n := (gat cur i).n } : Grant).b : Int)) = true from c2] at k
        exact ⟨_, rfl, p, CU, dx, _, _, rfl, hp, T.clU, T.nLeft, uF_left _ _ _, _, rfl, ll, _, _, _, rfl, rfl, SqL.of hl, at_of (j := i) rfl (nV_at en), _, _, rfl, rfl, k⟩
      · rw [show decide ((h : Int) ≤ (({ g with n := (gat cur i).n } : Grant).b : Int)) = false from Bool.eq_false_iff.mpr c2] at k
        exact k
    · rw [show decide ((({ g with n := (gat cur i).n } : Grant).a : Int) ≤ (h : Int)) = false from Bool.eq_false_iff.mpr c1] at k
      exact ⟨_, rfl, iteF k⟩
theorem scSo : FnScope ["self", "half", "found", "place"] ["self", "half"] (defScope sSource) := ⟨rfl, rfl, rfl, by decide +kernel, rfl, by decide +kernel, by decide +kernel⟩
theorem found_lt {l : List Grant} {h n j : Nat} (e : found l h n = some j) : j < n := (found_some e).lt
theorem ok_source {f fG fB : Addr} {fd fdG fdB : FuncData} (F : Fun K "source" "Use.source" sSource f fd) (T : Txt K mg CG CU) (FG : Fun K "may_give" "Use.may_give" sGive fG fdG) (bG : Binds K fdG ["self", "place", "half"] []) (mG : Meth K CU "may_give" fG)
    (FB : Fun K "is_before" "Use.is_before" sBefore fB fdB) (bB : Binds K fdB ["self", "place", "other"] []) (mB : Meth K CU "is_before" fB) : FnOk P w K mg base CX0 2 f fd ["self", "half"] (spSource CG CU) := by
  have GG : FnOk P w K mg base CX0 1 fG fdG ["self", "place", "half"] (spGive CG CU) := ok_give FG T
  have GB : FnOk P w K mg base CX0 1 fB fdB ["self", "place", "other"] (spBefore CG CU) := ok_before FB T
  refine F.ok scSo (fun vs H Q E h => ?_) (fun cdv A outer s H vs Q E hr h => ?_)
  · obtain ⟨H0, p, gs, cur, u, h, rfl, _⟩ := h
    rfl
  · obtain ⟨H0, p, gs, cur, u, h, rfl, U, hlen, k⟩ := h
    refine ⟨_, pss_cons (ps_set (i := 2) scSo.nd rfl (Or.inl rfl) pe_non)
      (pss_cons (ps_for PassesOwn.never rfl (pi_range1 rfl T.range (pa_cons (pe_callB call_len_seq (by rfl) T.len PySem.boot_len (pa_cons (pe_fld (pv 0) rfl) pa_nil)) pa_nil)) (pg_name (i := 3) scSo.nd rfl (Or.inl rfl))
        (pss_one (ps_if (PW.pt (pw_and (pt_val (pe_meth (pv 0) T.clU mG GG hr bG .nil pass0 (pa_cons (pv 3) (pa_cons (pv 1) pa_nil)))) (pw_and1 (pt_val (pe_meth (pv 0) T.clU mB GB hr bB .nil pass0 (pa_cons (pv 3) (pa_cons (pv 2) pa_nil)))))))
          (pss_one (ps_set (i := 2) scSo.nd rfl (Or.inl rfl) (pv 3))) pss_nil)))
      (pss_one (ps_ret (pv 2)))), ?_⟩
    obtain ⟨s0, p0, lk, dx, lg, ll, G, l0, hp, hl⟩ := id U
    obtain ⟨as, hL, hlen2, hg⟩ := G.same s0
    have el : (as.map V.ref).length = gs.length := by rw [List.length_map, hlen2]
    rw [pick_eq, lk.len] at k
    refine ⟨_, rfl, p, CU, dx, _, _, rfl, hp, T.clU, T.nGrants, uF_grants _ _ _, lg, _, rfl, .inl (SqL.of hL), _, rfl, (by omega), (by omega), for_range (lo := 0) (n := (((as.map V.ref).length : Nat) : Int).toNat)
      (fun i σ H' => ∃ v : Option V, σ = [some (.ref p), some (.int (h : Int)), some (oV (found cur h i)), v] ∧ H' = H) ⟨none, rfl, rfl⟩ ?_ ?_⟩
    · rintro i σ H' hi ⟨v, rfl, rfl⟩
      rw [Int.toNat_natCast, el] at hi
      rw [Int.zero_add]
      have ef := found_succ cur h i
      refine ⟨_, rfl, p, dx, _, rfl, hp, uF_no _ _ _ (by decide +kernel) (by decide +kernel) (by decide +kernel), _, rfl, _, rfl, H0, p, gs, cur, u, i, h, rfl, U, hi, _, rfl, ?_⟩
      refine ite2 (fun c1 => ?_) (fun c1 => ?_)
      · have hf : ∀ j, found cur h i = some j → j < gs.length := fun j e => Nat.lt_trans (found_lt e) hi
        refine ⟨_, rfl, p, dx, _, rfl, hp, uF_no _ _ _ (by decide +kernel) (by decide +kernel) (by decide +kernel), _, rfl, _, rfl, H0, p, gs, cur, u, i, found cur h i, rfl, U, hi, hf, _, rfl, ?_⟩
        rw [← lk.ahead hi hf]
        refine ite2 (fun c2 => ?_) (fun c2 => ?_)
        · refine ⟨_, rfl, some (.int (i : Int)), ?_, rfl⟩
          rw [ef]
          unfold best
          rw [if_pos (by rw [c1, c2]; rfl)]
          rfl
        · refine ⟨some (.int (i : Int)), ?_, rfl⟩
          rw [ef]
          unfold best
          rw [if_neg (by rw [c1, Bool.true_and]; exact c2)]
          rfl
      · refine iteF ?_
        refine ⟨some (.int (i : Int)), ?_, rfl⟩
        rw [ef]
        unfold best
        rw [if_neg (by rw [Bool.eq_false_iff.mpr c1, Bool.false_and]; exact Bool.false_ne_true)]
        rfl
    · rintro σ H' ⟨v, rfl, rfl⟩
      rw [Int.toNat_natCast, el]
      exact ⟨_, rfl, k⟩
theorem scT : FnScope ["self", "half", "place"] ["self", "half"] (defScope sTake) := ⟨rfl, rfl, rfl, by decide +kernel, rfl, by decide +kernel, by decide +kernel⟩
theorem ok_take {f fS fG fB : Addr} {fd fdS fdG fdB : FuncData} (F : Fun K "take" "Use.take" sTake f fd) (T : Txt K mg CG CU) (FS : Fun K "source" "Use.source" sSource fS fdS) (bS : Binds K fdS ["self", "half"] []) (mS : Meth K CU "source" fS)
    (FG : Fun K "may_give" "Use.may_give" sGive fG fdG) (bG : Binds K fdG ["self", "place", "half"] []) (mG : Meth K CU "may_give" fG)
    (FB : Fun K "is_before" "Use.is_before" sBefore fB fdB) (bB : Binds K fdB ["self", "place", "other"] []) (mB : Meth K CU "is_before" fB) : FnOk P w K mg base CX0 3 f fd ["self", "half"] (spTake CG CU) := by
  have GS : FnOk P w K mg base CX0 2 fS fdS ["self", "half"] (spSource CG CU) := ok_source FS T FG bG mG FB bB mB
  refine F.ok scT (fun vs H Q E h => ?_) (fun cdv A outer s H vs Q E hr h => ?_)
  · obtain ⟨H0, p, gs, cur, u, h, rfl, _⟩ := h
    rfl
  · obtain ⟨H0, p, gs, cur, u, h, rfl, U, hlen, kN, kS⟩ := h
    refine ⟨_, pss_cons (ps_set (i := 2) scT.nd rfl (Or.inl rfl) (pe_meth (pv 0) T.clU mS GS hr bS .nil pass0 (pa_cons (pv 1) pa_nil)))
      (pss_one (ps_if (pt_cmp (pc_isN (pv 2))) (pss_one (ps_fld (pv 0) (pv 1) rfl))
        (pss_one (ps_asg (pe_op op_sub (pe_ix ix_list (pe_fld (pv 0) rfl) (pv 2) (fun _ _ => rfl)) pe_int) (pg_sub (pe_fld (pv 0) rfl) (pv 2) set_list))))), ?_⟩
    obtain ⟨s0, p0, lk, dx, lg, ll, G, l0, hp, hl⟩ := id U
    refine ⟨_, rfl, p, dx, _, rfl, hp, uF_no _ _ _ (by decide +kernel) (by decide +kernel) (by decide +kernel), _, rfl, H0, p, gs, cur, u, h, rfl, U, hlen, ?_⟩
    have npl : p ≠ ll := ne_of hp hl (by intro q; cases q)
    refine ⟨_, rfl, _, rfl, ?_⟩
    cases e : Kyi2.pick cur h with
    | none =>
      refine iteT ?_
      refine ⟨_, rfl, _, rfl, p, CU, dx, _, rfl, hp, T.clU, T.nUnc, (by show 3 < 1000; decide), ?_⟩
      refine kN e _ ⟨fun b o q => ?_, p0, lk, dx, lg, ll, G, l0, Eq.trans upd_same (congrArg (fun q => some (HO.ins CU dx q)) (uF_put _ _ _ _)), by rw [upd_ne npl.symm]; exact hl⟩
      rw [upd_ne (ne_of_none q p0)]
      exact s0 _ _ q
    | some i =>
      rw [oV_non]
      refine iteF ?_
      have hi := (pick_some e).lt
      have en := ns_at hi
      refine ⟨_, rfl, p, CU, dx, _, _, rfl, hp, T.clU, T.nLeft, uF_left _ _ _, _, rfl, ll, _, _, _, rfl, rfl, SqL.of hl, at_of (j := i) rfl (nV_at en), _, _, rfl, rfl, ?_⟩
      refine ⟨_, rfl, p, CU, dx, _, _, rfl, hp, T.clU, T.nLeft, uF_left _ _ _, _, rfl, ll, _, _, i, rfl, rfl, hl, ixN_nat (by rw [nV_len, List.length_map]; exact hi), ?_⟩
      refine kS i e _ ⟨fun b o q => ?_, p0, lk.less hi, dx, lg, ll, G, l0, by rw [upd_ne npl]; exact hp, ?_⟩
      · rw [upd_ne (ne_of_none q l0)]
        exact s0 _ _ q
      · rw [upd_same, less_ns]
        have hn := serves_pos (pick_some e).sv
        unfold nV
        rw [List.map_set, show (((gat cur i).n - 1 : Nat) : Int) = ((gat cur i).n : Int) - 1 by omega]
theorem scC : FnScope ["self"] ["self"] (defScope sCov) := ⟨rfl, rfl, rfl, by decide +kernel, rfl, by decide +kernel, by decide +kernel⟩
theorem ok_cov {f : Addr} {fd : FuncData} (F : Fun K "is_covered" "Use.is_covered" sCov f fd) (T : Txt K mg CG CU) : FnOk P w K mg base CX0 1 f fd ["self"] (spCov CG CU) := by
  refine F.ok scC (fun vs H Q E h => ?_) (fun cdv A outer s H vs Q E hr h => ?_)
  · obtain ⟨H0, p, gs, cur, u, rfl, _⟩ := h
    rfl
  · obtain ⟨H0, p, gs, cur, u, rfl, ⟨s0, p0, lk, dx, lg, ll, G, l0, hp, hl⟩, k⟩ := h
    refine ⟨_, pss_one (ps_ret (pe_cmp (pc_isN (pe_fld (pv 0) rfl)))), ?_⟩
    rw [← oV_non] at k
    exact ⟨_, rfl, p, CU, dx, _, _, rfl, hp, T.clU, T.nUnc, uF_unc _ _ _, k⟩
theorem scUI : FnScope ["self", "grants", "halves", "at", "grant"] ["self", "grants", "halves"] (defScope sUInit) := ⟨rfl, rfl, rfl, by decide +kernel, rfl, by decide +kernel, by decide +kernel⟩
theorem ok_uinit {f fT fS fG fB : Addr} {fd fdT fdS fdG fdB : FuncData} (F : Fun K "__init__" "Use.__init__" sUInit f fd) (T : Txt K mg CG CU) (FT : Fun K "take" "Use.take" sTake fT fdT) (bT : Binds K fdT ["self", "half"] []) (mT : Meth K CU "take" fT)
    (FS : Fun K "source" "Use.source" sSource fS fdS) (bS : Binds K fdS ["self", "half"] []) (mS : Meth K CU "source" fS)
    (FG : Fun K "may_give" "Use.may_give" sGive fG fdG) (bG : Binds K fdG ["self", "place", "half"] []) (mG : Meth K CU "may_give" fG)
    (FB : Fun K "is_before" "Use.is_before" sBefore fB fdB) (bB : Binds K fdB ["self", "place", "other"] []) (mB : Meth K CU "is_before" fB) : FnOk P w K mg base CX0 4 f fd ["self", "grants", "halves"] (spUInit K CG CU) := by
  have GT : FnOk P w K mg base CX0 3 fT fdT ["self", "half"] (spTake CG CU) := ok_take FT T FS bS mS FG bG mG FB bB mB
  refine F.ok scUI (fun vs H Q E h => ?_) (fun cdv A outer s H vs Q E hr h => ?_)
  · obtain ⟨H0, p, dx, lg, t, gs, ts, rfl, _⟩ := h
    rfl
  · obtain ⟨H0, p, dx, lg, t, gs, ts, rfl, hp, s0, p0, G, hgl, hS, k⟩ := h
    refine ⟨_, pss_cons (ps_fld (pv 0) (pv 1) rfl)
      (pss_cons (ps_fld (pv 0) (pe_lc (own := [("grant", 4)]) (g := gName 4) (tt := tYes) (te := tFld K (tVar 4) "many") rfl scUI.nd (pi_list (pv 1)) (blkOk_by (N := ["self", "grants", "halves", "at", "grant"]) (sc := defScope sUInit) (by decide +kernel))
        (fun _ _ _ _ _ => pg_name (i := 4) scUI.nd rfl (Or.inl rfl)) (fun _ _ _ _ _ => pts_nil) (fun _ _ _ _ _ => by exact pe_fld (pv 4) rfl)) rfl)
      (pss_cons (ps_fld (pv 0) pe_non rfl)
      (pss_cons (ps_set (i := 3) scUI.nd rfl (Or.inl rfl) pe_int)
      (pss_one (ps_while PassesOwn.never (PW.pt (pw_and (pt_cmpR op_lt (pv 3) (pe_callB call_len_seq (by rfl) T.len PySem.boot_len (pa_cons (pv 2) pa_nil)) (nomark _)) (pw_and1 (pt_cmp (pc_isN (pe_fld (pv 0) rfl))))))
        (pss_cons (ps_expr (pe_meth (pv 0) T.clU mT GT hr bT .nil pass0 (pa_cons (pe_ix ix_list (pv 2) (pv 3) (fun _ _ => rfl)) pa_nil)))
        (pss_one (ps_set (i := 3) scUI.nd rfl (Or.inl rfl) (pe_op op_add (pv 3) pe_int))))))))), ?_⟩
    -- self.grants = grants
    refine ⟨_, rfl, _, rfl, p, CU, dx, [], rfl, hp, T.clU, T.nGrants, (by show 0 < 1000; decide), ?_⟩
    have s1 : Same H0 (upd H p (.ins CU dx (putF "grants" (.ref lg) []))) := fun b o e => by
      rw [upd_ne (ne_of_none e p0)]
      exact s0 _ _ e
    have hp1 : (upd H p (.ins CU dx (putF "grants" (.ref lg) []))) p = some (.ins CU dx (putF "grants" (.ref lg) [])) := upd_same
    generalize (upd H p (.ins CU dx (putF "grants" (.ref lg) []))) = H1 at s1 hp1 ⊢
    -- self.left = [grant.many for grant in grants]
    obtain ⟨as, hL, hlen, hg⟩ := id G
    refine ⟨_, rfl, lg, rfl, ⟨_, SqL.of (s1 _ _ hL)⟩, fun D hD => lc_list (K := K) (a := lg) (xs := as.map V.ref)
      (fun i H' => Same H1 H' ∧ H' D = some (.lst (nV ((gs.map Grant.n).take i)))) ⟨fun b o e => by rw [upd_ne (ne_of_none e hD)]; exact e, by rw [upd_same]; rfl⟩ (fun i H' _ q => SqL.of (q.1 _ _ (s1 _ _ hL))) ?_ ?_⟩
    · rintro i y H' hi ⟨s2, hD2⟩
      obtain ⟨a, ha, rfl⟩ := refs_inv hi
      have hi2 : i < gs.length := by rw [← hlen]; exact lt_at ha
      obtain ⟨g, e⟩ := at_lt hi2
      obtain ⟨d, hd⟩ := hg i a g ha e
      refine ⟨rfl, ?_⟩
      refine yes_of ?_
      refine iteT ?_
      refine ⟨_, rfl, a, CG, d, _, _, rfl, s2 _ _ (s1 _ _ hd), T.clG, T.nMany, gF_many g, _, hD2, ?_, ?_, ?_⟩
      · rw [nV_len, List.length_take]
        exact sz1 (by rw [List.length_map]; omega)
      · intro b o e'
        rw [upd_ne (ne_of_none e' hD)]
        exact s2 _ _ e'
      · rw [upd_same]
        have et : (gs.map Grant.n).take (i + 1) = (gs.map Grant.n).take i ++ [g.n] := by
          rw [List.take_add_one, List.getElem?_map, e]
          rfl
        rw [et, nV_append]
        rfl
    rintro H2 ⟨s2, hD2⟩
    rw [List.length_map, hlen, List.take_of_length_le (by rw [List.length_map]; exact Nat.le_refl _)] at hD2
    have nDp : D ≠ p := fun q => by rw [q, hp1] at hD; cases hD
    have D0 : H0 D = none := by
      cases q : H0 D with
      | none => rfl
      | some o =>
        rw [s1 _ _ q] at hD
        cases hD
    refine ⟨_, rfl, p, CU, dx, _, rfl, s2 _ _ hp1, T.clU, T.nLeft, (by show 1 < 1000; decide), ?_⟩
    -- self.uncovered = None; at = 0
    refine ⟨_, rfl, p, CU, dx, _, rfl, upd_same, T.clU, T.nUnc, (by rw [uF_two]; show 2 < 1000; decide), ?_⟩
    have U0 : UseAt CG CU H0 (upd (upd H2 p (.ins CU dx (putF "left" (.ref D) (putF "grants" (.ref lg) [])))) p (.ins CU dx (putF "uncovered" .non (putF "left" (.ref D) (putF "grants" (.ref lg) []))))) p gs gs none := by
      refine ⟨fun b o e => ?_, p0, rfl, dx, lg, D, G, D0, Eq.trans upd_same (congrArg (fun q => some (HO.ins CU dx q)) (uF_new _ _)), ?_⟩
      · rw [upd_ne (ne_of_none e p0), upd_ne (ne_of_none e p0)]
        exact s2 _ _ (s1 _ _ e)
      · rw [upd_ne nDp, upd_ne nDp]
        exact hD2
    generalize (upd (upd H2 p (.ins CU dx (putF "left" (.ref D) (putF "grants" (.ref lg) [])))) p (.ins CU dx (putF "uncovered" .non (putF "left" (.ref D) (putF "grants" (.ref lg) []))))) = H3 at U0 ⊢
    -- while at < len(halves) and self.uncovered is None
    refine ⟨fun m σ H' => ∃ (i : Nat) (cur : List Grant) (u : Option Nat) (v : Option V), m = ts.length - i ∧ i ≤ ts.length ∧ σ = [some (.ref p), some (.ref lg), some (.ref t), some (.int (i : Int)), v] ∧ UseAt CG CU H0 H' p gs cur u ∧
        Kyi2.use gs ts = (match u with | none => Kyi2.use cur (ts.drop i) | some h => (cur, some h)), ⟨_, 0, gs, none, none, rfl, Nat.zero_le _, rfl, U0, rfl⟩, ?_⟩
    rintro m σ H' ⟨i, cur, u, v, rfl, hi, rfl, U, eu⟩
    obtain ⟨s4, _, lk, dx4, lg4, ll, G4, l0, hp4, hl4⟩ := id U
    refine ⟨_, rfl, _, rfl, t, nV ts, rfl, .inl (s4.seq hS), _, _, rfl, rfl, _, rfl, ?_⟩
    rw [nV_len]
    refine ite2 (fun c1 => ?_) (fun c1 => ?_)
    · have hi2 : i < ts.length := by
        have q := of_decide_eq_true c1
        omega
      refine ⟨_, rfl, p, CU, dx4, _, _, rfl, hp4, T.clU, T.nUnc, uF_unc _ _ _, _, rfl, ?_⟩
      cases u with
      | some h =>
        rw [oV_non]
        refine iteF (k _ ?_)
        rw [eu]
        exact U
      | none =>
        refine iteT ?_
        obtain ⟨x, hx⟩ := at_lt hi2
        rw [drop_at hx] at eu
        refine ⟨fun σ' H' => ∃ (cur : List Grant) (u : Option Nat) (v : Option V), σ' = [some (.ref p), some (.ref lg), some (.ref t), some (.int ((i + 1 : Nat) : Int)), v] ∧ UseAt CG CU H0 H' p gs cur u ∧
          Kyi2.use gs ts = (match u with | none => Kyi2.use cur (ts.drop (i + 1)) | some h => (cur, some h)), fun σ' H' ⟨cur, u, v, q1, q2, q3⟩ => ⟨ts.length - (i + 1), by omega, i + 1, cur, u, v, rfl, hi2, q1, q2, q3⟩, ?_⟩
        refine ⟨_, rfl, p, dx4, _, rfl, hp4, uF_no _ _ _ (by decide +kernel) (by decide +kernel) (by decide +kernel), _, rfl, _, rfl, t, _, _, _, rfl, rfl, s4.seq hS, at_of (j := i) rfl (nV_at hx), H0, p, gs, cur, none, x, rfl, U, hgl, fun e H5 U5 => ?_, fun j e H5 U5 => ?_⟩
        · refine ⟨_, rfl, _, _, rfl, rfl, ?_⟩
          refine ⟨cur, some x, v, rfl, U5, ?_⟩
          rw [eu]
          exact use_none e
        · refine ⟨_, rfl, _, _, rfl, rfl, ?_⟩
          refine ⟨Kyi2.less cur j, none, v, rfl, U5, ?_⟩
          rw [eu]
          exact use_some e
    · refine iteF ?_
      have q : ¬ _ := fun z => c1 (decide_eq_true z)
      refine k _ ?_
      rw [List.drop_eq_nil_of_le (by omega)] at eu
      cases u with
      | some h =>
        rw [eu]
        exact U
      | none =>
        rw [eu]
        exact U
end
end Lg
/-! ### 13. used -/
namespace Lg
open PySem PySem.Spec PyProof.Rows L2
open PySem.W (Codec)
open Kyi2 (Grant)
def spUsed (K : PySem.W.Frag) (CG CU : Addr) : Sp := fun vs H Q _ => ∃ (a b : Addr) (ls ts : List Nat), vs = [.ref a, .ref b] ∧ SqL K H a (nV ls) ∧ SqL K H b (nV ts) ∧
  (Kyi2.good ls ts = false → ∀ H' : Hp, Same H H' → Q .non H') ∧
  (Kyi2.good ls ts = true → ∀ (H0 H' : Hp) (p : Addr), Same H H0 → UseAt CG CU H0 H' p (Kyi2.grants ls) (Kyi2.use (Kyi2.grants ls) ts).1 (Kyi2.use (Kyi2.grants ls) ts).2 → Q (.ref p) H')
theorem good_eq (ls ts : List Nat) : Kyi2.good ls ts = (gOk ls && Kyi2.okTaken ts) := rfl
theorem gOk_short {ls : List Nat} (h : gOk ls = true) : (Kyi2.grants ls).length ≤ 10 := by
  unfold gOk Kyi2.okGrants at h
  rw [Bool.and_eq_true, Bool.and_eq_true] at h
  exact of_decide_eq_true h.2.1
/-- the parts of Use that are called -/
structure UseFns (K : PySem.W.Frag) (CU fI fT fS fG fB : Addr) (fdI fdT fdS fdG fdB : FuncData) : Prop where
  M : Mk K CU fI
  FI : Fun K "__init__" "Use.__init__" sUInit fI fdI
  bI : Binds K fdI ["self", "grants", "halves"] []
  FT : Fun K "take" "Use.take" sTake fT fdT
  bT : Binds K fdT ["self", "half"] []
  mT : Meth K CU "take" fT
  FS : Fun K "source" "Use.source" sSource fS fdS
  bS : Binds K fdS ["self", "half"] []
  mS : Meth K CU "source" fS
  FG : Fun K "may_give" "Use.may_give" sGive fG fdG
  bG : Binds K fdG ["self", "place", "half"] []
  mG : Meth K CU "may_give" fG
  FB : Fun K "is_before" "Use.is_before" sBefore fB fdB
  bB : Binds K fdB ["self", "place", "other"] []
  mB : Meth K CU "is_before" fB
structure GrantFns (K : PySem.W.Frag) (CG fI fR : Addr) (fdI fdR : FuncData) : Prop where
  M : Mk K CG fI
  FI : Fun K "__init__" "Grant.__init__" sGInit fI fdI
  bI : Binds K fdI ["self", "first", "last", "many"] []
  FR : Fun K "is_right" "Grant.is_right" sRight fR fdR
  bR : Binds K fdR ["self"] []
  mR : Meth K CG "is_right" fR
structure DefAt (K : PySem.W.Frag) (mg : Str → Option Value) (x : Str) (st : Stmt) (ps : List Str) (f : Addr) (fd : FuncData) : Prop where
  F : Fun K x x st f fd
  b : Binds K fd ps []
  g : mg x = some (.ref f)
section
variable {P : Program} {w : World} {K : PySem.W.Frag} {mg : Str → Option Value} {base : Heap} {CG CU fI fT fS fG fB gI gR fGs fHs : Addr} {fdI fdT fdS fdG fdB gdI gdR fdGs fdHs : FuncData}
theorem UseFns.init (U : UseFns K CU fI fT fS fG fB fdI fdT fdS fdG fdB) (T : Txt K mg CG CU) : FnOk P w K mg base CX0 4 fI fdI ["self", "grants", "halves"] (spUInit K CG CU) :=
  ok_uinit U.FI T U.FT U.bT U.mT U.FS U.bS U.mS U.FG U.bG U.mG U.FB U.bB U.mB
theorem GrantFns.of (G : GrantFns K CG gI gR gdI gdR) (D : DefAt K mg "grants_of" sGrants ["row"] fGs fdGs) (T : Txt K mg CG CU) : FnOk P w K mg base CX0 3 fGs fdGs ["row"] (spGrants K CG) :=
  ok_grants D.F T G.M G.FI G.bI G.FR G.bR G.mR
theorem scU : FnScope ["l", "t", "grants"] ["l", "t"] (defScope sUsed) := ⟨rfl, rfl, rfl, by decide +kernel, rfl, by decide +kernel, by decide +kernel⟩
theorem ok_used {f : Addr} {fd : FuncData} (F : Fun K "used" "used" sUsed f fd) (T : Txt K mg CG CU) (U : UseFns K CU fI fT fS fG fB fdI fdT fdS fdG fdB) (G : GrantFns K CG gI gR gdI gdR)
    (Dg : DefAt K mg "grants_of" sGrants ["row"] fGs fdGs) (Dh : DefAt K mg "are_halves" sHalves ["row"] fHs fdHs) : FnOk P w K mg base CX0 6 f fd ["l", "t"] (spUsed K CG CU) := by
  have GU : FnOk P w K mg base CX0 4 fI fdI ["self", "grants", "halves"] (spUInit K CG CU) := U.init T
  have GG : FnOk P w K mg base CX0 3 fGs fdGs ["row"] (spGrants K CG) := G.of Dg T
  have GH : FnOk P w K mg base CX0 1 fHs fdHs ["row"] (spHalves K) := ok_halves Dh.F T
  refine F.ok scU (fun vs H Q E h => ?_) (fun cdv A outer s H vs Q E hr h => ?_)
  · obtain ⟨a, b, ls, ts, rfl, _⟩ := h
    rfl
  · obtain ⟨a, b, ls, ts, rfl, hA, hB, kN, kS⟩ := h
    have hr1 : Room 1 _ := hr.mono (by decide)
    have hr3 : Room 3 _ := hr.mono (by decide)
    refine ⟨_, pss_cons (ps_set (i := 2) scU.nd rfl (Or.inl rfl) (pe_call GG hr3 rfl Dg.g Dg.F.kp Dg.b .nil pass0 (pa_cons (pv 0) pa_nil)))
      (pss_cons (ps_if (PW.pt (pw_or (pt_cmp (pc_isN (pv 2))) (pw_or1 (pt_not (pt_val (pe_call GH hr1 rfl Dh.g Dh.F.kp Dh.b .nil pass0 (pa_cons (pv 1) pa_nil))))))) (pss_one (ps_ret pe_non)) pss_nil)
      (pss_one (ps_ret (pe_make U.M GU hr rfl T.gU U.bI .nil pass0 (pa_cons (pv 2) (pa_cons (pv 1) pa_nil)))))), ?_⟩
    rw [good_eq] at kN kS
    refine ⟨_, rfl, a, ls, rfl, hA, fun e H1 s1 => ?_, fun e H1 lg s1 l0 hG => ?_⟩
    · -- the grants aren't as told
      refine ⟨_, rfl, _, rfl, ?_⟩
      rw [non_non]
      refine iteT (iteT (kN ?_ H1 s1))
      rw [e, Bool.false_and]
    · refine ⟨_, rfl, _, rfl, ?_⟩
      rw [ref_non]
      refine iteF ?_
      refine ⟨_, rfl, b, ts, rfl, s1.seq hB, _, rfl, ?_⟩
      refine ite2 (fun c => ?_) (fun c => ?_)
      · refine kN ?_ H1 s1
        have : Kyi2.okTaken ts = false := by
          cases q : Kyi2.okTaken ts with
          | false => rfl
          | true =>
            rw [q] at c
            cases c
        rw [this, Bool.and_false]
      · have q : Kyi2.okTaken ts = true := by
          cases q : Kyi2.okTaken ts with
          | true => rfl
          | false =>
            rw [q] at c
            exact absurd rfl c
        have gd : (gOk ls && Kyi2.okTaken ts) = true := by rw [e, q]; rfl
        refine ⟨_, rfl, _, rfl, fun x dx nx ndx nex => ?_⟩
        refine ⟨H1, x, dx, lg, b, Kyi2.grants ls, ts, rfl, upd_same, fun b o e' => ?_, nx, hG, Nat.le_trans (gOk_short e) (by decide), s1.seq hB, fun H2 U2 => ⟨rfl, kS gd H1 H2 x s1 U2⟩⟩
        rw [upd_ne (ne_of_none e' nx), upd_ne (ne_of_none e' ndx)]
        exact e'
end
end Lg
/-! ### 13b. have_one_in_common, merged -/
namespace Lg
open PySem PySem.Spec PyProof.Rows L2
open PySem.W (Codec)
open Kyi2 (Grant)
abbrev sCommon : Stmt := top 9
abbrev sMerged : Stmt := top 10
def spCommon (K : PySem.W.Frag) : Sp := fun vs H Q _ => ∃ (a b : Addr) (cs ts : List Nat), vs = [.ref a, .ref b] ∧ SqL K H a (nV cs) ∧ SqL K H b (nV ts) ∧ Q (.bl (cs.any fun h => ts.contains h)) H
def spMerged (K : PySem.W.Frag) : Sp := fun vs H Q _ => ∃ (a b : Addr) (xs ys : List Nat), vs = [.ref a, .ref b] ∧ SqL K H a (nV xs) ∧ SqL K H b (nV ys) ∧ xs.length ≤ 64 ∧ ys.length ≤ 64 ∧
  ∀ (H' : Hp) (p : Addr), Same H H' → H' p = some (.lst (nV (mrg xs ys))) → Q (.ref p) H'
theorem inV_nat (z : Nat) : ∀ ts : List Nat, inV (.int (z : Int)) (nV ts) = ts.contains z
  | [] => rfl
  | t :: ts => by
    show (((t : Int) == (z : Int)) || inV (.int (z : Int)) (nV ts)) = (t :: ts).contains z
    rw [inV_nat z ts, List.contains_cons]
    congr 1
    by_cases e : t = z
    · rw [e, beq_self_eq_true, beq_self_eq_true]
    · rw [beq_eq_false_iff_ne.mpr (by omega), beq_eq_false_iff_ne.mpr (fun q => e q.symm)]
theorem flat_nat : ∀ ts : List Nat, (nV ts).all flatV = true
  | [] => rfl
  | t :: ts => by
    show (true && (nV ts).all flatV) = true
    rw [flat_nat ts]
    rfl
theorem cut_from (l : List Nat) (k : Nat) : cutV (nV l) (some (k : Int)) none = nV (l.drop k) := by
  unfold cutV
  rw [HT.sIx_nat, HT.sIx_none, nV_len, nV_drop, nV_take]
  by_cases c : k ≤ l.length
  · rw [Nat.min_eq_left c, List.take_of_length_le (by rw [List.length_drop]; exact Nat.le_refl _)]
  · rw [Nat.min_eq_right (by omega), List.drop_eq_nil_of_le (Nat.le_refl _), List.drop_eq_nil_of_le (by omega), List.take_nil]
theorem cut_to (l : List Nat) (k : Nat) : cutV (nV l) none (some (k : Int)) = nV (l.take k) := by
  unfold cutV
  rw [HT.sIx_nat, HT.sIx_none, nV_len, List.drop_zero, Nat.sub_zero, nV_take]
  by_cases c : k ≤ l.length
  · rw [Nat.min_eq_left c]
  · rw [Nat.min_eq_right (by omega), List.take_length, List.take_of_length_le (by omega)]
section
variable {P : Program} {w : World} {K : PySem.W.Frag} {mg : Str → Option Value} {base : Heap} {CG CU : Addr}
theorem scCo : FnScope ["row", "other", "half"] ["row", "other"] (defScope sCommon) := ⟨rfl, rfl, rfl, by decide +kernel, rfl, by decide +kernel, by decide +kernel⟩
theorem ok_common {f : Addr} {fd : FuncData} (F : Fun K "have_one_in_common" "have_one_in_common" sCommon f fd) : FnOk P w K mg base CX0 1 f fd ["row", "other"] (spCommon K) := by
  refine F.ok scCo (fun vs H Q E h => ?_) (fun cdv A outer s H vs Q E hr h => ?_)
  · obtain ⟨a, b, cs, ts, rfl, _⟩ := h
    rfl
  · obtain ⟨a, b, cs, ts, rfl, hA, hB, k⟩ := h
    refine ⟨_, pss_cons (ps_for PassesOwn.never rfl (pi_list (pv 0)) (pg_name (i := 2) scCo.nd rfl (Or.inl rfl))
        (pss_one (ps_if (pt_cmpR op_in_seq (pv 2) (pv 1) (by rfl)) (pss_one (ps_ret pe_bl)) pss_nil)))
      (pss_one (ps_ret pe_bl)), ?_⟩
    refine ⟨_, rfl, a, rfl, ⟨_, hA⟩, for_list (K := K) (a := a) (xs := nV cs)
      (fun i σ H' => ∃ v : Option V, σ = [some (.ref a), some (.ref b), v] ∧ H' = H ∧ (cs.any fun h => ts.contains h) = ((cs.drop i).any fun h => ts.contains h))
      ⟨none, rfl, rfl, rfl⟩ (fun i σ H' _ ⟨_, _, e, _⟩ => by rw [e]; exact hA) ?_ ?_⟩
    · rintro i y σ H' hi ⟨v, rfl, rfl, e⟩
      obtain ⟨z, hz, rfl⟩ := nV_inv hi
      rw [drop_at hz, List.any_cons] at e
      refine ⟨_, rfl, _, rfl, b, _, rfl, .inl hB, rfl, flat_nat ts, _, rfl, ?_⟩
      rw [if_neg Bool.false_ne_true, inV_nat]
      refine ite2 (fun c => ?_) (fun c => ?_)
      · rw [e, c] at k
        exact k
      · rw [Bool.eq_false_iff.mpr c, Bool.false_or] at e
        exact ⟨_, rfl, rfl, e⟩
    · rintro σ H' ⟨v, rfl, rfl, e⟩
      rw [List.drop_eq_nil_of_le (by rw [nV_len]; exact Nat.le_refl _)] at e
      rw [e] at k
      exact k
theorem scMe : FnScope ["row", "other", "found", "at", "half"] ["row", "other"] (defScope sMerged) := ⟨rfl, rfl, rfl, by decide +kernel, rfl, by decide +kernel, by decide +kernel⟩
theorem ok_merged {f : Addr} {fd : FuncData} (F : Fun K "merged" "merged" sMerged f fd) (T : Txt K mg CG CU) : FnOk P w K mg base CX0 1 f fd ["row", "other"] (spMerged K) := by
  refine F.ok scMe (fun vs H Q E h => ?_) (fun cdv A outer s H vs Q E hr h => ?_)
  · obtain ⟨a, b, xs, ys, rfl, _⟩ := h
    rfl
  · obtain ⟨a, b, xs, ys, rfl, hA, hB, lx, ly, k⟩ := h
    refine ⟨_, pss_cons (ps_set (i := 2) scMe.nd rfl (Or.inl rfl) (pe_lst pa_nil))
      (pss_cons (ps_set (i := 3) scMe.nd rfl (Or.inl rfl) pe_int)
      (pss_cons (ps_for PassesOwn.never rfl (pi_list (pv 0)) (pg_name (i := 4) scMe.nd rfl (Or.inl rfl))
        (pss_cons (ps_while PassesOwn.never (PW.pt (pw_and (pt_cmpR op_lt (pv 3) (pe_callB call_len_seq (by rfl) T.len PySem.boot_len (pa_cons (pv 1) pa_nil)) (nomark _)) (pw_and1 (pt_cmpR op_lt (pe_ix ix_list (pv 1) (pv 3) (fun _ _ => rfl)) (pv 4) (nomark _)))))
          (pss_cons (ps_expr (pe_bm PySem.F.plainAttrs_list PySem.F.slot_list_append PySem.F.type_list_append mt_append (pv 2) (pa_cons (pe_ix ix_list (pv 1) (pv 3) (fun _ _ => rfl)) pa_nil)))
          (pss_one (ps_set (i := 3) scMe.nd rfl (Or.inl rfl) (pe_op op_add (pv 3) pe_int)))))
        (pss_one (ps_expr (pe_bm PySem.F.plainAttrs_list PySem.F.slot_list_append PySem.F.type_list_append mt_append (pv 2) (pa_cons (pv 4) pa_nil))))))
      (pss_one (ps_ret (pe_op op_cat (pv 2) (pe_callTy call_list_of (by rfl) T.list (by decide +kernel) (pa_cons (pe_slice sl_list (pv 1) (po_some (pv 3)) po_none) pa_nil))))))), ?_⟩
    -- found = []; at = 0
    refine ⟨Nat.zero_le _, fun fo hfo => ?_⟩
    have s1 : Same H (upd H fo (.lst [])) := fun b o e => by
      rw [upd_ne (ne_of_none e hfo)]
      exact e
    -- for half in row
    refine ⟨_, rfl, a, rfl, ⟨_, s1.seq hA⟩, for_list (K := K) (a := a) (xs := nV xs)
      (fun i σ H' => ∃ (j : Nat) (acc : List Nat) (v : Option V), σ = [some (.ref a), some (.ref b), some (.ref fo), some (.int (j : Int)), v] ∧ Same H H' ∧ H' fo = some (.lst (nV acc)) ∧ j ≤ ys.length ∧ acc.length = i + j ∧
        mrg xs ys = acc ++ mrg (xs.drop i) (ys.drop j)) ⟨0, [], none, rfl, s1, upd_same, Nat.zero_le _, rfl, rfl⟩ (fun i σ H' _ ⟨_, _, _, _, q, _⟩ => q.seq hA) ?_ ?_⟩
    · rintro i y σ H' hi ⟨j, acc, v, rfl, s2, hf2, hj, hl, em⟩
      obtain ⟨x, hx, rfl⟩ := nV_inv hi
      have hix := lt_at hx
      rw [drop_at hx] at em
      -- while at < len(other) and other[at] < half
      refine ⟨fun m σ H' => ∃ (j : Nat) (acc : List Nat), m = ys.length - j ∧ σ = [some (.ref a), some (.ref b), some (.ref fo), some (.int (j : Int)), some (.int (x : Int))] ∧ Same H H' ∧ H' fo = some (.lst (nV acc)) ∧ j ≤ ys.length ∧ acc.length = i + j ∧
          mrg xs ys = acc ++ mrg (x :: xs.drop (i + 1)) (ys.drop j), ⟨_, j, acc, rfl, rfl, s2, hf2, hj, hl, em⟩, ?_⟩
      rintro m σ H' ⟨j, acc, rfl, rfl, s2, hf2, hj, hl, em⟩
      -- found.append(half), behind the while
      have fin : mrg (x :: xs.drop (i + 1)) (ys.drop j) = x :: mrg (xs.drop (i + 1)) (ys.drop j) → tDrop (tBM K "list" rAppend (tVar 2) (tCons (tVar 4) tNil))
          { nx := fun σ H' => ∃ (j : Nat) (acc : List Nat) (v : Option V), σ = [some (.ref a), some (.ref b), some (.ref fo), some (.int (j : Int)), v] ∧ Same H H' ∧ H' fo = some (.lst (nV acc)) ∧ j ≤ ys.length ∧ acc.length = (i + 1) + j ∧
            mrg xs ys = acc ++ mrg (xs.drop (i + 1)) (ys.drop j), rt := Q } [some (.ref a), some (.ref b), some (.ref fo), some (.int (j : Int)), some (.int (x : Int))] H' := fun ex => by
        refine ⟨_, rfl, .inl ⟨rfl, _, SqL.of hf2⟩, _, rfl, fo, _, _, rfl, rfl, hf2, (by rw [nV_len]; exact sz1 (by omega)), ?_⟩
        refine ⟨j, acc ++ [x], _, rfl, fun b o e => ?_, ?_, hj, by rw [List.length_append, hl]; show i + j + 1 = _; omega, ?_⟩
        · rw [upd_ne (ne_of_none e hfo)]
          exact s2 _ _ e
        · rw [upd_same, nV_append]
          rfl
        · rw [em, ex, List.append_assoc]
          rfl
      refine ⟨_, rfl, _, rfl, b, _, rfl, .inl (s2.seq hB), _, _, rfl, rfl, _, rfl, ?_⟩
      rw [nV_len]
      refine ite2 (fun c1 => ?_) (fun c1 => ?_)
      · have hj2 : j < ys.length := by
          have q := of_decide_eq_true c1
          omega
        obtain ⟨y, hy⟩ := at_lt hj2
        rw [drop_at hy] at em fin
        refine ⟨_, rfl, _, rfl, b, _, _, _, rfl, rfl, s2.seq hB, at_of (j := j) rfl (nV_at hy), _, rfl, _, _, rfl, rfl, _, rfl, ?_⟩
        refine ite2 (fun c2 => ?_) (fun c2 => ?_)
        · have q := of_decide_eq_true c2
          refine ⟨fun σ' H' => ∃ acc : List Nat, σ' = [some (.ref a), some (.ref b), some (.ref fo), some (.int ((j + 1 : Nat) : Int)), some (.int (x : Int))] ∧ Same H H' ∧ H' fo = some (.lst (nV acc)) ∧ acc.length = i + (j + 1) ∧
            mrg xs ys = acc ++ mrg (x :: xs.drop (i + 1)) (ys.drop (j + 1)), fun σ' H' ⟨acc, q1, q2, q3, q4, q5⟩ => ⟨ys.length - (j + 1), by omega, j + 1, acc, rfl, q1, q2, q3, hj2, q4, q5⟩, ?_⟩
          refine ⟨_, rfl, .inl ⟨rfl, _, SqL.of hf2⟩, _, rfl, _, rfl, b, _, _, _, rfl, rfl, s2.seq hB, at_of (j := j) rfl (nV_at hy), fo, _, _, rfl, rfl, hf2, (by rw [nV_len]; exact sz1 (by omega)), ?_⟩
          refine ⟨_, rfl, _, _, rfl, rfl, ?_⟩
          refine ⟨acc ++ [y], rfl, fun b o e => ?_, ?_, by rw [List.length_append, hl]; rfl, ?_⟩
          · rw [upd_ne (ne_of_none e hfo)]
            exact s2 _ _ e
          · rw [upd_same, nV_append]
            rfl
          · rw [em, mrg_lt (by omega), List.append_assoc]
            rfl
        · have q : ¬ _ := fun z => c2 (decide_eq_true z)
          exact fin (mrg_ge (by omega))
      · have q : ¬ _ := fun z => c1 (decide_eq_true z)
        refine iteF (fin ?_)
        rw [List.drop_eq_nil_of_le (show ys.length ≤ j by omega)]
        exact mrg_cons_nil _ _
    · rintro σ H' ⟨j, acc, v, rfl, s2, hf2, hj, hl, em⟩
      rw [List.drop_eq_nil_of_le (by rw [nV_len]; exact Nat.le_refl _), mrg_nil] at em
      rw [nV_len] at hl
      -- return found + list(other[at:])
      refine ⟨_, rfl, _, rfl, _, rfl, j, rfl, b, _, rfl, s2.seq hB, fun p hp => ?_⟩
      rw [cut_from]
      refine ⟨p, _, rfl, .inl (SqL.of upd_same), fun q hq => ?_⟩
      have s3 : Same H' (upd (upd H' p (.lst (nV (ys.drop j)))) q (.lst (nV (ys.drop j)))) := fun b o e => by
        have e2 : (upd H' p (.lst (nV (ys.drop j)))) b = some o := by rw [upd_ne (ne_of_none e hp)]; exact e
        rw [upd_ne (ne_of_none e2 hq)]
        exact e2
      refine ⟨fo, q, _, _, rfl, rfl, s3 _ _ hf2, upd_same, by rw [nV_len, nV_len, List.length_drop]; exact sz (by omega), fun z hz => k _ z (fun b o e => ?_) ?_⟩
      · have e2 := s3 _ _ (s2 _ _ e)
        rw [upd_ne (ne_of_none e2 hz)]
        exact e2
      · rw [upd_same, em, nV_append]
end
end Lg
/-! ### 14. more -/
namespace Lg
open PySem PySem.Spec PyProof.Rows L2
open PySem.W (Codec)
open Kyi2 (Grant)
def spMain (K : PySem.W.Frag) : Sp := fun vs H Q _ => ∃ (a b d : Addr) (ls ts cs : List Nat), vs = [.ref a, .ref b, .ref d] ∧ SqL K H a (nV ls) ∧ SqL K H b (nV ts) ∧ SqL K H d (nV cs) ∧
  ∀ (H' : Hp) (p : Addr), H' p = some (.lst ((PyKyi2.more (il ls) (il ts) (il cs)).map V.int)) → Q (.ref p) H'
theorem main_eq (ls ts cs : List Nat) : PyKyi2.more (il ls) (il ts) (il cs) = (if Kyi2.good ls ts = false ∨ Kyi2.okTaken cs = false ∨ (cs.any fun h => ts.contains h) = true then [-22] else match (Kyi2.use (Kyi2.grants ls) ts).2 with
    | none => [((Kyi2.more (Kyi2.grants ls) ts cs : Nat) : Int)]
    | some _ => [-33]) := by
  show (Kyi2.answer (.more (Kyi2Neutral.natsOf (il ls)) (Kyi2Neutral.natsOf (il ts)) (Kyi2Neutral.natsOf (il cs)))).value :: Kyi2Neutral.ints (Kyi2.answer (.more (Kyi2Neutral.natsOf (il ls)) (Kyi2Neutral.natsOf (il ts)) (Kyi2Neutral.natsOf (il cs)))).nums = _
  rw [nats_il, nats_il, nats_il]
  have e : Kyi2.answer (.more ls ts cs) = (if Kyi2.good ls ts = false ∨ Kyi2.okTaken cs = false ∨ (cs.any fun h => ts.contains h) = true then Kyi1.say (-22) else if ((Kyi2.use (Kyi2.grants ls) ts).2 == none) = false then Kyi1.say (-33)
    else Kyi1.say (Kyi2.more (Kyi2.grants ls) ts cs : Nat)) := rfl
  rw [e]
  by_cases c : Kyi2.good ls ts = false ∨ Kyi2.okTaken cs = false ∨ (cs.any fun h => ts.contains h) = true
  · rw [if_pos c, if_pos c]
    rfl
  · rw [if_neg c, if_neg c]
    cases (Kyi2.use (Kyi2.grants ls) ts).2 with
    | none => rfl
    | some h => rfl
theorem covered_isNone (l : List Grant) (t : List Nat) : Kyi2.covered l t = (Kyi2.use l t).2.isNone := by
  unfold Kyi2.covered
  cases (Kyi2.use l t).2 <;> rfl
section
variable {P : Program} {w : World} {K : PySem.W.Frag} {mg : Str → Option Value} {base : Heap} {CG CU fI fT fS fG fB gI gR fGs fHs fU fC fCo fMe : Addr} {fdI fdT fdS fdG fdB gdI gdR fdGs fdHs fdU fdC fdCo fdMe : FuncData}
theorem scMn : FnScope ["l", "t", "c", "use", "many"] ["l", "t", "c"] (defScope sMain) := ⟨rfl, rfl, rfl, by decide +kernel, rfl, by decide +kernel, by decide +kernel⟩
theorem ok_main {f : Addr} {fd : FuncData} (F : Fun K "more" "more" sMain f fd) (T : Txt K mg CG CU) (U : UseFns K CU fI fT fS fG fB fdI fdT fdS fdG fdB) (G : GrantFns K CG gI gR gdI gdR)
    (Dg : DefAt K mg "grants_of" sGrants ["row"] fGs fdGs) (Dh : DefAt K mg "are_halves" sHalves ["row"] fHs fdHs) (Du : DefAt K mg "used" sUsed ["l", "t"] fU fdU)
    (FC : Fun K "is_covered" "Use.is_covered" sCov fC fdC) (bC : Binds K fdC ["self"] []) (mC : Meth K CU "is_covered" fC)
    (Dc : DefAt K mg "have_one_in_common" sCommon ["row", "other"] fCo fdCo) (Dr : DefAt K mg "merged" sMerged ["row", "other"] fMe fdMe) : FnOk P w K mg base CX0 7 f fd ["l", "t", "c"] (spMain K) := by
  have GU : FnOk P w K mg base CX0 6 fU fdU ["l", "t"] (spUsed K CG CU) := ok_used Du.F T U G Dg Dh
  have GH : FnOk P w K mg base CX0 1 fHs fdHs ["row"] (spHalves K) := ok_halves Dh.F T
  have GC : FnOk P w K mg base CX0 1 fC fdC ["self"] (spCov CG CU) := ok_cov FC T
  have GI : FnOk P w K mg base CX0 4 fI fdI ["self", "grants", "halves"] (spUInit K CG CU) := U.init T
  have GCo : FnOk P w K mg base CX0 1 fCo fdCo ["row", "other"] (spCommon K) := ok_common Dc.F
  have GMe : FnOk P w K mg base CX0 1 fMe fdMe ["row", "other"] (spMerged K) := ok_merged Dr.F T
  refine F.ok scMn (fun vs H Q E h => ?_) (fun cdv A outer s H vs Q E hr h => ?_)
  · obtain ⟨a, b, d, ls, ts, cs, rfl, _⟩ := h
    rfl
  · obtain ⟨a, b, d, ls, ts, cs, rfl, hA, hB, hD, k⟩ := h
    have hr1 : Room 1 _ := hr.mono (by decide)
    have hr5 : Room 5 _ := hr.mono (by decide)
    refine ⟨_, pss_cons (ps_set (i := 3) scMn.nd rfl (Or.inl rfl) (pe_call GU hr rfl Du.g Du.F.kp Du.b .nil pass0 (pa_cons (pv 0) (pa_cons (pv 1) pa_nil))))
      (pss_cons (ps_if (PW.pt (pw_or (pt_cmp (pc_isN (pv 3))) (pw_or (pt_not (pt_val (pe_call GH hr1 rfl Dh.g Dh.F.kp Dh.b .nil pass0 (pa_cons (pv 2) pa_nil))))
          (pw_or1 (pt_val (pe_call GCo hr1 rfl Dc.g Dc.F.kp Dc.b .nil pass0 (pa_cons (pv 2) (pa_cons (pv 1) pa_nil)))))))) (pss_one (ps_ret (pe_lst (pa_cons (pe_gnum rfl T.notSo) pa_nil)))) pss_nil)
      (pss_cons (ps_if (pt_not (pt_val (pe_meth0 (pv 3) T.clU mC GC hr1 bC .nil pass0))) (pss_one (ps_ret (pe_lst (pa_cons (pe_gnum rfl T.notCov) pa_nil)))) pss_nil)
      (pss_cons (ps_set (i := 4) scMn.nd rfl (Or.inl rfl) pe_int)
      (pss_cons (ps_while PassesOwn.never (PW.pt (pw_and (pt_cmpR op_lt (pv 4) (pe_callB call_len_seq (by rfl) T.len PySem.boot_len (pa_cons (pv 2) pa_nil)) (nomark _))
          (pw_and1 (pt_val (pe_meth0 (pe_make U.M GI hr5 rfl T.gU U.bI .nil pass0 (pa_cons (pe_fld (pv 3) rfl) (pa_cons (pe_call GMe hr1 rfl Dr.g Dr.F.kp Dr.b .nil pass0 (pa_cons (pv 1)
            (pa_cons (pe_slice sl_list (pv 2) po_none (po_some (pe_op op_add (pv 4) pe_int))) pa_nil))) pa_nil))) T.clU mC GC hr1 bC .nil pass0)))))
        (pss_one (ps_set (i := 4) scMn.nd rfl (Or.inl rfl) (pe_op op_add (pv 4) pe_int))))
      (pss_one (ps_ret (pe_lst (pa_cons (pv 4) pa_nil)))))))), ?_⟩
    rw [main_eq] at k
    refine ⟨_, rfl, _, rfl, a, b, ls, ts, rfl, hA, hB, fun e H1 s1 => ?_, fun e H0 H1 p s1 U1 => ?_⟩
    · refine ⟨_, rfl, _, rfl, ?_⟩
      rw [non_non]
      refine iteT (iteT ⟨(by show 1 ≤ sizeLine; decide), fun q hq => ?_⟩)
      rw [if_pos (.inl e)] at k
      exact k _ q upd_same
    · have sH : Same H H1 := s1.trans U1.1
      refine ⟨_, rfl, _, rfl, ?_⟩
      rw [ref_non]
      refine iteF ?_
      refine ⟨_, rfl, d, cs, rfl, sH.seq hD, _, rfl, ?_⟩
      cases oc : Kyi2.okTaken cs with
      | false =>
        refine iteT (iteT ⟨(by show 1 ≤ sizeLine; decide), fun q hq => ?_⟩)
        rw [if_pos (.inr (.inl oc))] at k
        exact k _ q upd_same
      | true =>
      refine iteF ?_
      refine ⟨_, rfl, _, rfl, d, b, cs, ts, rfl, sH.seq hD, sH.seq hB, _, rfl, ?_⟩
      cases an : cs.any fun h => ts.contains h with
      | true =>
        refine iteT ⟨(by show 1 ≤ sizeLine; decide), fun q hq => ?_⟩
        rw [if_pos (.inr (.inr an))] at k
        exact k _ q upd_same
      | false =>
      refine iteF ?_
      rw [if_neg (by rw [e, oc, an]; intro z; rcases z with z | z | z <;> cases z)] at k
      have ge : gOk ls = true := by rw [good_eq, Bool.and_eq_true] at e; exact e.1
      have ot : Kyi2.okTaken ts = true := by rw [good_eq, Bool.and_eq_true] at e; exact e.2
      have ht := halves_of ot
      have hc := halves_of oc
      obtain ⟨s0, p0, lk, dx, lg, ll, hG, l0, hp, hl⟩ := id U1
      refine ⟨_, rfl, p, dx, _, rfl, hp, uF_no _ _ _ (by decide +kernel) (by decide +kernel) (by decide +kernel), H0, p, _, _, _, rfl, U1, _, rfl, ?_⟩
      cases u : (Kyi2.use (Kyi2.grants ls) ts).2 with
      | some h =>
        rw [u] at k
        refine iteT ⟨(by show 1 ≤ sizeLine; decide), fun q hq => ?_⟩
        exact k _ q upd_same
      | none =>
      rw [u] at k
      refine iteF ?_
      -- many = 0; while many < len(c) and Use(use.grants, merged(t, c[:many + 1])).is_covered()
      have c0 : Kyi2.covered (Kyi2.grants ls) (Kyi2.merge ts (cs.take 0)) = true := by
        rw [merge_take ht hc an, List.take_zero, mrg_nil_right]
        exact covered_iff.mpr u
      refine ⟨fun m σ H' => ∃ j : Nat, m = cs.length - j ∧ j ≤ cs.length ∧ σ = [some (.ref a), some (.ref b), some (.ref d), some (.ref p), some (.int (j : Int))] ∧ Same H1 H' ∧ Kyi2.covered (Kyi2.grants ls) (Kyi2.merge ts (cs.take j)) = true,
        ⟨_, 0, rfl, Nat.zero_le _, rfl, Same.refl H1, c0⟩, ?_⟩
      rintro m σ H' ⟨j, rfl, hj, rfl, s2, cj⟩
      have s3 : Same H H' := sH.trans s2
      refine ⟨_, rfl, _, rfl, d, _, rfl, .inl (s3.seq hD), _, _, rfl, rfl, _, rfl, ?_⟩
      rw [nV_len]
      refine ite2 (fun c1 => ?_) (fun c1 => ?_)
      · have hj2 : j < cs.length := by
          have q := of_decide_eq_true c1
          omega
        -- the slice, at x; merged, at q
        refine ⟨_, rfl, p, CU, dx, _, _, rfl, s2 _ _ hp, T.clU, T.nGrants, uF_grants _ _ _, _, rfl, _, rfl, _, rfl, _, _, rfl, rfl, _, rfl, d, _, rfl, s3.seq hD, fun x hx => ?_⟩
        rw [show ((j : Int) + 1) = ((j + 1 : Nat) : Int) by omega, cut_to]
        have s4 : Same H' (upd H' x (.lst (nV (cs.take (j + 1))))) := fun b o e => by
          rw [upd_ne (ne_of_none e hx)]
          exact e
        refine ⟨b, x, ts, cs.take (j + 1), rfl, (s3.trans s4).seq hB, SqL.of upd_same, by have := ht.len; omega, by rw [List.length_take]; have := hc.len; omega, fun H3 q s5 hq => ?_⟩
        rw [← merge_take ht hc an] at hq
        have s6 : Same H' H3 := s4.trans s5
        -- Use(..)
        intro y dy ny ndy ney
        refine ⟨H3, y, dy, lg, q, Kyi2.grants ls, Kyi2.merge ts (cs.take (j + 1)), rfl, upd_same, fun b o e' => ?_, ny, (hG.same s0).same (s2.trans s6), Nat.le_trans (gOk_short ge) (by decide), SqL.of hq, fun H4 U4 => ⟨rfl, ?_⟩⟩
        · rw [upd_ne (ne_of_none e' ny), upd_ne (ne_of_none e' ndy)]
          exact e'
        obtain ⟨t0, _, _, dz, lz, llz, _, _, hz, _⟩ := id U4
        refine ⟨y, dz, _, rfl, hz, uF_no _ _ _ (by decide +kernel) (by decide +kernel) (by decide +kernel), H3, y, _, _, _, rfl, U4, _, rfl, ?_⟩
        rw [← covered_isNone]
        refine ite2 (fun c2 => ?_) (fun c2 => ?_)
        · refine ⟨fun σ' H5 => σ' = [some (.ref a), some (.ref b), some (.ref d), some (.ref p), some (.int ((j + 1 : Nat) : Int))] ∧ Same H1 H5,
            fun σ' H5 ⟨q1, q2⟩ => ⟨cs.length - (j + 1), by omega, j + 1, rfl, hj2, q1, q2, c2⟩, ?_⟩
          exact ⟨_, rfl, _, _, rfl, rfl, rfl, (s2.trans s6).trans t0⟩
        · refine ⟨_, rfl, (by show 1 ≤ sizeLine; decide), fun z hz => k _ z ?_⟩
          rw [upd_same, more_eq hj cj (.inr (Bool.eq_false_iff.mpr c2))]
          rfl
      · have q : ¬ _ := fun z => c1 (decide_eq_true z)
        refine iteF ⟨_, rfl, (by show 1 ≤ sizeLine; decide), fun z hz => k _ z ?_⟩
        rw [upd_same, more_eq hj cj (.inl (by omega))]
        rfl
end
theorem all_nonneg {l : List Int} {m : Int} (h : l.all (Codec.inInt 0 m) = true) : ∀ x ∈ l, 0 ≤ x := fun x hx => by
  have q := List.all_eq_true.mp h x hx
  have q2 : (decide ((0 : Int) ≤ x) && decide (x ≤ m)) = true := q
  rw [Bool.and_eq_true] at q2
  exact of_decide_eq_true q2.1
theorem request {K : PySem.W.Frag} {H : Hp} {xs : List V} {a : Codec.denoteAll PySem.Challenge.rw_lapsegrants_s04_more.args} (hwi : Codec.withinAll PySem.Challenge.rw_lapsegrants_s04_more.args a = true) (hx : DwAll K H xs (Codec.encAll PySem.Challenge.rw_lapsegrants_s04_more.args a)) :
    spMain K xs H (fun v H' => Dw K H' v (PySem.Challenge.rw_lapsegrants_s04_more.ret.enc (Codec.app PySem.Challenge.rw_lapsegrants_s04_more.args PySem.Challenge.rw_lapsegrants_s04_more.f a))) fun _ _ _ => False := by
  obtain ⟨l, t, c, u⟩ := a
  cases hx with
  | cons h1 h =>
    cases h with
    | cons h2 h =>
      cases h with
      | cons h3 h =>
        cases h
        cases h1 with
        | lst hs ha =>
          cases h2 with
          | lst hs2 ha2 =>
            cases h3 with
            | lst hs3 ha3 =>
              have e := L2.ints_dw l _ ha
              subst e
              have e2 := L2.ints_dw t _ ha2
              subst e2
              have e3 := L2.ints_dw c _ ha3
              subst e3
              have q : ((Codec.inLen 0 36 l && l.all (Codec.inInt 0 4294967295)) && ((Codec.inLen 0 64 t && t.all (Codec.inInt 0 4294967295)) && ((Codec.inLen 0 64 c && c.all (Codec.inInt 0 4294967295)) && true))) = true := hwi
              rw [Bool.and_eq_true, Bool.and_eq_true, Bool.and_eq_true, Bool.and_eq_true, Bool.and_eq_true, Bool.and_eq_true] at q
              obtain ⟨ls, rfl⟩ := il_of (all_nonneg q.1.2)
              obtain ⟨ts, rfl⟩ := il_of (all_nonneg q.2.1.2)
              obtain ⟨cs, rfl⟩ := il_of (all_nonneg q.2.2.1.2)
              rw [nV_il] at hs hs2 hs3
              exact ⟨_, _, _, ls, ts, cs, rfl, hs, hs2, hs3, fun H' p hp => .lst (L2.SqL.of hp) (L2.dw_ints _)⟩
end Lg
/-! ### 15. What the top has written; the row -/
namespace Lg
open PySem PySem.Spec PyProof.Rows L2
open PySem.W (Codec)
theorem all_mk {P : Program} {w : World} {K : PySem.W.Frag} {h : Heap} {mg : Str → Option Value} {fa CG CU f_gi f_gr f_ui f_ub f_ug f_us f_ut f_uc f_dg f_dh f_du f_dc f_dr f_dm : Addr} (X : K.In h) (G : h.Ns mainGlobals mg) (hfa : mg "more" = some (.ref fa))
    {od_gi an_gi : Option Addr} {sl_gi : Array (Option Value)} {oc_gi kV_gi dc_gi pm_gi cd_gi ct_gi : Value}
    {od_gr an_gr : Option Addr} {sl_gr : Array (Option Value)} {oc_gr kV_gr dc_gr pm_gr cd_gr ct_gr : Value}
    {od_ui an_ui : Option Addr} {sl_ui : Array (Option Value)} {oc_ui kV_ui dc_ui pm_ui cd_ui ct_ui : Value}
    {od_ub an_ub : Option Addr} {sl_ub : Array (Option Value)} {oc_ub kV_ub dc_ub pm_ub cd_ub ct_ub : Value}
    {od_ug an_ug : Option Addr} {sl_ug : Array (Option Value)} {oc_ug kV_ug dc_ug pm_ug cd_ug ct_ug : Value}
    {od_us an_us : Option Addr} {sl_us : Array (Option Value)} {oc_us kV_us dc_us pm_us cd_us ct_us : Value}
    {od_ut an_ut : Option Addr} {sl_ut : Array (Option Value)} {oc_ut kV_ut dc_ut pm_ut cd_ut ct_ut : Value}
    {od_uc an_uc : Option Addr} {sl_uc : Array (Option Value)} {oc_uc kV_uc dc_uc pm_uc cd_uc ct_uc : Value}
    {od_dg an_dg : Option Addr} {sl_dg : Array (Option Value)} {oc_dg kV_dg dc_dg pm_dg cd_dg ct_dg : Value}
    {od_dh an_dh : Option Addr} {sl_dh : Array (Option Value)} {oc_dh kV_dh dc_dh pm_dh cd_dh ct_dh : Value}
    {od_du an_du : Option Addr} {sl_du : Array (Option Value)} {oc_du kV_du dc_du pm_du cd_du ct_du : Value}
    {od_dc an_dc : Option Addr} {sl_dc : Array (Option Value)} {oc_dc kV_dc dc_dc pm_dc cd_dc ct_dc : Value}
    {od_dr an_dr : Option Addr} {sl_dr : Array (Option Value)} {oc_dr kV_dr dc_dr pm_dr cd_dr ct_dr : Value}
    {od_dm an_dm : Option Addr} {sl_dm : Array (Option Value)} {oc_dm kV_dm dc_dm pm_dm cd_dm ct_dm : Value}
    {t_half t_grant t_grants t_taken t_notSo t_notCov : Tok}
    (aG : PySem.W.nsIn K mainGlobals "Grant" = some (some (.ref CG)))
    (aU : PySem.W.nsIn K mainGlobals "Use" = some (some (.ref CU)))
    (a_gi : PySem.W.findIn K (.ref CG) "__init__" = some (some (.ref f_gi)))
    (i_gi : PySem.W.isFn K (.ref f_gi) = true)
    (l_gi : K.lookup f_gi = some ⟨oc_gi, od_gi, .func (PySem.W.fnOf "__init__" "Grant.__init__" (defArgs sGInit) (defBody sGInit) (defScope sGInit) .none kV_gi dc_gi pm_gi an_gi cd_gi ct_gi), sl_gi⟩)
    (c_gi : PySem.W.codeIn K cd_gi "Grant.__init__" = true)
    (k_gi : PySem.W.keepIn K (.ref f_gi) = true)
    (a_gr : PySem.W.findIn K (.ref CG) "is_right" = some (some (.ref f_gr)))
    (i_gr : PySem.W.isFn K (.ref f_gr) = true)
    (l_gr : K.lookup f_gr = some ⟨oc_gr, od_gr, .func (PySem.W.fnOf "is_right" "Grant.is_right" (defArgs sRight) (defBody sRight) (defScope sRight) .none kV_gr dc_gr pm_gr an_gr cd_gr ct_gr), sl_gr⟩)
    (c_gr : PySem.W.codeIn K cd_gr "Grant.is_right" = true)
    (k_gr : PySem.W.keepIn K (.ref f_gr) = true)
    (a_ui : PySem.W.findIn K (.ref CU) "__init__" = some (some (.ref f_ui)))
    (i_ui : PySem.W.isFn K (.ref f_ui) = true)
    (l_ui : K.lookup f_ui = some ⟨oc_ui, od_ui, .func (PySem.W.fnOf "__init__" "Use.__init__" (defArgs sUInit) (defBody sUInit) (defScope sUInit) .none kV_ui dc_ui pm_ui an_ui cd_ui ct_ui), sl_ui⟩)
    (c_ui : PySem.W.codeIn K cd_ui "Use.__init__" = true)
    (k_ui : PySem.W.keepIn K (.ref f_ui) = true)
    (a_ub : PySem.W.findIn K (.ref CU) "is_before" = some (some (.ref f_ub)))
    (i_ub : PySem.W.isFn K (.ref f_ub) = true)
    (l_ub : K.lookup f_ub = some ⟨oc_ub, od_ub, .func (PySem.W.fnOf "is_before" "Use.is_before" (defArgs sBefore) (defBody sBefore) (defScope sBefore) .none kV_ub dc_ub pm_ub an_ub cd_ub ct_ub), sl_ub⟩)
    (c_ub : PySem.W.codeIn K cd_ub "Use.is_before" = true)
    (k_ub : PySem.W.keepIn K (.ref f_ub) = true)
    (a_ug : PySem.W.findIn K (.ref CU) "may_give" = some (some (.ref f_ug)))
    (i_ug : PySem.W.isFn K (.ref f_ug) = true)
    (l_ug : K.lookup f_ug = some ⟨oc_ug, od_ug, .func (PySem.W.fnOf "may_give" "Use.may_give" (defArgs sGive) (defBody sGive) (defScope sGive) .none kV_ug dc_ug pm_ug an_ug cd_ug ct_ug), sl_ug⟩)
    (c_ug : PySem.W.codeIn K cd_ug "Use.may_give" = true)
    (k_ug : PySem.W.keepIn K (.ref f_ug) = true)
    (a_us : PySem.W.findIn K (.ref CU) "source" = some (some (.ref f_us)))
    (i_us : PySem.W.isFn K (.ref f_us) = true)
    (l_us : K.lookup f_us = some ⟨oc_us, od_us, .func (PySem.W.fnOf "source" "Use.source" (defArgs sSource) (defBody sSource) (defScope sSource) .none kV_us dc_us pm_us an_us cd_us ct_us), sl_us⟩)
    (c_us : PySem.W.codeIn K cd_us "Use.source" = true)
    (k_us : PySem.W.keepIn K (.ref f_us) = true)
    (a_ut : PySem.W.findIn K (.ref CU) "take" = some (some (.ref f_ut)))
    (i_ut : PySem.W.isFn K (.ref f_ut) = true)
    (l_ut : K.lookup f_ut = some ⟨oc_ut, od_ut, .func (PySem.W.fnOf "take" "Use.take" (defArgs sTake) (defBody sTake) (defScope sTake) .none kV_ut dc_ut pm_ut an_ut cd_ut ct_ut), sl_ut⟩)
    (c_ut : PySem.W.codeIn K cd_ut "Use.take" = true)
    (k_ut : PySem.W.keepIn K (.ref f_ut) = true)
    (a_uc : PySem.W.findIn K (.ref CU) "is_covered" = some (some (.ref f_uc)))
    (i_uc : PySem.W.isFn K (.ref f_uc) = true)
    (l_uc : K.lookup f_uc = some ⟨oc_uc, od_uc, .func (PySem.W.fnOf "is_covered" "Use.is_covered" (defArgs sCov) (defBody sCov) (defScope sCov) .none kV_uc dc_uc pm_uc an_uc cd_uc ct_uc), sl_uc⟩)
    (c_uc : PySem.W.codeIn K cd_uc "Use.is_covered" = true)
    (k_uc : PySem.W.keepIn K (.ref f_uc) = true)
    (a_dg : PySem.W.nsIn K mainGlobals "grants_of" = some (some (.ref f_dg)))
    (l_dg : K.lookup f_dg = some ⟨oc_dg, od_dg, .func (PySem.W.fnOf "grants_of" "grants_of" (defArgs sGrants) (defBody sGrants) (defScope sGrants) .none kV_dg dc_dg pm_dg an_dg cd_dg ct_dg), sl_dg⟩)
    (c_dg : PySem.W.codeIn K cd_dg "grants_of" = true)
    (k_dg : PySem.W.keepIn K (.ref f_dg) = true)
    (a_dh : PySem.W.nsIn K mainGlobals "are_halves" = some (some (.ref f_dh)))
    (l_dh : K.lookup f_dh = some ⟨oc_dh, od_dh, .func (PySem.W.fnOf "are_halves" "are_halves" (defArgs sHalves) (defBody sHalves) (defScope sHalves) .none kV_dh dc_dh pm_dh an_dh cd_dh ct_dh), sl_dh⟩)
    (c_dh : PySem.W.codeIn K cd_dh "are_halves" = true)
    (k_dh : PySem.W.keepIn K (.ref f_dh) = true)
    (a_du : PySem.W.nsIn K mainGlobals "used" = some (some (.ref f_du)))
    (l_du : K.lookup f_du = some ⟨oc_du, od_du, .func (PySem.W.fnOf "used" "used" (defArgs sUsed) (defBody sUsed) (defScope sUsed) .none kV_du dc_du pm_du an_du cd_du ct_du), sl_du⟩)
    (c_du : PySem.W.codeIn K cd_du "used" = true)
    (k_du : PySem.W.keepIn K (.ref f_du) = true)
    (a_dc : PySem.W.nsIn K mainGlobals "have_one_in_common" = some (some (.ref f_dc)))
    (l_dc : K.lookup f_dc = some ⟨oc_dc, od_dc, .func (PySem.W.fnOf "have_one_in_common" "have_one_in_common" (defArgs sCommon) (defBody sCommon) (defScope sCommon) .none kV_dc dc_dc pm_dc an_dc cd_dc ct_dc), sl_dc⟩)
    (c_dc : PySem.W.codeIn K cd_dc "have_one_in_common" = true)
    (k_dc : PySem.W.keepIn K (.ref f_dc) = true)
    (a_dr : PySem.W.nsIn K mainGlobals "merged" = some (some (.ref f_dr)))
    (l_dr : K.lookup f_dr = some ⟨oc_dr, od_dr, .func (PySem.W.fnOf "merged" "merged" (defArgs sMerged) (defBody sMerged) (defScope sMerged) .none kV_dr dc_dr pm_dr an_dr cd_dr ct_dr), sl_dr⟩)
    (c_dr : PySem.W.codeIn K cd_dr "merged" = true)
    (k_dr : PySem.W.keepIn K (.ref f_dr) = true)
    (a_dm : PySem.W.nsIn K mainGlobals "more" = some (some (.ref f_dm)))
    (l_dm : K.lookup f_dm = some ⟨oc_dm, od_dm, .func (PySem.W.fnOf "more" "more" (defArgs sMain) (defBody sMain) (defScope sMain) .none kV_dm dc_dm pm_dm an_dm cd_dm ct_dm), sl_dm⟩)
    (c_dm : PySem.W.codeIn K cd_dm "more" = true)
    (k_dm : PySem.W.keepIn K (.ref f_dm) = true)
    (pgG : PySem.W.plainGet K CG Str.empty = true)
    (hdG : PySem.W.hasDictIn K CG = true)
    (poG : PySem.W.plainOver K CG = true)
    (saG : PySem.W.findIn K (.ref CG) "__setattr__" = some (some (.builtin "object.__setattr__")))
    (mkG : PySem.W.makesIn K CG = true)
    (kcG : PySem.W.keepIn K (.ref CG) = true)
    (pgU : PySem.W.plainGet K CU Str.empty = true)
    (hdU : PySem.W.hasDictIn K CU = true)
    (poU : PySem.W.plainOver K CU = true)
    (saU : PySem.W.findIn K (.ref CU) "__setattr__" = some (some (.builtin "object.__setattr__")))
    (mkU : PySem.W.makesIn K CU = true)
    (kcU : PySem.W.keepIn K (.ref CU) = true)
    (nFirst : PySem.W.findIn K (.ref CG) "first" = some none)
    (nLast : PySem.W.findIn K (.ref CG) "last" = some none)
    (nMany : PySem.W.findIn K (.ref CG) "many" = some none)
    (nGrants : PySem.W.findIn K (.ref CU) "grants" = some none)
    (nLeft : PySem.W.findIn K (.ref CU) "left" = some none)
    (nUnc : PySem.W.findIn K (.ref CU) "uncovered" = some none)
    (v_half : PySem.W.nsIn K mainGlobals "MOST_HALF" = some (some (.int 799 t_half)))
    (v_grant : PySem.W.nsIn K mainGlobals "MOST_GRANT" = some (some (.int 100 t_grant)))
    (v_grants : PySem.W.nsIn K mainGlobals "MOST_GRANTS" = some (some (.int 10 t_grants)))
    (v_taken : PySem.W.nsIn K mainGlobals "MOST_TAKEN" = some (some (.int 60 t_taken)))
    (v_notSo : PySem.W.nsIn K mainGlobals "NOT_SO" = some (some (.int (-22) t_notSo)))
    (v_notCov : PySem.W.nsIn K mainGlobals "NOT_COVERED" = some (some (.int (-33) t_notCov)))
    (z_list : PySem.W.nsIn K mainGlobals "list" = some none)
    (z_len : PySem.W.nsIn K mainGlobals "len" = some none)
    (z_range : PySem.W.nsIn K mainGlobals "range" = some none) :
    ∃ fd : FuncData, (∀ (s : Shared) (us : List Value), us.length = (["l", "t", "c"] : List Str).length → BindsTo s fd ⟨us, []⟩ ((["l", "t", "c"] : List Str).zip us)) ∧ ∀ base : Heap, K.In base → base.Ns mainGlobals mg → FnOk P w K mg base CX0 7 fa fd ["l", "t", "c"] (spMain K) := by
  have e := hfa.symm.trans (PySem.W.mg_of X G a_dm)
  cases e
  have T : Txt K mg CG CU := ⟨⟨pgG, hdG, poG, saG⟩, ⟨pgU, hdU, poU, saU⟩, nFirst, nLast, nMany, nGrants, nLeft, nUnc, PySem.W.mg_of X G aG, PySem.W.mg_of X G aU, ⟨_, PySem.W.mg_of X G v_half⟩, ⟨_, PySem.W.mg_of X G v_grant⟩, ⟨_, PySem.W.mg_of X G v_grants⟩, ⟨_, PySem.W.mg_of X G v_taken⟩, ⟨_, PySem.W.mg_of X G v_notSo⟩, ⟨_, PySem.W.mg_of X G v_notCov⟩, PySem.W.mg_none_of X G z_list, PySem.W.mg_none_of X G z_len, PySem.W.mg_none_of X G z_range⟩
  have F_gi := fun_mk (st := sGInit) l_gi c_gi k_gi
  have F_gr := fun_mk (st := sRight) l_gr c_gr k_gr
  have F_ui := fun_mk (st := sUInit) l_ui c_ui k_ui
  have F_ub := fun_mk (st := sBefore) l_ub c_ub k_ub
  have F_ug := fun_mk (st := sGive) l_ug c_ug k_ug
  have F_us := fun_mk (st := sSource) l_us c_us k_us
  have F_ut := fun_mk (st := sTake) l_ut c_ut k_ut
  have F_uc := fun_mk (st := sCov) l_uc c_uc k_uc
  have F_dg := fun_mk (st := sGrants) l_dg c_dg k_dg
  have F_dh := fun_mk (st := sHalves) l_dh c_dh k_dh
  have F_du := fun_mk (st := sUsed) l_du c_du k_du
  have F_dc := fun_mk (st := sCommon) l_dc c_dc k_dc
  have F_dr := fun_mk (st := sMerged) l_dr c_dr k_dr
  have F_dm := fun_mk (st := sMain) l_dm c_dm k_dm
  have b_gi := F_gi.binds (ps := ["self", "first", "last", "many"]) fun _ _ _ _ _ _ us hl => match us, hl with | [_, _, _, _], _ => rfl
  have b_gr := F_gr.binds (ps := ["self"]) fun _ _ _ _ _ _ us hl => match us, hl with | [_], _ => rfl
  have b_ui := F_ui.binds (ps := ["self", "grants", "halves"]) fun _ _ _ _ _ _ us hl => match us, hl with | [_, _, _], _ => rfl
  have b_ub := F_ub.binds (ps := ["self", "place", "other"]) fun _ _ _ _ _ _ us hl => match us, hl with | [_, _, _], _ => rfl
  have b_ug := F_ug.binds (ps := ["self", "place", "half"]) fun _ _ _ _ _ _ us hl => match us, hl with | [_, _, _], _ => rfl
  have b_us := F_us.binds (ps := ["self", "half"]) fun _ _ _ _ _ _ us hl => match us, hl with | [_, _], _ => rfl
  have b_ut := F_ut.binds (ps := ["self", "half"]) fun _ _ _ _ _ _ us hl => match us, hl with | [_, _], _ => rfl
  have b_uc := F_uc.binds (ps := ["self"]) fun _ _ _ _ _ _ us hl => match us, hl with | [_], _ => rfl
  have b_dg := F_dg.binds (ps := ["row"]) fun _ _ _ _ _ _ us hl => match us, hl with | [_], _ => rfl
  have b_dh := F_dh.binds (ps := ["row"]) fun _ _ _ _ _ _ us hl => match us, hl with | [_], _ => rfl
  have b_du := F_du.binds (ps := ["l", "t"]) fun _ _ _ _ _ _ us hl => match us, hl with | [_, _], _ => rfl
  have b_dc := F_dc.binds (ps := ["row", "other"]) fun _ _ _ _ _ _ us hl => match us, hl with | [_, _], _ => rfl
  have b_dr := F_dr.binds (ps := ["row", "other"]) fun _ _ _ _ _ _ us hl => match us, hl with | [_, _], _ => rfl
  have U : UseFns K CU f_ui f_ut f_us f_ug f_ub _ _ _ _ _ := ⟨⟨mkU, a_ui, i_ui, kcU⟩, F_ui, b_ui, F_ut, b_ut, ⟨a_ut, i_ut, k_ut⟩, F_us, b_us, ⟨a_us, i_us, k_us⟩, F_ug, b_ug, ⟨a_ug, i_ug, k_ug⟩, F_ub, b_ub, ⟨a_ub, i_ub, k_ub⟩⟩
  have R : GrantFns K CG f_gi f_gr _ _ := ⟨⟨mkG, a_gi, i_gi, kcG⟩, F_gi, b_gi, F_gr, b_gr, ⟨a_gr, i_gr, k_gr⟩⟩
  have D_dg : DefAt K mg "grants_of" sGrants ["row"] f_dg _ := ⟨F_dg, b_dg, PySem.W.mg_of X G a_dg⟩
  have D_dh : DefAt K mg "are_halves" sHalves ["row"] f_dh _ := ⟨F_dh, b_dh, PySem.W.mg_of X G a_dh⟩
  have D_du : DefAt K mg "used" sUsed ["l", "t"] f_du _ := ⟨F_du, b_du, PySem.W.mg_of X G a_du⟩
  have D_dc : DefAt K mg "have_one_in_common" sCommon ["row", "other"] f_dc _ := ⟨F_dc, b_dc, PySem.W.mg_of X G a_dc⟩
  have D_dr : DefAt K mg "merged" sMerged ["row", "other"] f_dr _ := ⟨F_dr, b_dr, PySem.W.mg_of X G a_dr⟩
  exact ⟨PySem.W.fnOf "more" "more" (defArgs sMain) (defBody sMain) (defScope sMain) .none kV_dm dc_dm pm_dm an_dm cd_dm ct_dm, fun s us hu => match us, hu with | [_, _, _], _ => .of_eq rfl, fun base _ _ => ok_main F_dm T U R D_dg D_dh D_du F_uc b_uc ⟨a_uc, i_uc, k_uc⟩ D_dc D_dr⟩
end Lg
open PySem PySem.W PyProof.Rows
set_option maxRecDepth 100000 in
set_option maxHeartbeats 0 in
theorem PySem.Challenge.cw_lapsegrants_s04_more_holds : PySem.Challenge.rw_lapsegrants_s04_more.Holds := by
  w_on; k_headS; (case hw => exact ⟨[.list [], .list [], .list []], by decide +kernel, by decide +kernel⟩)
  k_fillS
  refine L2.walk_specK (r := PySem.Challenge.rw_lapsegrants_s04_more) (k := 7) (CX := L2.CX0) (ps := ["l", "t", "c"]) (sp := Lg.spMain) (by decide +kernel) rfl rfl ⟨rfl, by decide, by decide⟩ (fun w h Y => PySem.W.kIn_of Y) ?F ?S (fun _ _ _ _ z => z)
  case F =>
    intro w mg fa h Y KX G hmg
    refine' Lg.all_mk KX G hmg ?aG ?aU ?a_gi ?i_gi ?l_gi ?c_gi ?k_gi ?a_gr ?i_gr ?l_gr ?c_gr ?k_gr ?a_ui ?i_ui ?l_ui ?c_ui ?k_ui ?a_ub ?i_ub ?l_ub ?c_ub ?k_ub ?a_ug ?i_ug ?l_ug ?c_ug ?k_ug ?a_us ?i_us ?l_us ?c_us ?k_us ?a_ut ?i_ut ?l_ut ?c_ut ?k_ut ?a_uc ?i_uc ?l_uc ?c_uc ?k_uc ?a_dg ?l_dg ?c_dg ?k_dg ?a_dh ?l_dh ?c_dh ?k_dh ?a_du ?l_du ?c_du ?k_du ?a_dc ?l_dc ?c_dc ?k_dc ?a_dr ?l_dr ?c_dr ?k_dr ?a_dm ?l_dm ?c_dm ?k_dm ?pgG ?hdG ?poG ?saG ?mkG ?kcG ?pgU ?hdU ?poU ?saU ?mkU ?kcU ?nFirst ?nLast ?nMany ?nGrants ?nLeft ?nUnc ?v_half ?v_grant ?v_grants ?v_taken ?v_notSo ?v_notCov ?z_list ?z_len ?z_range
    (case aG => k_is); (case aU => k_is); (case a_gi => k_is); (case i_gi => k_is); (case l_gi => k_is); (case c_gi => k_is)
    (case k_gi => k_is); (case a_gr => k_is); (case i_gr => k_is); (case l_gr => k_is); (case c_gr => k_is); (case k_gr => k_is)
    (case a_ui => k_is); (case i_ui => k_is); (case l_ui => k_is); (case c_ui => k_is); (case k_ui => k_is); (case a_ub => k_is)
    (case i_ub => k_is); (case l_ub => k_is); (case c_ub => k_is); (case k_ub => k_is); (case a_ug => k_is); (case i_ug => k_is)
    (case l_ug => k_is); (case c_ug => k_is); (case k_ug => k_is); (case a_us => k_is); (case i_us => k_is); (case l_us => k_is)
    (case c_us => k_is); (case k_us => k_is); (case a_ut => k_is); (case i_ut => k_is); (case l_ut => k_is); (case c_ut => k_is)
    (case k_ut => k_is); (case a_uc => k_is); (case i_uc => k_is); (case l_uc => k_is); (case c_uc => k_is); (case k_uc => k_is)
    (case a_dg => k_is); (case l_dg => k_is); (case c_dg => k_is); (case k_dg => k_is); (case a_dh => k_is); (case l_dh => k_is)
    (case c_dh => k_is); (case k_dh => k_is); (case a_du => k_is); (case l_du => k_is); (case c_du => k_is); (case k_du => k_is)
    (case a_dc => k_is); (case l_dc => k_is); (case c_dc => k_is); (case k_dc => k_is); (case a_dr => k_is); (case l_dr => k_is)
    (case c_dr => k_is); (case k_dr => k_is); (case a_dm => k_is); (case l_dm => k_is); (case c_dm => k_is); (case k_dm => k_is)
    (case pgG => k_is); (case hdG => k_is); (case poG => k_is); (case saG => k_is); (case mkG => k_is); (case kcG => k_is)
    (case pgU => k_is); (case hdU => k_is); (case poU => k_is); (case saU => k_is); (case mkU => k_is); (case kcU => k_is)
    (case nFirst => k_is); (case nLast => k_is); (case nMany => k_is); (case nGrants => k_is); (case nLeft => k_is); (case nUnc => k_is)
    (case v_half => k_is); (case v_grant => k_is); (case v_grants => k_is); (case v_taken => k_is); (case v_notSo => k_is); (case v_notCov => k_is)
    (case z_list => k_is); (case z_len => k_is); (case z_range => k_is)
  case S =>
    intro K H xs a hO hwi hask hx
    exact Lg.request hwi hx
#print axioms PySem.Challenge.cw_lapsegrants_s04_more_holds
