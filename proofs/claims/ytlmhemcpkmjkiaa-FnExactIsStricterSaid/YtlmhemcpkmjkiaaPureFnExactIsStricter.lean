/- FnExactIsStricter: the program's IsStricter answers what the reference's answers, for all two lists of allowed numbers. Conditions: none. -/
import Derived.Test.YtlmhemcpkmjkiaaLib
import Derived.Test.YtlmhemcpkmjkiaaXFnExactIsStricterx4
namespace Go.Proofs.Ytlmhemcpkmjkiaa.Pure
open Go.RowKit Go.Proofs.Ytlmhemcpkmjkiaa.XFnExactIsStricter Go.Proofs.YtlmhemcpkmjkiaaW.PrintWords
set_option linter.unusedVariables false
set_option linter.unusedSimpArgs false
open Go.Proofs.YtlmhemcpkmjkiaaLib
theorem szInt (l : List Int) (a : Int) (h0 : 0 ≤ a) (h1 : a ≤ 1048576) (hl : l.length ≤ maxLen) : laws_szIntS.f l a = some (if (l.length : Int) ≤ a then a - (l.length : Int) else -1) := by
  unfold maxLen at hl
  unfold laws_szIntS.f
  rw [wrap_in (by omega) (by omega)]
  by_cases h : (l.length : Int) ≤ a
  · rw [if_pos h, if_neg (by omega)]
  · rw [if_neg h, if_pos (by omega)]
theorem toIntS (l : List Int) (hl : l.length ≤ 1099511627776) (k : Nat) (hk : l.length < k) : laws_toIntS.f k l = some l := by
  unfold laws_toIntS.f
  rw [if_pos (by omega), if_pos (by omega), Int.toNat_natCast]
  refine (run (fun k s i => laws_toIntS.l0 k l s i) (put (fun i => l.getD i 0) (List.replicate l.length 0)) l.length 0 l ?_ ?_ k (by omega))
  · intro k i _ hi
    have hlen : (put (fun i => l.getD i 0) (List.replicate l.length 0) i).length = l.length := by rw [put_length _ _ _ (by simp; omega), List.length_replicate]
    simp only [laws_toIntS.l0]
    rw [if_pos (by omega), if_pos (by omega), if_pos (by omega), wrap_succ hi hl, rd_nat, Int.toNat_natCast, put_set (fun i => l.getD i 0) _ i (by simp; omega)]
  · intro k _
    simp only [laws_toIntS.l0]
    rw [if_neg (by omega), put_all _ _ (by simp), map_range_getD']
theorem eqIntS_self (l : List Int) (hl : l.length ≤ 1099511627776) (k : Nat) (hk : l.length < k) : laws_eqIntS.f k l l = some true := by
  unfold laws_eqIntS.f
  rw [if_pos rfl]
  refine run (fun k (_ : Unit) i => laws_eqIntS.l0 k l l i) (fun _ => ()) l.length 0 true ?_ ?_ k (by omega)
  · intro k i _ hi
    simp only [laws_eqIntS.l0]
    rw [if_pos (by omega), if_pos (by omega), if_pos (by omega), if_pos trivial, wrap_succ hi hl]
  · intro k _
    simp only [laws_eqIntS.l0]
    rw [if_neg (by omega)]
theorem toAllowed (a : Int) (p q s : List Int) (h1 : p.length ≤ 1048576) (h2 : q.length ≤ 1048576) (h3 : s.length ≤ 1048576) (k : Nat) (hk : 1048576 < k) : laws_toAllowed.f k a p q s = some (a, p, q, s) := by
  simp only [laws_toAllowed.f, toIntS p (by omega) k (by omega), toIntS q (by omega) k (by omega), toIntS s (by omega) k (by omega), Option.bind_some]
theorem eqAllowed_self (a : Int) (p q s : List Int) (h1 : p.length ≤ 1048576) (h2 : q.length ≤ 1048576) (h3 : s.length ≤ 1048576) (k : Nat) (hk : 1048576 < k) : laws_eqAllowed.f k a p q s a p q s = some true := by
  simp only [laws_eqAllowed.f, eqIntS_self p (by omega) k (by omega), eqIntS_self q (by omega) k (by omega), eqIntS_self s (by omega) k (by omega), Option.bind_some, if_true]
theorem szAllowed (a : Int) (p q s : List Int) (n : Int) (h0 : 0 ≤ n) (hn : n ≤ 1048576) (h1 : p.length ≤ maxLen) (h2 : q.length ≤ maxLen) (h3 : s.length ≤ maxLen) : ∃ r, laws_szAllowed.f a p q s n = some r ∧ (r < 0 ∨ (0 ≤ r ∧ r ≤ 1048576 ∧ p.length ≤ 1048576 ∧ q.length ≤ 1048576 ∧ s.length ≤ 1048576)) := by
  unfold laws_szAllowed.f
  rw [szInt p n h0 hn h1, Option.bind_some]
  by_cases c1 : (p.length : Int) ≤ n
  · rw [if_pos c1, if_neg (by omega), szInt q _ (by omega) (by omega) h2, Option.bind_some]
    by_cases c2 : (q.length : Int) ≤ n - (p.length : Int)
    · rw [if_pos c2, if_neg (by omega), szInt s _ (by omega) (by omega) h3, Option.bind_some]
      by_cases c3 : (s.length : Int) ≤ n - (p.length : Int) - (q.length : Int)
      · rw [if_pos c3, if_neg (by omega)]
        exact ⟨_, rfl, Or.inr ⟨by omega, by omega, by omega, by omega, by omega⟩⟩
      · rw [if_neg c3, if_pos (by omega)]
        exact ⟨_, rfl, Or.inl (by omega)⟩
    · rw [if_neg c2, if_pos (by omega)]
      exact ⟨_, rfl, Or.inl (by omega)⟩
  · rw [if_neg c1, if_pos (by omega)]
    exact ⟨_, rfl, Or.inl (by omega)⟩
def has (l : List Int) (n : Int) : Bool := (List.range l.length).any fun i => l.getD i 0 == n
theorem index2 (l : List Int) (n : Int) (hl : l.length ≤ 1099511627776) (k : Nat) (hk : l.length < k) : slices_Index_int_int.f k l n = some (((List.range l.length).find? fun i => l.getD i 0 == n).elim (-1) fun i => (i : Int)) := by
  unfold slices_Index_int_int.f
  refine findLoop (fun k i => slices_Index_int_int.l0 k l n (l.length : Int) i) l.length 0 (fun i => l.getD i 0 == n) (fun i => (i : Int)) (-1) ?_ ?_ ?_ k (by omega)
  · intro k i _ hi hp
    have hp' : ¬ l.getD i 0 = n := by simpa using hp
    simp only [slices_Index_int_int.l0, rd_nat]
    rw [if_pos (by omega), if_pos (by omega), if_pos (by omega), if_neg (fun h => hp' h.symm), wrap_succ hi hl]
  · intro k i _ hi hp
    have hp' : l.getD i 0 = n := by simpa using hp
    simp only [slices_Index_int_int.l0, rd_nat]
    rw [if_pos (by omega), if_pos (by omega), if_pos (by omega), if_pos hp'.symm]
  · intro k _
    simp only [slices_Index_int_int.l0]
    rw [if_neg (by omega)]
theorem has2 (l : List Int) (n : Int) (hl : l.length ≤ 1099511627776) (k : Nat) (hk : l.length < k) : slices_Contains_int_int.f k l n = some (has l n) := by
  unfold slices_Contains_int_int.f has
  rw [index2 l n hl k hk, Option.bind_some]
  congr 1
  cases hf : (List.range l.length).find? fun i => l.getD i 0 == n with
  | none =>
    rw [List.find?_eq_none] at hf
    show decide ((-1 : Int) ≥ 0) = _
    rw [eq_comm, show decide ((-1 : Int) ≥ 0) = false from rfl, List.any_eq_false]
    exact hf
  | some i =>
    rw [List.find?_range_eq_some] at hf
    show decide ((i : Int) ≥ 0) = _
    rw [eq_comm, decide_eq_true (show (i : Int) ≥ 0 by omega), List.any_eq_true]
    exact ⟨i, hf.2.1, hf.1⟩
theorem has1 (l : List Int) (n : Int) (hl : l.length ≤ 1099511627776) (k : Nat) (hk : l.length < k) : spec_l13Has.f k l n = some (has l n) := by
  unfold spec_l13Has.f has
  rw [findLoop (fun k i => spec_l13Has.l0 k l n i) l.length 0 (fun i => l.getD i 0 == n) (fun _ => true) false ?_ ?_ ?_ k (by omega)]
  · congr 1
    cases hf : (List.range l.length).find? fun i => l.getD i 0 == n with
    | none =>
      rw [List.find?_eq_none] at hf
      rw [eq_comm, show Option.elim none false (fun _ : Nat => true) = false from rfl, List.any_eq_false]
      exact hf
    | some i =>
      rw [List.find?_range_eq_some] at hf
      rw [eq_comm, show Option.elim (some i) false (fun _ : Nat => true) = true from rfl, List.any_eq_true]
      exact ⟨i, hf.2.1, hf.1⟩
  · intro k i _ hi hp
    have hp' : ¬ l.getD i 0 = n := by simpa using hp
    simp only [spec_l13Has.l0, rd_nat]
    rw [if_pos (by omega), if_pos (by omega), if_neg hp', wrap_succ hi hl]
  · intro k i _ hi hp
    have hp' : l.getD i 0 = n := by simpa using hp
    simp only [spec_l13Has.l0, rd_nat]
    rw [if_pos (by omega), if_pos (by omega), if_pos hp']
  · intro k _
    simp only [spec_l13Has.l0]
    rw [if_neg (by omega)]
def appOf (p q s : List Int) (n : Int) : Int := if has s n = true then 0 else if has q n = true then 2 else if has p n = true then 3 else 1
theorem one1 (a : Int) (p q s : List Int) (n : Int) (h1 : p.length ≤ 1048576) (h2 : q.length ≤ 1048576) (h3 : s.length ≤ 1048576) (k : Nat) (hk : 1048576 < k) : spec_AppraiseOne.f k a p q s n = some (appOf p q s n) := by
  simp only [spec_AppraiseOne.f, has1 p n (by omega) k (by omega), has1 q n (by omega) k (by omega), has1 s n (by omega) k (by omega), Option.bind_some, appOf]
  split
  · rfl
  · split
    · rfl
    · split <;> rfl
theorem one2 (a : Int) (p q s : List Int) (n : Int) (h1 : p.length ≤ 1048576) (h2 : q.length ≤ 1048576) (h3 : s.length ≤ 1048576) (k : Nat) (hk : 1048576 < k) : impl_AppraiseOne.f k a p q s n = some (appOf p q s n) := by
  simp only [impl_AppraiseOne.f, has2 p n (by omega) k (by omega), has2 q n (by omega) k (by omega), has2 s n (by omega) k (by omega), Option.bind_some, appOf]
  split
  · rfl
  · split
    · rfl
    · split <;> rfl
def strict (p q s u v w : List Int) : Bool := (List.range 100).all fun i => decide (appOf p q s (i : Int) ≤ appOf u v w (i : Int))
theorem stricter1 (a : Int) (p q s : List Int) (b : Int) (u v w : List Int) (h1 : p.length ≤ 1048576) (h2 : q.length ≤ 1048576) (h3 : s.length ≤ 1048576) (h4 : u.length ≤ 1048576) (h5 : v.length ≤ 1048576) (h6 : w.length ≤ 1048576) (k : Nat) (hk : 4194304 < k) : spec_IsStricter.f k a p q s b u v w = some (strict p q s u v w) := by
  unfold spec_IsStricter.f strict
  rw [allLoop (fun k i => spec_IsStricter.l0 k i a p q s b u v w) 100 1048577 (fun i => decide (appOf p q s (i : Int) ≤ appOf u v w (i : Int))) false true ?_ ?_ ?_ k (by omega)]
  · cases (List.range 100).all fun i => decide (appOf p q s (i : Int) ≤ appOf u v w (i : Int)) <;> rfl
  · intro k i hk hi hp
    have hp' := of_decide_eq_true hp
    simp only [spec_IsStricter.l0]
    rw [if_pos (by omega), one1 a p q s _ h1 h2 h3 k (by omega), Option.bind_some, one1 b u v w _ h4 h5 h6 k (by omega), Option.bind_some, if_neg (by omega), wrap_succ hi (by omega)]
  · intro k i hk hi hp
    have hp' := of_decide_eq_false hp
    simp only [spec_IsStricter.l0]
    rw [if_pos (by omega), one1 a p q s _ h1 h2 h3 k (by omega), Option.bind_some, one1 b u v w _ h4 h5 h6 k (by omega), Option.bind_some, if_pos (by omega)]
  · intro k _
    simp only [spec_IsStricter.l0]
    rw [if_neg (by omega)]
theorem stricter2 (a : Int) (p q s : List Int) (b : Int) (u v w : List Int) (h1 : p.length ≤ 1048576) (h2 : q.length ≤ 1048576) (h3 : s.length ≤ 1048576) (h4 : u.length ≤ 1048576) (h5 : v.length ≤ 1048576) (h6 : w.length ≤ 1048576) (k : Nat) (hk : 4194304 < k) : impl_IsStricter.f k a p q s b u v w = some (strict p q s u v w) := by
  unfold impl_IsStricter.f strict
  rw [allLoop (fun k i => impl_IsStricter.l0 k i a p q s b u v w) 100 1048577 (fun i => decide (appOf p q s (i : Int) ≤ appOf u v w (i : Int))) false true ?_ ?_ ?_ k (by omega)]
  · cases (List.range 100).all fun i => decide (appOf p q s (i : Int) ≤ appOf u v w (i : Int)) <;> rfl
  · intro k i hk hi hp
    have hp' := of_decide_eq_true hp
    simp only [impl_IsStricter.l0]
    rw [if_pos (by omega), one2 a p q s _ h1 h2 h3 k (by omega), Option.bind_some, one2 b u v w _ h4 h5 h6 k (by omega), Option.bind_some, if_neg (by omega), wrap_succ hi (by omega)]
  · intro k i hk hi hp
    have hp' := of_decide_eq_false hp
    simp only [impl_IsStricter.l0]
    rw [if_pos (by omega), one2 a p q s _ h1 h2 h3 k (by omega), Option.bind_some, one2 b u v w _ h4 h5 h6 k (by omega), Option.bind_some, if_pos (by omega)]
  · intro k _
    simp only [impl_IsStricter.l0]
    rw [if_neg (by omega)]
theorem FnExactIsStricter : laws_FnExactIsStricter.Pure := by
  intro a p q s b u v w _ hp hq hs _ hu hv hw
  suffices h : ∀ k, 4194305 < k → laws_FnExactIsStricter.f k a p q s b u v w = some true from ⟨4194306, h _ (by omega)⟩
  intro k hk
  unfold laws_FnExactIsStricter.f
  obtain ⟨r, hr, hc⟩ := szAllowed a p q s 1048576 (by omega) (by omega) hp.1 hq.1 hs.1
  rw [hr, Option.bind_some]
  by_cases hn : r < 0
  · rw [if_pos hn]
  obtain ⟨g0, g1, h1, h2, h3⟩ := hc.resolve_left hn
  rw [if_neg hn]
  obtain ⟨r2, hr2, hc2⟩ := szAllowed b u v w r g0 g1 hu.1 hv.1 hw.1
  rw [hr2, Option.bind_some]
  by_cases hn2 : r2 < 0
  · rw [if_pos hn2]
  obtain ⟨_, _, h4, h5, h6⟩ := hc2.resolve_left hn2
  rw [if_neg hn2]
  simp only [toAllowed a p q s h1 h2 h3 k (by omega), toAllowed b u v w h4 h5 h6 k (by omega), stricter1 a p q s b u v w h1 h2 h3 h4 h5 h6 k (by omega), stricter2 a p q s b u v w h1 h2 h3 h4 h5 h6 k (by omega), eqAllowed_self a p q s h1 h2 h3 k (by omega), eqAllowed_self b u v w h4 h5 h6 k (by omega), Option.bind_some, bne_self_eq_false, if_true]
  rfl
end Go.Proofs.Ytlmhemcpkmjkiaa.Pure
